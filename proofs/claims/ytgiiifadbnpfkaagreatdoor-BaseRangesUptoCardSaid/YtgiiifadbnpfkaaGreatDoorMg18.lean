/- Contracts of functions of the program: what each returns and leaves in memory. Printed by gen.py and walk.py. A store of several cells into an element of a row. A range over a function in a round of another range over a function. -/
import Derived.Test.YtgiiifadbnpfkaaGreatDoorMg17
import Derived.Test.YtgiiifadbnpfkaaGreatDoorMg16
import Derived.Test.YtgiiifadbnpfkaaGreatDoorRows
import Derived.Test.YtgiiifadbnpfkaaGreatDoorHxTurn
import Derived.Test.YtgiiifadbnpfkaaGreatDoorMg12
import Derived.Test.YtgiiifadbnpfkaaGreatDoorHxFunc
import Derived.RangeFuncNested
set_option maxRecDepth 10000
namespace Go.Proofs.YtgiiifadbnpfkaaGreatDoor
open Go Go.Hw
set_option linter.unusedSimpArgs false
set_option linter.unusedVariables false
theorem foundF_nil {g : BaseG} {k : Nat} {F : List (At × Nat)} (b : BS g k F) {p : At} {parts : Int} (h : (selF (factsB g) parts).filter (matchB p) = []) : foundF F parts p = [] := by
  have h1 := (selF_perm b.fs.symm parts).filter (matchB p)
  rw [h] at h1
  unfold foundF
  rw [h1.eq_nil]; exact List.mergeSort_nil
theorem turns0 {w w' : World} (h : Fr0 w w') : Turns [] [] w w' := ⟨h.mono (fun _ f => f.elim), by simp, by simp, .nil⟩
theorem ck_i64 {vs : List Tm} (hv : vs.length ≤ 1099511627776) (ts : List Tm) (ht : ts.length ≤ 1048576) : i64s ((ckOf vs 0 ts).map (·.1)) ∧ i64s ((ckOf vs 0 ts).map (·.2)) := by
  constructor
  · intro n hn
    obtain ⟨q, hq, rfl⟩ := List.mem_map.1 hn
    have := ck_col vs 0 ts q hq
    constructor <;> omega
  · intro n hn
    obtain ⟨q, hq, rfl⟩ := List.mem_map.1 hn
    obtain ⟨j, t, _, _, _, h4⟩ := ck_get vs 0 ts q hq
    rw [h4]
    cases hq2 : numOf vs t with
    | none => simp
    | some m => have := numOf_lt hq2; simp only [Option.getD_some]; constructor <;> omega
theorem own_box {w0 ws w : World} {M I : Nat → Prop} {ow : List Hw.Item} (h : Sat w0 M I ws ow w) {b : Nat} {v : Value} {T : TypeId} (hm : own b (.cells [v].toArray T (0, 0)) ∈ ow) : w.cell? ⟨b, 0, none⟩ = some v := (cell_at (h.it _ hm) (o := 0) rfl).1
theorem sub_tabP {g : BaseG} {X : List Hw.Item} : (tabA g).Sublist (X ++ baseA g) := (List.sublist_append_left (tabA g) _).trans (List.sublist_append_right X _)

theorem selR_and2 {g : RelG} (ok : RelOK g) (parts : Int) (cs ks : List Int) : selR (rp g) (bits .and .i64 parts 7) cs ks = selR (rp g) parts cs ks := by
  unfold selR
  congr 2
  refine List.filter_congr fun q hq => ?_
  obtain ⟨e, he, rfl⟩ := List.mem_map.1 hq
  rw [inP_and parts (ok.part e he)]

theorem selR_mem2 {L : List (List Int × Nat)} {parts : Int} {cols key : List Int} {l : List Int} (h : l ∈ selR L parts cols key) : ∃ q ∈ L, q.1 = l := by
  have h1 := (sortR_perm _).mem_iff.1 h
  obtain ⟨q, hq, rfl⟩ := List.mem_map.1 h1
  exact ⟨q, (List.mem_filter.1 hq).1, rfl⟩

set_option maxHeartbeats 2000000 in
theorem bfnd_calls (g : BaseG) (k : Nat) (F : List (At × Nat)) (b : BS g k F) (hk : k ≤ 100000000000) (parts : Int) (p : At) (a : Option Addr) (c : Nat) (hl : p.args.length ≤ 1048575) (w : World) (hr : RT w a p.args) (hne : ∀ q, a = some q → 0 < p.args.length → ¬ DD (baseA g) q.block) (hA : Holds (baseA g) w) :
  Calls Tryz.prog 54 #[ptr g.p, .int .i64 parts, atV p a c] w fun e w' => ∃ z : AnsA, e = .returned (.slice z.a z.ys.length z.c) ∧ (z.ys.map AG.x = foundF F parts p ∧ BS z.g k F ∧ z.g.p = g.p ∧ (∀ y ∈ z.ys, y.x.args.length ≤ 8) ∧ z.ys.length ≤ k) ∧ Turns (baseA g) (baseA z.g ++ atsA z.a z.c z.ys) w w' := by
  refine enterA hA (args := [ptr g.p, .int .i64 parts, atV p a c]) Tryz.func54 rfl Tryz.ntmps54 rfl rfl ?_
  refine Csr (WL.box rfl rfl rfl ?_)
  intro b3
  refine WL.box rfl rfl rfl ?_
  intro b5
  refine Za rfl (Nn (Csr (Zv (OV.loadN (cs := atC p a c) rfl T.u34 rfl T.z34 (fun _ hw j v hj => by rw [add_off, Nat.zero_add]; exact own_cells hw (.head _) j v hj)) (WL.call0 (v := pdV (predOf p)) (by kernel_rfl) rfl rfl (fun w' hw' => pred_calls p a c w') ?_))))
  refine WL.alloc T.zr43 rfl ?_
  intro b7
  refine WL.storeAll (vs := pdC (predOf p)) rfl rfl rfl T.z43 rfl ?_
  refine Nn (Cs (Hd (fun w' => w'.heap[b3]? = some (.cells [ptr g.p].toArray 23 (0, 0)) ∧ w'.heap[g.p]? = some (.cells (baseC g).toArray 84 (0, 0)) ∧ w'.heap[g.rb]? = some (mapK pdV (relKV g.rs)) ∧ w'.heap[b7]? = some (.cells (pdC (predOf p)).toArray 43 (0, 0))) [] (fun _ hw => ⟨hw.it (own b3 (.cells [ptr g.p].toArray 23 (0, 0))) (by simp), hw.it (hdB g) (.tail _ (.tail _ (.tail _ (.head _)))), hw.it (rbA g) (.tail _ (.tail _ (.tail _ (List.mem_append_right _ (.head _))))), hw.it (own b7 (.cells (pdC (predOf p)).toArray 43 (0, 0))) (.head _)⟩) (m := 7) rfl ?_))
  refine Ht 0 rfl (OV.load1 (v := ptr g.p) rfl T.u23 rfl (fun _ hw => (cell_at hw.1 (o := 0) rfl).1)) (Hf 1 rfl (OV.nilCheck rfl) (Hf 2 rfl (OV.fieldAddr0 (off := 2) rfl T.u84 rfl) (Ht 3 rfl (OV.load1 (v := .map (some g.rb)) rfl T.u82 rfl (fun _ hw => (cell_at hw.2.1 (o := 2) rfl).1)) (Ht 4 rfl (OV.loadN (cs := pdC (predOf p)) rfl T.u43 rfl T.z43 (fun _ hw j v hj => by rw [add_off]; exact heap_part hw.2.2.2 (o := 0) (cs' := pdC (predOf p)) rfl j v hj)) (Ht 5 rfl ((OV.lookup pdKey T.u82 (show Program.zv Tryz.prog 85 = some (.pointer none) by kernel_rfl) rfl rfl (fun _ hw => hw.2.2.1)).cast (u := .pointer ((relOf g.rs (predOf p)).map fun z => ⟨z.r, 0, none⟩)) (by rw [relKV_got]; cases relOf g.rs (predOf p) <;> rfl)) (Hf 6 rfl (OV.assign rfl) (He (Xn (Cs (Csr (Zm rfl (Zv (OV.eqlPN T.u85 rfl rfl) (Nn ?_)))))))))))))
  refine Cc rfl (fun c29 => ?_) (fun c29 => ?_)
  · refine Csr (Za rfl (Nn (WC.ret ?_)))
    refine Xr ?_
    have hnil := foundF_nil b (found_none b.ok (by simpa using c29) parts)
    refine WX.ret1 rfl rfl rfl (fun w' hw => ⟨⟨g, none, 0, []⟩, rfl, ⟨by rw [hnil]; rfl, b, rfl, (fun y hy => by cases hy), Nat.zero_le _⟩, ?_⟩)
    have h2 := (hw.rowNil 34 5).pick [[row 34 5 none 0 0 []], [own b7 (.cells (pdC (predOf p)).toArray 43 (0, 0)), own b5 (.cells (atC p a c).toArray 34 (0, 0)), own b3 (.cells [ptr g.p].toArray 23 (0, 0))], baseA g] [2, 0] 3 rfl (by decide) (by decide)
    exact Hw.Sat.turned (h2.perm (List.Perm.of_eq (by simp [cat, atsA, argsA, rowAt])))
  refine Ck (Xn (Cs ?_))
  obtain ⟨gr, hrel⟩ : ∃ gr, relOf g.rs (predOf p) = some gr := by
    cases hq : relOf g.rs (predOf p) with
    | none => rw [hq] at c29; simp at c29
    | some gr => exact ⟨gr, rfl⟩
  have hmem := relOf_mem hrel
  have okr := b.ok.ok _ hmem
  simp only [hrel, Option.map_some]
  refine Cr (Za rfl (Za rfl (Nn (Cs (Csr (Zv (OV.fieldAddr0 (off := 0) rfl T.u34 rfl) (Zv (OV.loadN (cs := tmC p.b) rfl T.u31 rfl T.z31 (fun _ hw j v hj => by rw [add_off]; exact own_part hw (.tail _ (.head _)) (o := 0) (cs' := tmC p.b) rfl j v hj)) (WL.buildSliceA (cs := tmC p.b) T.u32 T.z31 T.zr31 rfl rfl (by omega) (by omega) rfl ?_))))))))
  intro b32
  refine WL.weak (S' := SatA w (baseA g) (row 31 3 (some ⟨b32, 0, none⟩) 1 1 (tmC p.b) :: own b7 (.cells (pdC (predOf p)).toArray 43 (0, 0)) :: own b5 (.cells (atC p a c).toArray 34 (0, 0)) :: own b3 (.cells [ptr g.p].toArray 23 (0, 0)) :: baseA g)) (fun w' hw => hw.asRow (m := 1) rfl (by decide)) ?_
  refine Zv (OV.fieldAddr0 (off := 4) rfl T.u34 rfl) (Zv (OV.load1 (v := .slice a p.args.length c) rfl T.u32 rfl (fun _ hw => (cell_at (hw.it _ (.tail _ (.tail _ (.head _)))) (o := 4) rfl).1)) (WL.append (news := p.args.flatMap tmC) rfl rfl T.apT (fun _ _ => Src.of_rt hr.nil (fun _ hw => hr.satA hne hw)) (tms_one _) ⟨by omega, by unfold maxLen; omega⟩ rfl ?_))
  intro a35 c35
  refine Zv (OV.lenSlice rfl T.u32) (Zm rfl (Nn (Cb ?_)))
  have el : 1 + p.args.length = (plc p).length := by show _ = p.args.length + 1; omega
  have ef : tmC p.b ++ p.args.flatMap tmC = (plc p).flatMap tmC := rfl
  have hpn : (plc p).length = p.args.length + 1 := rfl
  rw [el, ef]
  refine WC.know (fun w' hw => (show ∃ b, a35 = some ⟨b, 0, none⟩ from row_addrK (hw.it (rowT a35 c35 (plc p)) (.head _)) (by omega))) (fun hq => ?_)
  obtain ⟨q35, rfl⟩ := hq
  refine WC.weak (S' := SatA w (baseA g) (row 3 1 none ((ckOf g.vs 0 ((plc p).take 0)).map (·.1)).length 0 (ints ((ckOf g.vs 0 ((plc p).take 0)).map (·.1))) :: row 3 1 none ((ckOf g.vs 0 ((plc p).take 0)).map (·.2)).length 0 (ints ((ckOf g.vs 0 ((plc p).take 0)).map (·.2))) :: rowT (some ⟨q35, 0, none⟩) c35 (plc p) :: own b7 (.cells (pdC (predOf p)).toArray 43 (0, 0)) :: own b5 (.cells (atC p a c).toArray 34 (0, 0)) :: own b3 (.cells [ptr g.p].toArray 23 (0, 0)) :: baseA g)) (fun w' hw => ((hw.rowNil 3 1).rowNil 3 1).perm (List.Perm.of_eq (by first | rfl | (simp [ckOf, ints]; rfl)))) ?_
  refine WC.loop5 (fun (i : Nat) (ca : Option Addr) (cc : Nat) (ka : Option Addr) (kc : Nat) => [(1, .int .i64 parts), (3, .pointer (some ⟨b3, 0, none⟩)), (5, .pointer (some ⟨b5, 0, none⟩)), (7, .pointer (some ⟨b7, 0, none⟩)), (8, ptr gr.r), (9, .slice ca ((ckOf g.vs 0 ((plc p).take i)).map (·.1)).length cc), (10, .slice ka ((ckOf g.vs 0 ((plc p).take i)).map (·.2)).length kc), (35, .slice (some ⟨q35, 0, none⟩) (plc p).length c35), (36, .int .i64 ((plc p).length : Int)), (37, .int .i64 (i : Int))])
      (fun i ca cc ka kc w' => (i ≤ (plc p).length ∧ allKnown g.vs ((plc p).take i)) ∧ SatA w (baseA g) (row 3 1 ca ((ckOf g.vs 0 ((plc p).take i)).map (·.1)).length cc (ints ((ckOf g.vs 0 ((plc p).take i)).map (·.1))) :: row 3 1 ka ((ckOf g.vs 0 ((plc p).take i)).map (·.2)).length kc (ints ((ckOf g.vs 0 ((plc p).take i)).map (·.2))) :: rowT (some ⟨q35, 0, none⟩) c35 (plc p) :: own b7 (.cells (pdC (predOf p)).toArray 43 (0, 0)) :: own b5 (.cells (atC p a c).toArray 34 (0, 0)) :: own b3 (.cells [ptr g.p].toArray 23 (0, 0)) :: baseA g) w')
      (fun i _ _ _ _ => (plc p).length - i) 0 none 0 none 0 ⟨rfl, rfl, rfl, rfl, rfl, rfl, rfl, by rw [← el]; rfl, by rw [← el]; rfl, rfl, trivial⟩ (fun w' hw => ⟨⟨by omega, fun t ht => by simp at ht⟩, hw⟩) ?_
  intro i ca cc ka kc
  refine WC.pure (fun hi => ?_)
  obtain ⟨hi, hkn⟩ := hi
  refine Csr (Zv (OV.lss rfl rfl) (Nn (Cs ?_)))
  refine Cc rfl (fun c38 => ?_) (fun c38 => ?_)
  · refine Ck (Xn (Cs (Cb (Csr (Zm rfl ?_)))))
    obtain ⟨t, htp⟩ : ∃ t, (plc p)[i]? = some t := ⟨_, List.getElem?_eq_getElem (by omega)⟩
    have htk : (plc p).take (i + 1) = (plc p).take i ++ [t] := by rw [List.take_add_one, htp]; rfl
    refine Zv ((OV.indexSlice rfl rfl T.u32 T.z31 (by omega)).cast (u := .pointer (some ((⟨q35, 0, none⟩ : Addr).add (i * 3)))) (by rw [Int.toNat_natCast])) ?_
    refine WL.val (OV.loadN (cs := tmC t) rfl T.u31 rfl T.z31 (fun _ hw j v hj => by have hj3 : j < 3 := (List.getElem?_eq_some_iff.1 hj).1; have h := row_cellsφE rfl (hw.it (rowT (some ⟨q35, 0, none⟩) c35 (plc p)) (.tail _ (.tail _ (.head _)))) (i * 3 + j) v (by rw [flat_get tmC_len _ i j t htp (by omega)]; exact hj); rwa [add_add] at h)) rfl ?_
    refine WL.alloc T.zr31 rfl ?_
    intro b12
    refine Za rfl (WL.storeAll (vs := tmC t) rfl rfl rfl T.z31 rfl ?_)
    refine Nn (Cs (Csr (Zv (OV.loadN (cs := tmC t) rfl T.u31 rfl T.z31 (fun _ hw j v hj => by rw [add_off, Nat.zero_add]; exact own_cells hw (.head _) j v hj)) (WL.call0 (v := .bool (varB t)) (by kernel_rfl) rfl rfl (fun w' hw' => var_calls t w') ?_))))
    refine Nn ?_
    refine Cc rfl (fun c43 => ?_) (fun c43 => ?_)
    · refine Ce (Xe (Xh (Xn (Cr (Zv (OV.addN (j := 1) rfl rfl (by omega)) (Zm rfl (Nl ?_)))))))
      have hv : varB t = true := by simpa using c43
      have e1 : ckOf g.vs 0 ((plc p).take (i + 1)) = ckOf g.vs 0 ((plc p).take i) := by rw [htk, ck_snoc, if_pos hv, List.append_nil]
      exact WX.round5 (i + 1) ca cc ka kc ⟨rfl, rfl, rfl, rfl, rfl, by rw [e1]; rfl, by rw [e1]; rfl, rfl, rfl, rfl, trivial⟩ (fun w' hw => ⟨⟨by omega, fun u hu h0 => by
        rw [htk] at hu
        rcases List.mem_append.1 hu with h | h
        · exact hkn u h h0
        · simp only [List.mem_singleton] at h; subst h; rw [hv] at h0; cases h0⟩, by rw [e1]; exact hw.drop⟩) (by show (plc p).length - (i + 1) < (plc p).length - i; omega)
    refine Ck (Xn (Cs (Hd (fun w' => w'.heap[b3]? = some (.cells [ptr g.p].toArray 23 (0, 0)) ∧ w'.heap[b12]? = some (.cells (tmC t).toArray 31 (0, 0))) [] (fun _ hw => ⟨hw.it (own b3 (.cells [ptr g.p].toArray 23 (0, 0))) (by simp), hw.it (own b12 (.cells (tmC t).toArray 31 (0, 0))) (.head _)⟩) (m := 10) rfl ?_)))
    refine Ht 0 rfl (OV.load1 (v := ptr g.p) rfl T.u23 rfl (fun _ hw => (cell_at hw.1 (o := 0) rfl).1)) (Hf 1 rfl (OV.nilCheck rfl) (Hf 2 rfl (OV.fieldAddr0 (off := 0) rfl T.u84 rfl) (Ht 3 rfl (OV.loadN (cs := tmC t) rfl T.u31 rfl T.z31 (fun _ hw j v hj => by rw [add_off]; exact heap_part hw.2 (o := 0) (cs' := tmC t) rfl j v hj)) (Ho 4 rfl (fl' := false) rfl ?_))))
    refine WL.call0 (v := .tuple #[.int .i64 (((numOf g.vs t).getD 0 : Nat) : Int), .bool (numOf g.vs t).isSome]) (by kernel_rfl) rfl rfl (fun w' hw' => known_calls g b.ok t w' (Hw.Sat.part (sub_tabP (X := [own b12 (.cells (tmC t).toArray 31 (0, 0)), row 3 1 ca ((ckOf g.vs 0 ((plc p).take i)).map (·.1)).length cc (ints ((ckOf g.vs 0 ((plc p).take i)).map (·.1))), row 3 1 ka ((ckOf g.vs 0 ((plc p).take i)).map (·.2)).length kc (ints ((ckOf g.vs 0 ((plc p).take i)).map (·.2))), rowT (some ⟨q35, 0, none⟩) c35 (plc p), own b7 (.cells (pdC (predOf p)).toArray 43 (0, 0)), own b5 (.cells (atC p a c).toArray 34 (0, 0)), own b3 (.cells [ptr g.p].toArray 23 (0, 0))])) hw').holdsAll) ?_
    refine Hc (fun _ => (fun _ hw => ⟨hw.it (own b3 (.cells [ptr g.p].toArray 23 (0, 0))) (by simp), hw.it (own b12 (.cells (tmC t).toArray 31 (0, 0))) (.head _)⟩)) ?_
    refine Hf 5 rfl (OV.move rfl) (Hf 6 rfl (OV.extract rfl rfl) (Hf 7 rfl (OV.extract rfl rfl) (Hf 8 rfl (OV.assign rfl) (Hf 9 rfl (OV.assign rfl) (He (Xn (Cs (Csr (Zm rfl (Zv (OV.not rfl) (Nn ?_)))))))))))
    refine Cc rfl (fun c53 => ?_) (fun c53 => ?_)
    · refine Csr (Za rfl (Nn (WC.ret ?_)))
      refine Xr (Xq (Xr (Xr (Xq (Xr ?_)))))
      have hv : varB t = false := by simpa using c43
      have hnil := foundF_nil b (found_unknown b.ok (fun hk => by have h := hk t (List.mem_of_getElem? htp) hv; rw [h] at c53; simp at c53) parts)
      refine WX.ret1 rfl rfl rfl (fun w' hw => ⟨⟨g, none, 0, []⟩, rfl, ⟨by rw [hnil]; rfl, b, rfl, (fun y hy => by cases hy), Nat.zero_le _⟩, ?_⟩)
      have h2 := (hw.rowNil 34 5).pick [[row 34 5 none 0 0 []], [own b12 (.cells (tmC t).toArray 31 (0, 0)), row 3 1 ca ((ckOf g.vs 0 ((plc p).take i)).map (·.1)).length cc (ints ((ckOf g.vs 0 ((plc p).take i)).map (·.1))), row 3 1 ka ((ckOf g.vs 0 ((plc p).take i)).map (·.2)).length kc (ints ((ckOf g.vs 0 ((plc p).take i)).map (·.2))), rowT (some ⟨q35, 0, none⟩) c35 (plc p), own b7 (.cells (pdC (predOf p)).toArray 43 (0, 0)), own b5 (.cells (atC p a c).toArray 34 (0, 0)), own b3 (.cells [ptr g.p].toArray 23 (0, 0))], baseA g] [2, 0] 3 rfl (by decide) (by decide)
      exact Hw.Sat.turned (h2.perm (List.Perm.of_eq (by simp [cat, atsA, argsA, rowAt])))
    refine Ck (Xn ?_)
    obtain ⟨n, hn⟩ : ∃ n, numOf g.vs t = some n := by
      cases hq : numOf g.vs t with
      | none => rw [hq] at c53; simp at c53
      | some n => exact ⟨n, rfl⟩
    have hcl := ck_len g.vs 0 ((plc p).take i)
    have hc1 : ((ckOf g.vs 0 ((plc p).take i)).map (·.1)).length = (ckOf g.vs 0 ((plc p).take i)).length := List.length_map ..
    have hk1 : ((ckOf g.vs 0 ((plc p).take i)).map (·.2)).length = (ckOf g.vs 0 ((plc p).take i)).length := List.length_map ..
    rw [List.length_take] at hcl
    simp only [hn, Option.getD_some]
    refine Cr (Zm rfl (Zm rfl (WL.buildSlice1 (v := .int .i64 (i : Int)) T.u74 T.z3 T.zr3 rfl rfl rfl ?_)))
    intro b56
    refine WL.focus (ow' := row 3 1 ca ((ckOf g.vs 0 ((plc p).take i)).map (·.1)).length cc (ints ((ckOf g.vs 0 ((plc p).take i)).map (·.1))) :: own b56 (.cells [Value.int .i64 (i : Int)].toArray 3 (0, 0)) :: own b12 (.cells (tmC t).toArray 31 (0, 0)) :: row 3 1 ka ((ckOf g.vs 0 ((plc p).take i)).map (·.2)).length kc (ints ((ckOf g.vs 0 ((plc p).take i)).map (·.2))) :: rowT (some ⟨q35, 0, none⟩) c35 (plc p) :: own b7 (.cells (pdC (predOf p)).toArray 43 (0, 0)) :: own b5 (.cells (atC p a c).toArray 34 (0, 0)) :: own b3 (.cells [ptr g.p].toArray 23 (0, 0)) :: baseA g) (perm_pick [_, _, _] [2, 0, 1] (by decide) rfl) ?_
    refine WL.append (news := [.int .i64 (i : Int)]) rfl rfl T.apI (fun _ _ => own_src (.tail _ (.head _)) rfl) (ints_one [(i : Int)]) ⟨by omega, by unfold maxLen; omega⟩ rfl ?_
    intro a57 c57
    refine Zm rfl (Zm rfl (WL.buildSlice1 (v := .int .i64 ((n : Nat) : Int)) T.u74 T.z3 T.zr3 rfl rfl rfl ?_))
    intro b60
    refine WL.focus perm4 ?_
    refine WL.append (news := [.int .i64 ((n : Nat) : Int)]) rfl rfl T.apI (fun _ _ => own_src (.tail _ (.head _)) rfl) (ints_one [(n : Int)]) ⟨by omega, by unfold maxLen; omega⟩ rfl ?_
    intro a61 c61
    refine Za rfl (Za rfl (Nl (Xb (Xn (Cr (Zv (OV.addN (j := 1) rfl rfl (by omega)) (Zm rfl (Nl ?_))))))))
    have hv : ¬ varB t = true := by simpa using c43
    have hil : ((plc p).take i).length = i := by rw [List.length_take]; omega
    have e1 : ckOf g.vs 0 ((plc p).take (i + 1)) = ckOf g.vs 0 ((plc p).take i) ++ [((i : Int), ((n : Nat) : Int))] := by rw [htk, ck_snoc, if_neg hv, hil, hn, Nat.zero_add]; rfl
    have e2 : ((ckOf g.vs 0 ((plc p).take (i + 1))).map (·.1)) = ((ckOf g.vs 0 ((plc p).take i)).map (·.1)) ++ [(i : Int)] := by rw [e1, List.map_append]; rfl
    have e3 : ((ckOf g.vs 0 ((plc p).take (i + 1))).map (·.2)) = ((ckOf g.vs 0 ((plc p).take i)).map (·.2)) ++ [((n : Nat) : Int)] := by rw [e1, List.map_append]; rfl
    have l2 : ((ckOf g.vs 0 ((plc p).take i)).map (·.1)).length + 1 = ((ckOf g.vs 0 ((plc p).take (i + 1))).map (·.1)).length := by rw [e2]; simp
    have l3 : ((ckOf g.vs 0 ((plc p).take i)).map (·.2)).length + 1 = ((ckOf g.vs 0 ((plc p).take (i + 1))).map (·.2)).length := by rw [e3]; simp
    have i2 : ints ((ckOf g.vs 0 ((plc p).take i)).map (·.1)) ++ [.int .i64 (i : Int)] = ints ((ckOf g.vs 0 ((plc p).take (i + 1))).map (·.1)) := by rw [e2]; simp [ints]
    have i3 : ints ((ckOf g.vs 0 ((plc p).take i)).map (·.2)) ++ [.int .i64 ((n : Nat) : Int)] = ints ((ckOf g.vs 0 ((plc p).take (i + 1))).map (·.2)) := by rw [e3]; simp [ints]
    refine WX.round5 (i + 1) a57 c57 a61 c61 ⟨rfl, rfl, rfl, rfl, rfl, by rw [← l2]; rfl, by rw [← l3]; rfl, rfl, rfl, rfl, trivial⟩ (fun w' hw => ⟨⟨by omega, fun u hu h0 => ?_⟩, ?_⟩) (by show (plc p).length - (i + 1) < (plc p).length - i; omega)
    · rw [htk] at hu
      rcases List.mem_append.1 hu with h | h
      · exact hkn u h h0
      · simp only [List.mem_singleton] at h; subst h; rw [hn]; rfl
    · rw [l2, l3, i2, i3] at hw
      exact hw.pick [[row 3 1 a61 ((ckOf g.vs 0 ((plc p).take (i + 1))).map (·.2)).length c61 (ints ((ckOf g.vs 0 ((plc p).take (i + 1))).map (·.2)))], [own b60 (.cells [Value.int .i64 ((n : Nat) : Int)].toArray 3 (0, 0))], [row 3 1 a57 ((ckOf g.vs 0 ((plc p).take (i + 1))).map (·.1)).length c57 (ints ((ckOf g.vs 0 ((plc p).take (i + 1))).map (·.1)))], [own b56 (.cells [Value.int .i64 (i : Int)].toArray 3 (0, 0))], [own b12 (.cells (tmC t).toArray 31 (0, 0))], [rowT (some ⟨q35, 0, none⟩) c35 (plc p)], [own b7 (.cells (pdC (predOf p)).toArray 43 (0, 0))], [own b5 (.cells (atC p a c).toArray 34 (0, 0))], [own b3 (.cells [ptr g.p].toArray 23 (0, 0))], baseA g] [2, 0, 5, 6, 7, 8, 9] 10 rfl (by decide) (by decide)
  refine Ce (Xe (Xe (Xh (Xn (Cs ?_)))))
  have hie : (plc p).take i = plc p := List.take_of_length_le (by omega)
  rw [hie] at hkn
  simp only [hie]
  have hck := ck_len g.vs 0 (plc p)
  have hi6 := ck_i64 b.ok.vl (plc p) (by omega)
  obtain ⟨r1, r2, hs⟩ := List.append_of_mem hmem
  have hcl : ((ckOf g.vs 0 (plc p)).map (·.1)).length = (ckOf g.vs 0 (plc p)).length := List.length_map ..
  have hkl : ((ckOf g.vs 0 (plc p)).map (·.2)).length = (ckOf g.vs 0 (plc p)).length := List.length_map ..
  generalize hC : (ckOf g.vs 0 (plc p)).map (·.1) = cs at *
  generalize hK : (ckOf g.vs 0 (plc p)).map (·.2) = ks at *
  refine Cr (WL.alloc T.zr27 rfl ?_)
  intro b15
  refine Nn (Cs (Csr (Zm rfl (Zm rfl (Zv (OV.and rfl rfl) (Zm rfl (Zm rfl (WL.focus (ow' := [own b15 (.cells [.slice none 0 0].toArray 27 (0, 0))] ++ ([row 3 1 ca cs.length cc (ints cs), row 3 1 ka ks.length kc (ints ks), rowT (some ⟨q35, 0, none⟩) c35 (plc p), own b7 (.cells (pdC (predOf p)).toArray 43 (0, 0)), own b5 (.cells (atC p a c).toArray 34 (0, 0)), own b3 (.cells [ptr g.p].toArray 23 (0, 0))] ++ (tabA g ++ ([rbA g] ++ (relsA r1 ++ (relA gr ++ relsA r2)))))) (List.Perm.of_eq (by unfold baseA; rw [hs, relsA_mid]; rfl)) ?_))))))))
  refine WL.focus (ow' := relA gr ++ ([own b15 (.cells [.slice none 0 0].toArray 27 (0, 0))] ++ ([row 3 1 ca cs.length cc (ints cs), row 3 1 ka ks.length kc (ints ks), rowT (some ⟨q35, 0, none⟩) c35 (plc p), own b7 (.cells (pdC (predOf p)).toArray 43 (0, 0)), own b5 (.cells (atC p a c).toArray 34 (0, 0)), own b3 (.cells [ptr g.p].toArray 23 (0, 0))] ++ (tabA g ++ ([rbA g] ++ (relsA r1 ++ relsA r2)))))) (by exact perm_cat [[own b15 (.cells [.slice none 0 0].toArray 27 (0, 0))], [row 3 1 ca cs.length cc (ints cs), row 3 1 ka ks.length kc (ints ks), rowT (some ⟨q35, 0, none⟩) c35 (plc p), own b7 (.cells (pdC (predOf p)).toArray 43 (0, 0)), own b5 (.cells (atC p a c).toArray 34 (0, 0)), own b3 (.cells [ptr g.p].toArray 23 (0, 0))], tabA g, [rbA g], relsA r1, relA gr, relsA r2] [5, 0, 1, 2, 3, 4, 6] (by decide) rfl) ?_
  refine WL.callTA (ι := FB) (vs := [ptr gr.r, .int .i64 (bits .and .i64 parts 7), .slice ca cs.length cc, .slice ka ks.length kc]) (vv := fun Fb => Fb.fn) (pp := fun Fb => Fb.r = gr.r ∧ Fb.parts = (bits .and .i64 parts 7) ∧ QR gr.width cs ks Fb.ls Fb.ks Fb.b ∧ RelOK (colG gr Fb.col)) (relA gr) (AA := fun Fb => relA (colG gr Fb.col) ++ boxA Fb) rfl (by kernel_rfl) rfl rfl (fun w' hw' hH => (find_calls gr okr (bits .and .i64 parts 7) cs ks ca cs.length cc ka ks.length kc hi6.1 hi6.2 (by omega) (by omega) w' (RI.of_row (c := cc) hw' (List.mem_append_right _ (.tail _ (.head _)))) (RI.of_row (c := kc) hw' (List.mem_append_right _ (.tail _ (.tail _ (.head _))))) (fun q hq hl => Sat.sepO hw' (i := row 3 1 ca cs.length cc (ints cs)) (.tail _ (.head _)) ⟨q, hq, rfl⟩) (fun q hq hl => Sat.sepO hw' (i := row 3 1 ka ks.length kc (ints ks)) (.tail _ (.tail _ (.head _))) ⟨q, hq, rfl⟩) hH).mono (fun en w'' ⟨Fb, h1, h2, h3, h4, h5, h6⟩ => ⟨Fb, h1, ⟨h2, h3, h4, h5⟩, h6⟩)) ?_
  rintro Fb ⟨hFr, hFp, hq, ok1⟩
  refine Nn (Cb ?_)
  refine WC.weak (S' := SatA w (baseA g) ((relA (colG gr Fb.col) ++ boxA Fb) ++ ((fun y : Option Addr × Nat × List AG => own b15 (.cells [.slice y.1 y.2.2.length y.2.1].toArray 27 (0, 0)) :: (atsA y.1 y.2.1 y.2.2 ++ ([row 3 1 ca cs.length cc (ints cs), row 3 1 ka ks.length kc (ints ks), rowT (some ⟨q35, 0, none⟩) c35 (plc p), own b7 (.cells (pdC (predOf p)).toArray 43 (0, 0)), own b5 (.cells (atC p a c).toArray 34 (0, 0)), own b3 (.cells [ptr g.p].toArray 23 (0, 0))] ++ (tabA g ++ ([rbA g] ++ (relsA r1 ++ relsA r2)))))) (none, 0, []) ++ []))) (fun w' hw => ?_) ?_
  · have h2 := hw.rowNil 34 5
    refine h2.perm ?_
    exact (List.Perm.of_eq (by simp [cat, atsA, argsA, rowAt])).trans (perm_cat [[row 34 5 none 0 0 []], (relA (colG gr Fb.col) ++ boxA Fb), [own b15 (.cells [.slice none 0 0].toArray 27 (0, 0))], ([row 3 1 ca cs.length cc (ints cs), row 3 1 ka ks.length kc (ints ks), rowT (some ⟨q35, 0, none⟩) c35 (plc p), own b7 (.cells (pdC (predOf p)).toArray 43 (0, 0)), own b5 (.cells (atC p a c).toArray 34 (0, 0)), own b3 (.cells [ptr g.p].toArray 23 (0, 0))] ++ (tabA g ++ ([rbA g] ++ (relsA r1 ++ relsA r2))))] [1, 2, 0, 3] (by decide) rfl)
  refine WC.rangeFunc (RA := fun q => relA q ++ boxA Fb) (CC := (fun y : Option Addr × Nat × List AG => own b15 (.cells [.slice y.1 y.2.2.length y.2.1].toArray 27 (0, 0)) :: (atsA y.1 y.2.1 y.2.2 ++ ([row 3 1 ca cs.length cc (ints cs), row 3 1 ka ks.length kc (ints ks), rowT (some ⟨q35, 0, none⟩) c35 (plc p), own b7 (.cells (pdC (predOf p)).toArray 43 (0, 0)), own b5 (.cells (atC p a c).toArray 34 (0, 0)), own b3 (.cells [ptr g.p].toArray 23 (0, 0))] ++ (tabA g ++ ([rbA g] ++ (relsA r1 ++ relsA r2))))))) (EI := EIr) (arg := argr) (xs := (selR (rp gr) Fb.parts cs ks)) (g0 := (colG gr Fb.col)) (y0 := (none, 0, [])) (R01 := fun q => RelOK q ∧ RelLe (colG gr Fb.col) q ∧ q.es = (colG gr Fb.col).es) (Mono := fun q => RelLe (colG gr Fb.col) q) (gf := 94) (caps := Fb.caps) (ow := []) rfl rfl (by kernel_rfl) rfl (fun w' _ => find1_iter Fb (colG gr Fb.col) ok1 cs ks hq hFr (List.mem_append_right _ (.head _)) w')
    (fun k q y => RelOK q ∧ RelLe (colG gr Fb.col) q ∧ q.es = gr.es ∧ y.2.2.map AG.x = ((((selR (rp gr) Fb.parts cs ks).take k).map (atomOf g.vs (predOf p))).filter (matchB p)) ∧ (∀ z ∈ y.2.2, z.x.args.length ≤ 8)) (fun _ _ _ _ => False) (fun q hq => ⟨hq.1, hq.2.1, hq.2.2, by simp, fun z hz => by cases hz⟩) (fun k q y h => h.2.1) ?_ ?_ ?_
  · rintro l lr k q ⟨la, lc, ys⟩ d W rw hxs hJ hS
    obtain ⟨okq, leq, hqe, hys, hya⟩ : RelOK q ∧ RelLe (colG gr Fb.col) q ∧ q.es = gr.es ∧ ys.map AG.x = ((((selR (rp gr) Fb.parts cs ks).take k).map (atomOf g.vs (predOf p))).filter (matchB p)) ∧ (∀ z ∈ ys, z.x.args.length ≤ 8) := hJ
    obtain ⟨rq, hrq, hrl⟩ := selR_mem2 (List.mem_of_getElem? hxs)
    obtain ⟨hrwl, hrin⟩ := rel_row b.ok hmem hrq
    rw [hrl] at hrwl hrin
    have har := b.ok.ar _ hmem
    have hfa : (atomOf g.vs (predOf p) rw).args.length ≤ 8 := by
      have h1 : (atomOf g.vs (predOf p) rw).args.length = rw.length - 1 := by simp [atomOf]
      omega
    have hyl : ys.length ≤ 1099511627776 := by
      have h1 := congrArg List.length hys
      rw [List.length_map] at h1
      have h2 := List.length_filter_le (matchB p) (((selR (rp gr) Fb.parts cs ks).take k).map (atomOf g.vs (predOf p)))
      rw [List.length_map, List.length_take] at h2
      have h3 := selR_len (rp gr) Fb.parts cs ks
      rw [rp_len] at h3
      have hel : gr.es.length ≤ 1099511627776 := okr.el
      omega
    have hrW : RT W a p.args := hr.satA hne hS
    refine Cr (Za rfl (Nl (WX.begin ?_)))
    refine WC.focus (ow' := own b15 (.cells [.slice la ys.length lc].toArray 27 (0, 0)) :: rowAt la lc ys :: row 3 1 d.1 rw.length d.2 (ints rw) :: own l (lr.ob .busy none) :: (argsA ys ++ (([row 3 1 ca cs.length cc (ints cs), row 3 1 ka ks.length kc (ints ks), rowT (some ⟨q35, 0, none⟩) c35 (plc p), own b7 (.cells (pdC (predOf p)).toArray 43 (0, 0)), own b5 (.cells (atC p a c).toArray 34 (0, 0)), own b3 (.cells [ptr g.p].toArray 23 (0, 0))] ++ (tabA g ++ ([rbA g] ++ (relsA r1 ++ relsA r2)))) ++ (relA q ++ boxA Fb)))) ((perm_cat [[own l (lr.ob .busy none)], [row 3 1 d.1 rw.length d.2 (ints rw)], (relA q ++ boxA Fb), [own b15 (.cells [.slice la ys.length lc].toArray 27 (0, 0)), rowAt la lc ys], argsA ys, ([row 3 1 ca cs.length cc (ints cs), row 3 1 ka ks.length kc (ints ks), rowT (some ⟨q35, 0, none⟩) c35 (plc p), own b7 (.cells (pdC (predOf p)).toArray 43 (0, 0)), own b5 (.cells (atC p a c).toArray 34 (0, 0)), own b3 (.cells [ptr g.p].toArray 23 (0, 0))] ++ (tabA g ++ ([rbA g] ++ (relsA r1 ++ relsA r2))))] [3, 1, 0, 4, 5, 2] (by decide) rfl).trans (List.Perm.of_eq (by simp [cat, atsA]))) ?_
    refine Cb (Csr (Zv (OV.load1 (v := ptr g.p) rfl T.u23 rfl (fun _ hw => own_box hw (show own b3 (.cells [ptr g.p].toArray 23 (0, 0)) ∈ _ by simp))) (Zv (OV.loadN (cs := pdC (predOf p)) rfl T.u43 rfl T.z43 (fun _ hw j v hj => by rw [add_off, Nat.zero_add]; exact own_cells hw (show own b7 (.cells (pdC (predOf p)).toArray 43 (0, 0)) ∈ _ by simp) j v hj)) (Zm rfl ?_))))
    have hsub : (tabA g).Sublist ([own b15 (.cells [.slice la ys.length lc].toArray 27 (0, 0)), rowAt la lc ys, row 3 1 d.1 rw.length d.2 (ints rw), own l (lr.ob .busy none)] ++ (argsA ys ++ (([row 3 1 ca cs.length cc (ints cs), row 3 1 ka ks.length kc (ints ks), rowT (some ⟨q35, 0, none⟩) c35 (plc p), own b7 (.cells (pdC (predOf p)).toArray 43 (0, 0)), own b5 (.cells (atC p a c).toArray 34 (0, 0)), own b3 (.cells [ptr g.p].toArray 23 (0, 0))] ++ (tabA g ++ ([rbA g] ++ (relsA r1 ++ relsA r2)))) ++ (relA q ++ boxA Fb)))) := ((((List.sublist_append_left (tabA g) _).trans (List.sublist_append_right [row 3 1 ca cs.length cc (ints cs), row 3 1 ka ks.length kc (ints ks), rowT (some ⟨q35, 0, none⟩) c35 (plc p), own b7 (.cells (pdC (predOf p)).toArray 43 (0, 0)), own b5 (.cells (atC p a c).toArray 34 (0, 0)), own b3 (.cells [ptr g.p].toArray 23 (0, 0))] _)).trans (List.sublist_append_left ([row 3 1 ca cs.length cc (ints cs), row 3 1 ka ks.length kc (ints ks), rowT (some ⟨q35, 0, none⟩) c35 (plc p), own b7 (.cells (pdC (predOf p)).toArray 43 (0, 0)), own b5 (.cells (atC p a c).toArray 34 (0, 0)), own b3 (.cells [ptr g.p].toArray 23 (0, 0))] ++ (tabA g ++ ([rbA g] ++ (relsA r1 ++ relsA r2)))) (relA q ++ boxA Fb))).trans (List.sublist_append_right (argsA ys) _)).trans (List.sublist_append_right _ _)
    refine WL.callTA (ι := Option Addr × Nat) (vs := [ptr g.p, pdV (predOf p), .slice d.1 rw.length d.2]) (vv := fun q => atV (atomOf g.vs (predOf p) rw) q.1 q.2) (pp := fun _ => True) [] (AA := fun q => [rowT q.1 q.2 (atomOf g.vs (predOf p) rw).args]) rfl (by kernel_rfl) rfl rfl (fun w' hw' _ => (bfact_calls g b.ok (predOf p) rw d.1 d.2 (by omega) (by omega) (row_cap (hw'.it (row 3 1 d.1 rw.length d.2 (ints rw)) (.tail _ (.tail _ (.head _))))) hrin w' (RI.of_row (c := d.2) hw' (.tail _ (.tail _ (.head _)))) (Hw.Sat.part hsub hw').holdsAll).mono (fun en w'' ⟨la, lc, h1, h2⟩ => ⟨(la, lc), h1, trivial, h2⟩)) ?_
    rintro ⟨fa, fc⟩ _
    refine WL.alloc T.zr34 rfl ?_
    intro b17
    refine WL.storeAll (vs := atC (atomOf g.vs (predOf p) rw) fa fc) rfl rfl rfl T.z34 rfl ?_
    refine Nn (Csr (Zv (OV.loadN (cs := atC p a c) rfl T.u34 rfl T.z34 (fun _ hw j v hj => by rw [add_off, Nat.zero_add]; exact own_cells hw (show own b5 (.cells (atC p a c).toArray 34 (0, 0)) ∈ _ by simp) j v hj)) (Zv (OV.loadN (cs := atC (atomOf g.vs (predOf p) rw) fa fc) rfl T.u34 rfl T.z34 (fun _ hw j v hj => by rw [add_off, Nat.zero_add]; exact own_cells hw (.head _) j v hj)) (WL.focus (ow' := [] ++ (own b17 (.cells (atC (atomOf g.vs (predOf p) rw) fa fc).toArray 34 (0, 0)) :: rowT fa fc (atomOf g.vs (predOf p) rw).args :: own b15 (.cells [.slice la ys.length lc].toArray 27 (0, 0)) :: rowAt la lc ys :: row 3 1 d.1 rw.length d.2 (ints rw) :: own l (lr.ob .busy none) :: (argsA ys ++ (([row 3 1 ca cs.length cc (ints cs), row 3 1 ka ks.length kc (ints ks), rowT (some ⟨q35, 0, none⟩) c35 (plc p), own b7 (.cells (pdC (predOf p)).toArray 43 (0, 0)), own b5 (.cells (atC p a c).toArray 34 (0, 0)), own b3 (.cells [ptr g.p].toArray 23 (0, 0))] ++ (tabA g ++ ([rbA g] ++ (relsA r1 ++ relsA r2)))) ++ (relA q ++ boxA Fb))))) (List.Perm.refl _) ?_))))
    refine WL.callTA (ι := Value) (vs := [atV p a c, atV (atomOf g.vs (predOf p) rw) fa fc, .slice none 0 0]) (vv := fun v => .tuple #[v, .bool (matchB p (atomOf g.vs (predOf p) rw))]) (pp := fun _ => True) [] (AA := fun _ => []) rfl (by kernel_rfl) rfl rfl (fun w' hw' _ => (match_calls p (atomOf g.vs (predOf p) rw) a fa c fc hl (by have := hfa; omega) w' (hrW.satA (fun q hq hl hd => by obtain ⟨i, hi, hb⟩ := hd; exact (hS.lt i (by simpa using hi) _ hb).2.1 ⟨hr.lt hq hl, hne q hq hl⟩) hw') (RT.of_row (c := fc) rfl hw' (.tail _ (.head _)))).mono (fun en w'' ⟨v, h1, h2⟩ => ⟨v, h1, trivial, turns0 h2⟩)) ?_
    rintro mv _
    refine Zm rfl (Zv (OV.extract rfl rfl) (Zv (OV.extract rfl rfl) (Za rfl (Za rfl (Nn (Csr (Zm rfl (Nn ?_))))))))
    refine Cc rfl (fun c80 => ?_) (fun c80 => ?_)
    · refine Cr (Zv (OV.load1 (v := .slice la ys.length lc) rfl T.u27 rfl (fun _ hw => own_box hw (show own b15 (.cells [.slice la ys.length lc].toArray 27 (0, 0)) ∈ _ by simp))) (Zv (OV.loadN (cs := atC (atomOf g.vs (predOf p) rw) fa fc) rfl T.u34 rfl T.z34 (fun _ hw j v hj => by rw [add_off, Nat.zero_add]; exact own_cells hw (.head _) j v hj)) (WL.buildSliceA (cs := agC ⟨atomOf g.vs (predOf p) rw, fa, fc⟩) T.u27 T.z34 T.zr34 rfl rfl (by omega) (by omega) rfl ?_)))
      intro b83
      refine WL.focus (ow' := rowAt la lc ys :: own b83 (.cells (agC ⟨atomOf g.vs (predOf p) rw, fa, fc⟩).toArray 34 (0, 0)) :: own b17 (.cells (atC (atomOf g.vs (predOf p) rw) fa fc).toArray 34 (0, 0)) :: rowT fa fc (atomOf g.vs (predOf p) rw).args :: own b15 (.cells [.slice la ys.length lc].toArray 27 (0, 0)) :: row 3 1 d.1 rw.length d.2 (ints rw) :: own l (lr.ob .busy none) :: (argsA ys ++ (([row 3 1 ca cs.length cc (ints cs), row 3 1 ka ks.length kc (ints ks), rowT (some ⟨q35, 0, none⟩) c35 (plc p), own b7 (.cells (pdC (predOf p)).toArray 43 (0, 0)), own b5 (.cells (atC p a c).toArray 34 (0, 0)), own b3 (.cells [ptr g.p].toArray 23 (0, 0))] ++ (tabA g ++ ([rbA g] ++ (relsA r1 ++ relsA r2)))) ++ (relA q ++ boxA Fb)))) (perm_pick [_, _, _, _, _, _, _] [4, 0, 1, 2, 3, 5, 6] (by decide) rfl) ?_
      refine WL.append (news := agC ⟨atomOf g.vs (predOf p) rw, fa, fc⟩) rfl rfl T.apA (fun _ _ => own_srcN (.tail _ (.head _)) rfl) (agC_one _) ⟨by omega, by unfold maxLen; omega⟩ rfl ?_
      intro a84 c84
      refine WL.focus perm4 (WL.store1 (o := 0) rfl rfl rfl T.z27 Nat.zero_lt_one ?_)
      refine Nl (Xb ?_)
      have hm : matchB p (atomOf g.vs (predOf p) rw) = true := by simpa using c80
      have el : ys.length + 1 = (ys ++ [(⟨atomOf g.vs (predOf p) rw, fa, fc⟩ : AG)]).length := by simp
      have ef : ys.flatMap agC ++ agC ⟨atomOf g.vs (predOf p) rw, fa, fc⟩ = (ys ++ [(⟨atomOf g.vs (predOf p) rw, fa, fc⟩ : AG)]).flatMap agC := by simp
      have em : argsA (ys ++ [(⟨atomOf g.vs (predOf p) rw, fa, fc⟩ : AG)]) = argsA ys ++ [rowT fa fc (atomOf g.vs (predOf p) rw).args] := by simp [argsA]
      refine WX.focus (ow' := own l (lr.ob .busy none) :: ((relA q ++ boxA Fb) ++ (own b15 (.cells [.slice a84 (ys ++ [(⟨atomOf g.vs (predOf p) rw, fa, fc⟩ : AG)]).length c84].toArray 27 (0, 0)) :: rowAt a84 c84 (ys ++ [(⟨atomOf g.vs (predOf p) rw, fa, fc⟩ : AG)]) :: (argsA ys ++ (rowT fa fc (atomOf g.vs (predOf p) rw).args :: (([row 3 1 ca cs.length cc (ints cs), row 3 1 ka ks.length kc (ints ks), rowT (some ⟨q35, 0, none⟩) c35 (plc p), own b7 (.cells (pdC (predOf p)).toArray 43 (0, 0)), own b5 (.cells (atC p a c).toArray 34 (0, 0)), own b3 (.cells [ptr g.p].toArray 23 (0, 0))] ++ (tabA g ++ ([rbA g] ++ (relsA r1 ++ relsA r2)))) ++ [own b83 (.cells (agC ⟨atomOf g.vs (predOf p) rw, fa, fc⟩).toArray 34 (0, 0)), own b17 (.cells (atC (atomOf g.vs (predOf p) rw) fa fc).toArray 34 (0, 0)), row 3 1 d.1 rw.length d.2 (ints rw)])))))) ?_ (WX.roundEnd (fun w' hw => ⟨q, (a84, c84, ys ++ [(⟨atomOf g.vs (predOf p) rw, fa, fc⟩ : AG)]), lr.ob .ready none, fun _ => ⟨⟨okq, leq, hqe, ?_, ?_⟩, rfl⟩, fun h => (by cases h), ?_⟩))
      · rw [el, ef]
        exact (perm_cat [[own b15 (.cells [.slice a84 (ys ++ [(⟨atomOf g.vs (predOf p) rw, fa, fc⟩ : AG)]).length c84].toArray 27 (0, 0))], [rowAt a84 c84 (ys ++ [(⟨atomOf g.vs (predOf p) rw, fa, fc⟩ : AG)])], [own b83 (.cells (agC ⟨atomOf g.vs (predOf p) rw, fa, fc⟩).toArray 34 (0, 0))], [own b17 (.cells (atC (atomOf g.vs (predOf p) rw) fa fc).toArray 34 (0, 0))], [rowT fa fc (atomOf g.vs (predOf p) rw).args], [row 3 1 d.1 rw.length d.2 (ints rw)], [own l (lr.ob .busy none)], argsA ys, ([row 3 1 ca cs.length cc (ints cs), row 3 1 ka ks.length kc (ints ks), rowT (some ⟨q35, 0, none⟩) c35 (plc p), own b7 (.cells (pdC (predOf p)).toArray 43 (0, 0)), own b5 (.cells (atC p a c).toArray 34 (0, 0)), own b3 (.cells [ptr g.p].toArray 23 (0, 0))] ++ (tabA g ++ ([rbA g] ++ (relsA r1 ++ relsA r2)))), (relA q ++ boxA Fb)] [6, 9, 0, 1, 7, 4, 8, 2, 3, 5] (by decide) rfl)
      · show (ys ++ [_]).map AG.x = _
        rw [List.map_append, hys, List.take_add_one, hxs, List.map_append, List.filter_append]
        simp [hm]
      · intro z hz
        rcases List.mem_append.1 hz with h | h
        · exact hya z h
        · simp only [List.mem_singleton] at h; subst h; exact hfa
      · show Turns _ (own l (lr.ob .ready none) :: ((relA q ++ boxA Fb) ++ (own b15 (.cells [.slice a84 (ys ++ [(⟨atomOf g.vs (predOf p) rw, fa, fc⟩ : AG)]).length c84].toArray 27 (0, 0)) :: (atsA a84 c84 (ys ++ [(⟨atomOf g.vs (predOf p) rw, fa, fc⟩ : AG)]) ++ ([row 3 1 ca cs.length cc (ints cs), row 3 1 ka ks.length kc (ints ks), rowT (some ⟨q35, 0, none⟩) c35 (plc p), own b7 (.cells (pdC (predOf p)).toArray 43 (0, 0)), own b5 (.cells (atC p a c).toArray 34 (0, 0)), own b3 (.cells [ptr g.p].toArray 23 (0, 0))] ++ (tabA g ++ ([rbA g] ++ (relsA r1 ++ relsA r2)))))))) _ _
        unfold atsA
        rw [em]
        exact Hw.Sat.turnedL (B := [own b83 (.cells (agC ⟨atomOf g.vs (predOf p) rw, fa, fc⟩).toArray 34 (0, 0)), own b17 (.cells (atC (atomOf g.vs (predOf p) rw) fa fc).toArray 34 (0, 0)), row 3 1 d.1 rw.length d.2 (ints rw)]) (hw.perm (List.Perm.of_eq (by simp)))
    refine Ck (Xb ?_)
    have hm : matchB p (atomOf g.vs (predOf p) rw) = false := by simpa using c80
    refine WX.focus (ow' := own l (lr.ob .busy none) :: ((relA q ++ boxA Fb) ++ (own b15 (.cells [.slice la ys.length lc].toArray 27 (0, 0)) :: rowAt la lc ys :: (argsA ys ++ (([row 3 1 ca cs.length cc (ints cs), row 3 1 ka ks.length kc (ints ks), rowT (some ⟨q35, 0, none⟩) c35 (plc p), own b7 (.cells (pdC (predOf p)).toArray 43 (0, 0)), own b5 (.cells (atC p a c).toArray 34 (0, 0)), own b3 (.cells [ptr g.p].toArray 23 (0, 0))] ++ (tabA g ++ ([rbA g] ++ (relsA r1 ++ relsA r2)))) ++ [own b17 (.cells (atC (atomOf g.vs (predOf p) rw) fa fc).toArray 34 (0, 0)), rowT fa fc (atomOf g.vs (predOf p) rw).args, row 3 1 d.1 rw.length d.2 (ints rw)]))))) (by exact perm_cat [[own b17 (.cells (atC (atomOf g.vs (predOf p) rw) fa fc).toArray 34 (0, 0))], [rowT fa fc (atomOf g.vs (predOf p) rw).args], [own b15 (.cells [.slice la ys.length lc].toArray 27 (0, 0))], [rowAt la lc ys], [row 3 1 d.1 rw.length d.2 (ints rw)], [own l (lr.ob .busy none)], argsA ys, ([row 3 1 ca cs.length cc (ints cs), row 3 1 ka ks.length kc (ints ks), rowT (some ⟨q35, 0, none⟩) c35 (plc p), own b7 (.cells (pdC (predOf p)).toArray 43 (0, 0)), own b5 (.cells (atC p a c).toArray 34 (0, 0)), own b3 (.cells [ptr g.p].toArray 23 (0, 0))] ++ (tabA g ++ ([rbA g] ++ (relsA r1 ++ relsA r2)))), (relA q ++ boxA Fb)] [5, 8, 2, 3, 6, 7, 0, 1, 4] (by decide) rfl) (WX.roundEnd (fun w' hw => ⟨q, (la, lc, ys), lr.ob .ready none, fun _ => ⟨⟨okq, leq, hqe, ?_, hya⟩, rfl⟩, fun h => (by cases h), ?_⟩))
    · show ys.map AG.x = _
      rw [hys, List.take_add_one, hxs, List.map_append, List.filter_append]
      simp [hm]
    · show Turns _ (own l (lr.ob .ready none) :: ((relA q ++ boxA Fb) ++ (own b15 (.cells [.slice la ys.length lc].toArray 27 (0, 0)) :: (atsA la lc ys ++ ([row 3 1 ca cs.length cc (ints cs), row 3 1 ka ks.length kc (ints ks), rowT (some ⟨q35, 0, none⟩) c35 (plc p), own b7 (.cells (pdC (predOf p)).toArray 43 (0, 0)), own b5 (.cells (atC p a c).toArray 34 (0, 0)), own b3 (.cells [ptr g.p].toArray 23 (0, 0))] ++ (tabA g ++ ([rbA g] ++ (relsA r1 ++ relsA r2)))))))) _ _
      unfold atsA
      exact Hw.Sat.turnedL (B := [own b17 (.cells (atC (atomOf g.vs (predOf p) rw) fa fc).toArray 34 (0, 0)), rowT fa fc (atomOf g.vs (predOf p) rw).args, row 3 1 d.1 rw.length d.2 (ints rw)]) (hw.perm (List.Perm.of_eq (by simp)))
  · rintro D g2 ⟨la, lc, ys⟩ hJ
    obtain ⟨ok2, le2, he2, hys, hya⟩ : RelOK g2 ∧ RelLe (colG gr Fb.col) g2 ∧ g2.es = gr.es ∧ ys.map AG.x = ((((selR (rp gr) Fb.parts cs ks).take (selR (rp gr) Fb.parts cs ks).length).map (atomOf g.vs (predOf p))).filter (matchB p)) ∧ (∀ z ∈ ys, z.x.args.length ≤ 8) := hJ
    have hyl : ys.length ≤ 1099511627776 := by
      have h1 := congrArg List.length hys
      rw [List.length_map] at h1
      have h2 := List.length_filter_le (matchB p) (((selR (rp gr) Fb.parts cs ks).take (selR (rp gr) Fb.parts cs ks).length).map (atomOf g.vs (predOf p)))
      rw [List.length_map, List.length_take] at h2
      have h3 := selR_len (rp gr) Fb.parts cs ks
      rw [rp_len] at h3
      have hel : gr.es.length ≤ 1099511627776 := okr.el
      omega
    refine Xb (Xn (Csr (Zv (OV.load1 (v := .slice la ys.length lc) rfl T.u27 rfl (fun _ hw => own_box hw (show own b15 (.cells [.slice la ys.length lc].toArray 27 (0, 0)) ∈ _ by simp))) ?_)))
    refine WL.focus (ow' := rowAt la lc ys :: (argsA ys ++ ([own D (.deferred (some []))] ++ ((relA g2 ++ boxA Fb) ++ ([own b15 (.cells [.slice la ys.length lc].toArray 27 (0, 0))] ++ (([row 3 1 ca cs.length cc (ints cs), row 3 1 ka ks.length kc (ints ks), rowT (some ⟨q35, 0, none⟩) c35 (plc p), own b7 (.cells (pdC (predOf p)).toArray 43 (0, 0)), own b5 (.cells (atC p a c).toArray 34 (0, 0)), own b3 (.cells [ptr g.p].toArray 23 (0, 0))] ++ (tabA g ++ ([rbA g] ++ (relsA r1 ++ relsA r2)))) ++ [])))))) (by
      refine List.Perm.trans (perm_cat [[own D (.deferred (some []))], (relA g2 ++ boxA Fb), [own b15 (.cells [.slice la ys.length lc].toArray 27 (0, 0))], [rowAt la lc ys], argsA ys, ([row 3 1 ca cs.length cc (ints cs), row 3 1 ka ks.length kc (ints ks), rowT (some ⟨q35, 0, none⟩) c35 (plc p), own b7 (.cells (pdC (predOf p)).toArray 43 (0, 0)), own b5 (.cells (atC p a c).toArray 34 (0, 0)), own b3 (.cells [ptr g.p].toArray 23 (0, 0))] ++ (tabA g ++ ([rbA g] ++ (relsA r1 ++ relsA r2)))) ++ []] [3, 4, 0, 1, 2, 5] (by decide) rfl) (List.Perm.of_eq ?_)
      simp [cat, atsA]) ?_
    obtain ⟨us, hus⟩ : ∃ us : List {y : AG // y ∈ ys}, us.map (·.1) = ys := ⟨_, List.attach_map_subtype_val ys⟩
    have hul : us.length = ys.length := by have h := congrArg List.length hus; rwa [List.length_map] at h
    have huf : us.flatMap (fun z => agC z.1) = ys.flatMap agC := by have h := congrArg (List.flatMap agC) hus; rwa [List.flatMap_map] at h
    refine WL.callTA (ι := List {y : AG // y ∈ ys}) (vs := [.slice la ys.length lc, .func (.func 38) #[] #[]]) (vv := fun _ => .tuple #[]) (pp := fun vs => vs.Perm us ∧ vs.Pairwise (fun x y => Go.Proofs.ltOf (fun a b : {y : AG // y ∈ ys} => cmpA a.1.x b.1.x) y x = false)) [rowAt la lc ys] (AA := fun vs => [rowAt la lc (vs.map (·.1))]) rfl (by kernel_rfl) rfl rfl (fun w' hw' hH => ?_) ?_
    · have hcon := sortFuncK_calls (P := Tryz.prog) Tryz.sortA (T := 34) (c := lc) 5 (by decide) (by kernel_rfl) T.z34 (fun z : {y : AG // y ∈ ys} => agC z.1) (fun _ => rfl) (fun z => agC_one z.1) (fun a b => cmpA a.1.x b.1.x) (cmpA_ok.pull_swo fun z : {y : AG // y ∈ ys} => z.1.x) 38 (by kernel_rfl) la us w' (by rw [hul, huf]; exact hH) ?_ (by omega)
      · rw [hul, huf] at hcon
        refine hcon.mono ?_
        rintro en w'' ⟨h1, vs, h2, h3, h4⟩
        refine ⟨vs, h1, ⟨h2, h3⟩, ?_⟩
        have e1 : (vs.map (·.1)).length = vs.length := List.length_map ..
        have e2 : (vs.map (·.1)).flatMap agC = vs.flatMap fun z => agC z.1 := by rw [List.flatMap_map]
        show Turns _ [row _ _ la (vs.map (·.1)).length lc ((vs.map (·.1)).flatMap agC)] _ _
        rw [e1, e2]; exact h4
      · intro q hq w2 hf y1 y2
        have hrt : ∀ y : {y : AG // y ∈ ys}, RT w2 y.1.a y.1.x.args := fun y => by
          have hm : argA y.1 ∈ [rowAt la lc ys] ++ (argsA ys ++ ([own D (.deferred (some []))] ++ ((relA g2 ++ boxA Fb) ++ ([own b15 (.cells [.slice la ys.length lc].toArray 27 (0, 0))] ++ (([row 3 1 ca cs.length cc (ints cs), row 3 1 ka ks.length kc (ints ks), rowT (some ⟨q35, 0, none⟩) c35 (plc p), own b7 (.cells (pdC (predOf p)).toArray 43 (0, 0)), own b5 (.cells (atC p a c).toArray 34 (0, 0)), own b3 (.cells [ptr g.p].toArray 23 (0, 0))] ++ (tabA g ++ ([rbA g] ++ (relsA r1 ++ relsA r2)))) ++ []))))) := List.mem_append_right _ (List.mem_append_left _ (List.mem_map.2 ⟨y.1, y.2, rfl⟩))
          refine RT.fr (RT.of_row (c := y.1.c) rfl hw' hm) (fun q2 hq2 _ he => ?_) hf
          exact (List.pairwise_cons.1 hw'.disj).1 (argA y.1) (List.mem_append_right _ (List.mem_append_left _ (List.mem_map.2 ⟨y.1, y.2, rfl⟩))) q.block ⟨q, hq, rfl⟩ ⟨q2, hq2, he⟩
        exact cmpA_calls y1.1.x y2.1.x y1.1.a y2.1.a y1.1.c y2.1.c (by have := hya y1.1 y1.2; omega) (by have := hya y2.1 y2.2; omega) w2 (hrt y1) (hrt y2)
    rintro vs hpp
    obtain ⟨hvp, hvsort⟩ : vs.Perm us ∧ vs.Pairwise (fun x y => Go.Proofs.ltOf (fun a b : {y : AG // y ∈ ys} => cmpA a.1.x b.1.x) y x = false) := hpp
    obtain ⟨ts, hts⟩ : ∃ ts, ts = vs.map (·.1) := ⟨_, rfl⟩
    have htp : ts.Perm ys := by have h := hvp.map (·.1); rwa [hus, ← hts] at h
    have htl : ts.length = ys.length := htp.length_eq
    have hSS : (selR (rp gr) Fb.parts cs ks) = selR (rp gr) parts cs ks := by rw [hFp]; exact selR_and2 okr parts cs ks
    have hpm : (ys.map AG.x).Perm ((selF F parts).filter (matchB p)) := by
      rw [hys, List.take_length, hSS]
      have h1 := found_rel b.ok (p := p) hs rfl parts
      rw [hC, hK] at h1
      exact h1.symm.trans ((selF_perm b.fs parts).filter _)
    have htx : ts.map AG.x = foundF F parts p := by
      refine sortA_eq ((htp.map _).trans hpm) ?_
      rw [hts, List.map_map, List.pairwise_map]
      refine hvsort.imp ?_
      intro a b hab
      simpa [Go.Proofs.ltOf] using hab
    rw [← hts]
    refine Nn (Csr (Zv (OV.load1 (v := .slice la ys.length lc) rfl T.u27 rfl (fun _ hw => own_box hw (show own b15 (.cells [.slice la ys.length lc].toArray 27 (0, 0)) ∈ _ by simp))) (Za rfl (Nn (WC.ret ?_)))))
    have hyk : ys.length ≤ k := by
      have h1 := hpm.length_eq
      rw [List.length_map] at h1
      have h2 := List.length_filter_le (matchB p) (selF F parts)
      have h3 : (selF F parts).length ≤ F.length := by unfold selF; rw [List.length_map]; exact List.length_filter_le _ _
      have := b.fk
      omega
    have hle := (colG_le gr Fb.col).trans le2
    have hsb : SameB g { g with rs := r1 ++ (predOf p, g2) :: r2 } := (SameB.refl b.ok).setRel hs he2 hle.r hle.width ok2
    refine WX.leave rfl (WR.focus (ow' := own D (.deferred (some [])) :: (rowAt la lc ts :: (argsA ys ++ ((relA g2 ++ boxA Fb) ++ ([own b15 (.cells [.slice la ys.length lc].toArray 27 (0, 0))] ++ (([row 3 1 ca cs.length cc (ints cs), row 3 1 ka ks.length kc (ints ks), rowT (some ⟨q35, 0, none⟩) c35 (plc p), own b7 (.cells (pdC (predOf p)).toArray 43 (0, 0)), own b5 (.cells (atC p a c).toArray 34 (0, 0)), own b3 (.cells [ptr g.p].toArray 23 (0, 0))] ++ (tabA g ++ ([rbA g] ++ (relsA r1 ++ relsA r2)))) ++ [])))))) (by exact perm_cat [[rowAt la lc ts], argsA ys, [own D (.deferred (some []))], (relA g2 ++ boxA Fb), [own b15 (.cells [.slice la ys.length lc].toArray 27 (0, 0))], ([row 3 1 ca cs.length cc (ints cs), row 3 1 ka ks.length kc (ints ks), rowT (some ⟨q35, 0, none⟩) c35 (plc p), own b7 (.cells (pdC (predOf p)).toArray 43 (0, 0)), own b5 (.cells (atC p a c).toArray 34 (0, 0)), own b3 (.cells [ptr g.p].toArray 23 (0, 0))] ++ (tabA g ++ ([rbA g] ++ (relsA r1 ++ relsA r2)))) ++ []] [2, 0, 1, 3, 4, 5] (by decide) rfl) (WR.mark ?_))
    refine WR.ret1 (v := .slice la ts.length lc) rfl (by rw [htl]; rfl) (fun w' hw => ⟨(⟨{ g with rs := r1 ++ (predOf p, g2) :: r2 }, la, lc, ts⟩ : AnsA), rfl, ⟨htx, b.same hsb, rfl, fun y hy => hya y (htp.mem_iff.1 hy), by show ts.length ≤ k; rw [htl]; exact hyk⟩, ?_⟩)
    have h2 := hw.drop.perm (ow' := cat [[rowAt la lc ts], argsA ys, relA g2, boxA Fb, [own b15 (.cells [.slice la ys.length lc].toArray 27 (0, 0))], [row 3 1 ca cs.length cc (ints cs), row 3 1 ka ks.length kc (ints ks), rowT (some ⟨q35, 0, none⟩) c35 (plc p), own b7 (.cells (pdC (predOf p)).toArray 43 (0, 0)), own b5 (.cells (atC p a c).toArray 34 (0, 0)), own b3 (.cells [ptr g.p].toArray 23 (0, 0))], tabA g, [rbA g], relsA r1, relsA r2]) (List.Perm.of_eq (by simp [cat]))
    have h3 := h2.pick [[rowAt la lc ts], argsA ys, relA g2, boxA Fb, [own b15 (.cells [.slice la ys.length lc].toArray 27 (0, 0))], [row 3 1 ca cs.length cc (ints cs), row 3 1 ka ks.length kc (ints ks), rowT (some ⟨q35, 0, none⟩) c35 (plc p), own b7 (.cells (pdC (predOf p)).toArray 43 (0, 0)), own b5 (.cells (atC p a c).toArray 34 (0, 0)), own b3 (.cells [ptr g.p].toArray 23 (0, 0))], tabA g, [rbA g], relsA r1, relsA r2] [6, 7, 8, 2, 9, 0, 1] 10 rfl (by decide) (by decide)
    refine Hw.Sat.turned (h3.perm (ow' := baseA { g with rs := r1 ++ (predOf p, g2) :: r2 } ++ atsA la lc ts) ?_)
    refine (List.Perm.append_left _ (List.Perm.cons _ (htp.map _))).trans (List.Perm.of_eq ?_)
    have hkv : relKV g.rs = relKV (r1 ++ (predOf p, g2) :: r2) := by rw [hs]; simp [relKV, hle.r]
    unfold baseA rbA
    simp only [relsA_mid, ← hkv]
    simp [cat, tabA, nbA]
    rfl
  · intro D c k g2 y2 hJ
    exact hJ.elim

end Go.Proofs.YtgiiifadbnpfkaaGreatDoor

set_option maxRecDepth 10000
namespace Go.Proofs.YtgiiifadbnpfkaaGreatDoor
open Go Go.Hw
set_option linter.unusedSimpArgs false
set_option linter.unusedVariables false
/-- What the closure of Find holds. -/
structure FD where
  b1 : Nat
  b2 : Nat
  b3 : Nat
  a : Option Addr
  c : Nat
def boxB (bp : Nat) (parts : Int) (p : At) (f : FD) : List Hw.Item := [own f.b1 (.cells [ptr bp].toArray 23 (0, 0)), own f.b2 (.cells [.int .i64 parts].toArray 3 (0, 0)), own f.b3 (.cells (atC p f.a f.c).toArray 34 (0, 0)), rowT f.a f.c p.args]
def FD.caps (f : FD) : List Value := [ptr f.b1, ptr f.b2, ptr f.b3]
abbrev EIa (x : At) (d : Option Addr × Nat) : List Hw.Item := [rowT d.1 d.2 x.args]
abbrev arga (x : At) (d : Option Addr × Nat) : Value := atV x d.1 d.2
theorem foundF_len {g : BaseG} {k : Nat} {F : List (At × Nat)} (b : BS g k F) (parts : Int) (p : At) : (foundF F parts p).length ≤ k := by
  unfold foundF
  rw [(sortA_perm _).length_eq]
  have h2 := List.length_filter_le (matchB p) (selF F parts)
  have h3 : (selF F parts).length ≤ F.length := by unfold selF; rw [List.length_map]; exact List.length_filter_le _ _
  have := b.fk
  omega

set_option maxHeartbeats 2000000 in
theorem bfind1_calls (f : FD) (g0 : BaseG) (k : Nat) (F : List (At × Nat)) (b : BS g0 k F) (hk : k ≤ 100000000000) (parts : Int) (p : At) (hl : p.args.length ≤ 1048575) (bp : Nat) (hbp : g0.p = bp)
    {β : Type} (CC : β → List Hw.Item) (J Jx : Nat → BaseG → β → Prop) (y0 : β) (l : Nat) (w1 : World) (hA : Holds ((baseA g0 ++ boxB bp parts p f) ++ CC y0) w1)
    (h0 : ∀ g1, BS g1 k F ∧ g1.p = g0.p → J 0 g1 y0)
    (hy : ∀ i g1 y d W x, (foundF F parts p)[i]? = some x → J i g1 y → Turns ((baseA g0 ++ boxB bp parts p f) ++ CC y0) (EIa x d ++ ((baseA g1 ++ boxB bp parts p f) ++ CC y)) w1 W →
      Hw.Yields Tryz.prog l [arga x d] W fun b W' => ∃ g2 y2, (b = true → J (i + 1) g2 y2) ∧ (b = false → Jx (i + 1) g2 y2) ∧ Turns (EIa x d ++ ((baseA g1 ++ boxB bp parts p f) ++ CC y)) ((baseA g2 ++ boxB bp parts p f) ++ CC y2) W W') :
  Calls Tryz.prog 53 #[.func (.yield l) #[] #[], ptr f.b1, ptr f.b2, ptr f.b3] w1 fun en w' => en = .returned (.tuple #[]) ∧ ∃ g2 y2 i, ((i = (foundF F parts p).length ∧ J i g2 y2) ∨ (0 < i ∧ i ≤ (foundF F parts p).length ∧ Jx i g2 y2)) ∧ Turns ((baseA g0 ++ boxB bp parts p f) ++ CC y0) ((baseA g2 ++ boxB bp parts p f) ++ CC y2) w1 w' := by
  refine enterA hA (args := [.func (.yield l) #[] #[], ptr f.b1, ptr f.b2, ptr f.b3]) Tryz.func53 rfl Tryz.ntmps53 rfl rfl ?_
  refine Cs (WC.weak (S' := Sat w1 (DD ((baseA g0 ++ boxB bp parts p f) ++ CC y0)) (fun b => b < w1.heap.size ∧ ¬ DD ((baseA g0 ++ boxB bp parts p f) ++ CC y0) b) w1 ((baseA g0 ++ (boxB bp parts p f ++ CC y0)))) (fun w' hw => hw.perm (List.Perm.of_eq (List.append_assoc _ _ _).symm)) ?_)
  refine Cr (Zv (OV.load1 (v := ptr bp) rfl T.u23 rfl (fun _ hw => own_box hw (List.mem_append_right _ (List.mem_append_left _ (.head _))))) (Zv (OV.load1 (v := .int .i64 parts) rfl T.u3 rfl (fun _ hw => own_box hw (List.mem_append_right _ (List.mem_append_left _ (.tail _ (.head _)))))) (Zv (OV.loadN (cs := atC p f.a f.c) rfl T.u34 rfl T.z34 (fun _ hw j v hj => by rw [add_off, Nat.zero_add]; exact own_cells hw (List.mem_append_right _ (List.mem_append_left _ (.tail _ (.tail _ (.head _))))) j v hj)) (WL.callTA (ι := AnsA) (vs := [ptr g0.p, .int .i64 parts, atV p f.a f.c]) (vv := fun z => .slice z.a z.ys.length z.c) (pp := fun z => z.ys.map AG.x = (foundF F parts p) ∧ BS z.g k F ∧ z.g.p = g0.p ∧ (∀ y ∈ z.ys, y.x.args.length ≤ 8) ∧ z.ys.length ≤ k) (baseA g0) (AA := fun z => baseA z.g ++ atsA z.a z.c z.ys) rfl (by kernel_rfl) (by rw [hbp]; rfl) rfl (fun w' hw' hH => bfnd_calls g0 k F b hk parts p f.a f.c hl w' (RT.of_row (c := f.c) rfl hw' (List.mem_append_right _ (List.mem_append_left _ (.tail _ (.tail _ (.tail _ (.head _))))))) (fun q hq hl => Sat.sepO hw' (i := rowT f.a f.c p.args) (List.mem_append_left _ (.tail _ (.tail _ (.tail _ (.head _))))) ⟨q, hq, rfl⟩) hH) ?_))))
  rintro z ⟨hzx, bsz, hzp, hza0, hzl⟩
  refine Zv (OV.lenSlice rfl T.u27) (Zm rfl (Nn (Cb ?_)))
  have hzn : z.ys.length = (foundF F parts p).length := by rw [← hzx, List.length_map]
  refine WC.weak (S' := Sat w1 (DD ((baseA g0 ++ boxB bp parts p f) ++ CC y0)) (fun b => b < w1.heap.size ∧ ¬ DD ((baseA g0 ++ boxB bp parts p f) ++ CC y0) b) w1 (rowAt z.a z.c z.ys :: (argsA (z.ys.drop 0) ++ (baseA z.g ++ (boxB bp parts p f ++ CC y0))))) (fun w' hw => ?_) ?_
  · have h2 := hw.perm (ow' := cat [baseA z.g, [rowAt z.a z.c z.ys], argsA z.ys, boxB bp parts p f ++ CC y0]) (List.Perm.of_eq (by simp [cat, atsA]))
    have h3 := h2.pick [baseA z.g, [rowAt z.a z.c z.ys], argsA z.ys, boxB bp parts p f ++ CC y0] [1, 2, 0, 3] 4 rfl (by decide) (by decide)
    exact h3.perm (List.Perm.of_eq (by simp [cat]))
  refine WC.know (fun w' hw => (fun hp => row_addrK (hw.it (rowAt z.a z.c z.ys) (.head _)) hp : 0 < z.ys.length → ∃ q, z.a = some ⟨q, 0, none⟩)) (fun hza => ?_)
  refine WC.loop3 (fun (j : Nat) (gk : BaseG) (y : β) => [(0, .func (.yield l) #[] #[]), (10, .slice z.a z.ys.length z.c), (11, .int .i64 (z.ys.length : Int)), (12, .int .i64 (j : Int))])
      (fun j gk y w' => (j ≤ z.ys.length ∧ J j gk y) ∧ Sat w1 (DD ((baseA g0 ++ boxB bp parts p f) ++ CC y0)) (fun b => b < w1.heap.size ∧ ¬ DD ((baseA g0 ++ boxB bp parts p f) ++ CC y0) b) w1 (rowAt z.a z.c z.ys :: (argsA (z.ys.drop j) ++ (baseA gk ++ (boxB bp parts p f ++ CC y)))) w')
      (fun j _ _ => z.ys.length - j) 0 z.g y0 ⟨rfl, rfl, rfl, rfl, trivial⟩ (fun w' hw => ⟨⟨by omega, h0 z.g ⟨bsz, hzp⟩⟩, hw⟩) ?_
  intro j gk y
  refine WC.pure (fun hj => ?_)
  refine Csr (Zv (OV.lss rfl rfl) (Nn (Cs ?_)))
  refine Cc rfl (fun c13 => ?_) (fun c13 => ?_)
  · refine Ck (Xn (Cs (Cb (Csr ?_))))
    obtain ⟨ay, hay⟩ : ∃ ay, z.ys[j]? = some ay := ⟨_, List.getElem?_eq_getElem (by omega)⟩
    obtain ⟨qa, hqa⟩ := hza (by omega)
    have hdr : z.ys.drop j = ay :: z.ys.drop (j + 1) := drop_cons hay
    refine Zv ((OV.indexSlice (show _ = some (Value.slice (some ⟨qa, 0, none⟩) z.ys.length z.c) by rw [← hqa]; rfl) rfl T.u27 T.z34 (by omega)).cast (u := .pointer (some ⟨qa, j * 5, none⟩)) (by rw [Int.toNat_natCast, add_off, Nat.zero_add])) ?_
    refine WL.val (OV.loadN (cs := agC ay) rfl T.u34 rfl T.z34 (fun _ hw i v hi => by have hi5 : i < 5 := (List.getElem?_eq_some_iff.1 hi).1; have h := row_cellsφE hqa (hw.it (rowAt z.a z.c z.ys) (.head _)) (j * 5 + i) v (by rw [flat_get agC_len _ j i ay hay (by omega)]; exact hi); rw [add_off, Nat.zero_add] at h; rw [add_off]; exact h)) rfl ?_
    refine WL.alloc T.zr34 rfl ?_
    intro b6
    refine WL.storeAll (vs := atC ay.x ay.a ay.c) rfl rfl rfl T.z34 rfl ?_
    refine Nn (Csr (Zm rfl (Zv (OV.loadN (cs := atC ay.x ay.a ay.c) rfl T.u34 rfl T.z34 (fun _ hw j v hj => by rw [add_off, Nat.zero_add]; exact own_cells hw (.head _) j v hj)) ?_)))
    obtain ⟨hjj, hJ⟩ := hj
    rw [hdr]
    have hax : (foundF F parts p)[j]? = some ay.x := by rw [← hzx, List.getElem?_map, hay]; rfl
    refine WL.focus (ow' := (rowT ay.a ay.c ay.x.args :: (baseA gk ++ (boxB bp parts p f ++ CC y))) ++ ([own b6 (.cells (atC ay.x ay.a ay.c).toArray 34 (0, 0)), rowAt z.a z.c z.ys] ++ argsA (z.ys.drop (j + 1)))) (by exact perm_cat [[own b6 (.cells (atC ay.x ay.a ay.c).toArray 34 (0, 0)), rowAt z.a z.c z.ys], [rowT ay.a ay.c ay.x.args], argsA (z.ys.drop (j + 1)), (baseA gk ++ (boxB bp parts p f ++ CC y))] [1, 3, 0, 2] (by decide) rfl) (WL.yieldT (AA := fun b A' => ∃ g2 y2, A' = (baseA g2 ++ (boxB bp parts p f ++ CC y2)) ∧ (b = true → J (j + 1) g2 y2) ∧ (b = false → Jx (j + 1) g2 y2)) rfl rfl rfl (fun w' hw' => ?_) ?_)
    · have ht := hw'.turnedL
      refine (hy j gk y (ay.a, ay.c) w' ay.x hax hJ (by simp only [List.append_assoc] at ht ⊢; exact ht)).mono (fun b W' ⟨g2, y2, t1, t2, t3⟩ => ⟨_, ⟨g2, y2, rfl, t1, t2⟩, by simp only [List.append_assoc] at t3 ⊢; exact t3⟩)
    rintro b A' ⟨g2, y2, rfl, hJt, hJf⟩
    refine Zv (OV.not rfl) (Nn ?_)
    refine Cc rfl (fun c19 => ?_) (fun c19 => ?_)
    · refine WC.ret ?_
      refine Xq (Xr (Xr (Xq ?_)))
      exact WX.ret0 rfl rfl (fun w' hw => ⟨rfl, g2, y2, j + 1, .inr ⟨by omega, by omega, hJf (by simpa using c19)⟩, by simpa only [List.append_assoc] using hw.turnedL⟩)
    refine Ck (Xb (Xn (Cr (Zv (OV.addN (j := 1) rfl rfl (by omega)) (Zm rfl (Nl ?_))))))
    refine WX.round3 (j + 1) g2 y2 ⟨rfl, rfl, rfl, rfl, trivial⟩ (fun w' hw => ⟨⟨by omega, hJt (by simpa using c19)⟩, ?_⟩) (by show z.ys.length - (j + 1) < z.ys.length - j; omega)
    have h2 := hw.perm (ow' := cat [(baseA g2 ++ (boxB bp parts p f ++ CC y2)), [own b6 (.cells (atC ay.x ay.a ay.c).toArray 34 (0, 0))], [rowAt z.a z.c z.ys], argsA (z.ys.drop (j + 1))]) (List.Perm.of_eq (by simp [cat]))
    have h3 := h2.pick [(baseA g2 ++ (boxB bp parts p f ++ CC y2)), [own b6 (.cells (atC ay.x ay.a ay.c).toArray 34 (0, 0))], [rowAt z.a z.c z.ys], argsA (z.ys.drop (j + 1))] [2, 3, 0] 4 rfl (by decide) (by decide)
    exact h3.perm (List.Perm.of_eq (by simp [cat]))
  refine Ce (Xe (Xe (Xh ?_)))
  obtain ⟨hjj, hJ⟩ := hj
  have hje : j = z.ys.length := by omega
  subst hje
  rw [List.drop_length] at *
  exact WX.ret0 rfl rfl (fun w' hw => ⟨rfl, gk, y, z.ys.length, .inl ⟨hzn, hJ⟩, by have h := hw.drop.turned; simpa only [argsA, List.map_nil, List.nil_append, List.append_assoc] using h⟩)

theorem bfind1_iter (f : FD) (g0 : BaseG) (k : Nat) (F : List (At × Nat)) (b : BS g0 k F) (hk : k ≤ 100000000000) (parts : Int) (p : At) (hl : p.args.length ≤ 1048575) (bp : Nat) (hbp : g0.p = bp) (w : World) :
    IterSpec Tryz.prog 53 f.caps (fun g => baseA g ++ boxB bp parts p f) g0 (fun g1 => BS g1 k F ∧ g1.p = g0.p) (fun _ => True) EIa arga (foundF F parts p) w := by
  intro β CC J Jx y0 l w1 ht h0 hm hy
  exact bfind1_calls f g0 k F b hk parts p hl bp hbp CC J Jx y0 l w1 ht.holds h0 hy

end Go.Proofs.YtgiiifadbnpfkaaGreatDoor

set_option maxRecDepth 10000
namespace Go.Proofs.YtgiiifadbnpfkaaGreatDoor
open Go Go.Hw
set_option linter.unusedSimpArgs false
set_option linter.unusedVariables false
set_option maxHeartbeats 2000000 in
theorem lfound_calls (g : BaseG) (k : Nat) (F : List (At × Nat)) (b : BS g k F) (hk : k ≤ 100000000000) (parts : Int) (p : At) (a : Option Addr) (c : Nat) (hl : p.args.length ≤ 1048575) (w : World) (hr : RT w a p.args) (hne : ∀ q, a = some q → 0 < p.args.length → ¬ DD (baseA g) q.block) (hA : Holds (baseA g) w) :
  Calls Tryz.prog 19 #[ptr g.p, .int .i64 parts, atV p a c] w fun e w' => ∃ z : AnsA, e = .returned (.slice z.a z.ys.length z.c) ∧ (z.ys.map AG.x = foundF F parts p ∧ BS z.g k F ∧ z.g.p = g.p ∧ (∀ y ∈ z.ys, y.x.args.length ≤ 8) ∧ z.ys.length ≤ k) ∧ Turns (baseA g) (baseA z.g ++ atsA z.a z.c z.ys) w w' := by
  refine enterA hA (args := [ptr g.p, .int .i64 parts, atV p a c]) Tryz.func19 rfl Tryz.ntmps19 rfl rfl ?_
  refine Csr (WL.box rfl rfl rfl ?_)
  intro b5
  refine Za rfl (Nn (Csr (WL.alloc T.zr27 rfl ?_)))
  intro b7
  refine Nn (Csr (Zm rfl (Zm rfl (Zv (OV.loadN (cs := atC p a c) rfl T.u34 rfl T.z34 (fun _ hw j v hj => by rw [add_off, Nat.zero_add]; exact own_cells hw (.tail _ (.head _)) j v hj)) (WL.callTA (ι := Nat × Nat × Nat × Option Addr × Nat) (vs := [ptr g.p, .int .i64 parts, atV p a c]) (vv := fun z => .func (.func 53) #[] #[ptr z.1, ptr z.2.1, ptr z.2.2.1]) (pp := fun _ => True) [] (AA := fun z => boxB g.p parts p ⟨z.1, z.2.1, z.2.2.1, z.2.2.2.1, z.2.2.2.2⟩) rfl (by kernel_rfl) rfl rfl (fun w' hw' _ => (bfind_calls g parts p a c (by omega) w' (hr.satA hne hw')).mono (fun en w'' ⟨z, h1, h2⟩ => ⟨z, h1, trivial, h2⟩)) ?_)))))
  rintro ⟨z1, z2, z3, z4, z5⟩ _
  obtain ⟨fd, hfd⟩ : ∃ fd : FD, fd = ⟨z1, z2, z3, z4, z5⟩ := ⟨_, rfl⟩
  refine WL.focus (ow' := (baseA g ++ boxB g.p parts p fd) ++ ([own b7 (.cells [Value.slice none 0 0].toArray 27 (0, 0))] ++ [own b5 (.cells (atC p a c).toArray 34 (0, 0))])) (by subst hfd; exact (List.Perm.of_eq (List.append_assoc _ _ _)).trans (perm_cat [boxB g.p parts p ⟨z1, z2, z3, z4, z5⟩, [own b7 (.cells [Value.slice none 0 0].toArray 27 (0, 0))], [own b5 (.cells (atC p a c).toArray 34 (0, 0))], baseA g] [3, 0, 1, 2] (by decide) rfl)) ?_
  refine Za rfl (Nn (Cs (Csr (Zm rfl (Zv (OV.eqlFN T.u54 rfl rfl) (Nn (WC.condF (show _ = some (Value.bool false) from by rfl) ?_)))))))
  refine Ck (Xn (Cs (Csr (Zm rfl (Nn (Cb ?_))))))
  refine WC.weak (S' := SatA w (baseA g) ((baseA g ++ boxB g.p parts p fd) ++ ((fun y : Option Addr × Nat × List AG => own b7 (.cells [Value.slice y.1 y.2.2.length y.2.1].toArray 27 (0, 0)) :: (atsA y.1 y.2.1 y.2.2 ++ [own b5 (.cells (atC p a c).toArray 34 (0, 0))])) (none, 0, []) ++ []))) (fun w' hw => ?_) ?_
  · have h2 := hw.rowNil 34 5
    refine h2.perm ?_
    exact (List.Perm.of_eq (by simp [cat, atsA, argsA, rowAt])).trans (perm_cat [[row 34 5 none 0 0 []], (baseA g ++ boxB g.p parts p fd), [own b7 (.cells [Value.slice none 0 0].toArray 27 (0, 0))], [own b5 (.cells (atC p a c).toArray 34 (0, 0))]] [1, 2, 0, 3] (by decide) rfl)
  refine WC.rangeFunc (RA := fun q => baseA q ++ boxB g.p parts p fd) (CC := (fun y : Option Addr × Nat × List AG => own b7 (.cells [Value.slice y.1 y.2.2.length y.2.1].toArray 27 (0, 0)) :: (atsA y.1 y.2.1 y.2.2 ++ [own b5 (.cells (atC p a c).toArray 34 (0, 0))]))) (EI := EIa) (arg := arga) (xs := (foundF F parts p)) (g0 := g) (y0 := (none, 0, [])) (R01 := fun q => BS q k F ∧ q.p = g.p) (Mono := fun _ => True) (gf := 53) (caps := fd.caps) (ow := []) rfl (by rw [hfd]; rfl) (by kernel_rfl) rfl (fun w' _ => bfind1_iter fd g k F b hk parts p hl g.p rfl w')
    (fun i q y => BS q k F ∧ q.p = g.p ∧ y.2.2.map AG.x = (foundF F parts p).take i ∧ (∀ z ∈ y.2.2, z.x.args.length ≤ 8)) (fun _ _ _ _ => False) (fun q hq => ⟨hq.1, hq.2, by simp, fun z hz => by cases hz⟩) (fun _ _ _ _ => trivial) ?_ ?_ ?_
  · rintro l lr i q ⟨la, lc, ys⟩ d W x hxs hJ hS
    obtain ⟨bsq, hqp, hys, hya⟩ : BS q k F ∧ q.p = g.p ∧ ys.map AG.x = (foundF F parts p).take i ∧ (∀ z ∈ ys, z.x.args.length ≤ 8) := hJ
    have hyl : ys.length ≤ k := by
      have h1 := congrArg List.length hys
      rw [List.length_map, List.length_take] at h1
      have h2 := foundF_len b parts p
      omega
    have hx8 : x.args.length ≤ 8 := by
      have h1 := (sortA_perm _).mem_iff.1 (List.mem_of_getElem? hxs)
      obtain ⟨q2, hq2, he⟩ := List.mem_map.1 (List.mem_filter.1 h1).1
      exact facts_args b.ok ((b.mem x).2 (List.mem_map.2 ⟨q2, (List.mem_filter.1 hq2).1, he⟩))
    refine Cr (WL.alloc T.zr34 rfl ?_)
    intro b9
    refine WL.storeAll (vs := atC x d.1 d.2) rfl rfl rfl T.z34 rfl ?_
    refine WL.focus perm1 ?_
    refine Nl (WX.begin ?_)
    refine WC.focus (ow' := own b7 (.cells [Value.slice la ys.length lc].toArray 27 (0, 0)) :: rowAt la lc ys :: own b9 (.cells (atC x d.1 d.2).toArray 34 (0, 0)) :: own l (lr.ob .busy none) :: rowT d.1 d.2 x.args :: (argsA ys ++ ([own b5 (.cells (atC p a c).toArray 34 (0, 0))] ++ (baseA q ++ boxB g.p parts p fd)))) (by
      refine List.Perm.trans (perm_cat [[own l (lr.ob .busy none)], [own b9 (.cells (atC x d.1 d.2).toArray 34 (0, 0))], [rowT d.1 d.2 x.args], (baseA q ++ boxB g.p parts p fd), [own b7 (.cells [Value.slice la ys.length lc].toArray 27 (0, 0)), rowAt la lc ys], argsA ys, [own b5 (.cells (atC p a c).toArray 34 (0, 0))]] [4, 1, 0, 2, 5, 6, 3] (by decide) rfl) (List.Perm.of_eq ?_)
      simp [cat, atsA]) ?_
    refine Cb (Cr (Zv (OV.load1 (v := .slice la ys.length lc) rfl T.u27 rfl (fun _ hw => own_box hw (show own b7 (.cells [Value.slice la ys.length lc].toArray 27 (0, 0)) ∈ _ by simp))) (Zv (OV.loadN (cs := atC x d.1 d.2) rfl T.u34 rfl T.z34 (fun _ hw j v hj => by rw [add_off, Nat.zero_add]; exact own_cells hw (show own b9 (.cells (atC x d.1 d.2).toArray 34 (0, 0)) ∈ _ by simp) j v hj)) (WL.buildSliceA (cs := agC (⟨x, d.1, d.2⟩ : AG)) T.u27 T.z34 T.zr34 rfl rfl (by omega) (by omega) rfl ?_))))
    intro b23
    refine WL.focus (ow' := rowAt la lc ys :: own b23 (.cells (agC (⟨x, d.1, d.2⟩ : AG)).toArray 34 (0, 0)) :: own b7 (.cells [Value.slice la ys.length lc].toArray 27 (0, 0)) :: own b9 (.cells (atC x d.1 d.2).toArray 34 (0, 0)) :: own l (lr.ob .busy none) :: rowT d.1 d.2 x.args :: (argsA ys ++ ([own b5 (.cells (atC p a c).toArray 34 (0, 0))] ++ (baseA q ++ boxB g.p parts p fd)))) (perm_pick [_, _, _, _, _, _] [2, 0, 1, 3, 4, 5] (by decide) rfl) ?_
    refine WL.append (news := agC (⟨x, d.1, d.2⟩ : AG)) rfl rfl T.apA (fun _ _ => own_srcN (.tail _ (.head _)) rfl) (agC_one _) ⟨by omega, by unfold maxLen; omega⟩ rfl ?_
    intro a24 c24
    refine WL.focus perm2 (WL.store1 (o := 0) rfl rfl rfl T.z27 Nat.zero_lt_one ?_)
    refine Nl (Xb ?_)
    have el : ys.length + 1 = (ys ++ [(⟨x, d.1, d.2⟩ : AG)]).length := by simp
    have ef : ys.flatMap agC ++ agC (⟨x, d.1, d.2⟩ : AG) = (ys ++ [(⟨x, d.1, d.2⟩ : AG)]).flatMap agC := by simp
    have em : argsA (ys ++ [(⟨x, d.1, d.2⟩ : AG)]) = argsA ys ++ [rowT d.1 d.2 x.args] := by simp [argsA]
    refine WX.focus (ow' := own l (lr.ob .busy none) :: ((baseA q ++ boxB g.p parts p fd) ++ (own b7 (.cells [Value.slice a24 (ys ++ [(⟨x, d.1, d.2⟩ : AG)]).length c24].toArray 27 (0, 0)) :: rowAt a24 c24 (ys ++ [(⟨x, d.1, d.2⟩ : AG)]) :: (argsA ys ++ (rowT d.1 d.2 x.args :: ([own b5 (.cells (atC p a c).toArray 34 (0, 0))] ++ [own b23 (.cells (agC (⟨x, d.1, d.2⟩ : AG)).toArray 34 (0, 0)), own b9 (.cells (atC x d.1 d.2).toArray 34 (0, 0))])))))) ?_ (WX.roundEnd (fun w' hw => ⟨q, (a24, c24, ys ++ [(⟨x, d.1, d.2⟩ : AG)]), lr.ob .ready none, fun _ => ⟨⟨bsq, hqp, ?_, ?_⟩, rfl⟩, fun h => (by cases h), ?_⟩))
    · rw [el, ef]
      exact (perm_cat [[own b7 (.cells [Value.slice a24 (ys ++ [(⟨x, d.1, d.2⟩ : AG)]).length c24].toArray 27 (0, 0))], [rowAt a24 c24 (ys ++ [(⟨x, d.1, d.2⟩ : AG)])], [own b23 (.cells (agC (⟨x, d.1, d.2⟩ : AG)).toArray 34 (0, 0))], [own b9 (.cells (atC x d.1 d.2).toArray 34 (0, 0))], [own l (lr.ob .busy none)], [rowT d.1 d.2 x.args], argsA ys, [own b5 (.cells (atC p a c).toArray 34 (0, 0))], (baseA q ++ boxB g.p parts p fd)] [4, 8, 0, 1, 6, 5, 7, 2, 3] (by decide) rfl)
    · show (ys ++ [_]).map AG.x = _
      rw [List.map_append, hys, List.take_add_one, hxs]; rfl
    · intro z hz
      rcases List.mem_append.1 hz with h | h
      · exact hya z h
      · simp only [List.mem_singleton] at h; subst h; exact hx8
    · show Turns _ (own l (lr.ob .ready none) :: ((baseA q ++ boxB g.p parts p fd) ++ (own b7 (.cells [Value.slice a24 (ys ++ [(⟨x, d.1, d.2⟩ : AG)]).length c24].toArray 27 (0, 0)) :: (atsA a24 c24 (ys ++ [(⟨x, d.1, d.2⟩ : AG)]) ++ [own b5 (.cells (atC p a c).toArray 34 (0, 0))])))) _ _
      unfold atsA
      rw [em]
      exact Hw.Sat.turnedL (B := [own b23 (.cells (agC (⟨x, d.1, d.2⟩ : AG)).toArray 34 (0, 0)), own b9 (.cells (atC x d.1 d.2).toArray 34 (0, 0))]) (hw.perm (List.Perm.of_eq (by simp)))
  · rintro D g2 ⟨la, lc, ys⟩ hJ
    obtain ⟨bs2, hp2, hys, hya⟩ : BS g2 k F ∧ g2.p = g.p ∧ ys.map AG.x = (foundF F parts p).take (foundF F parts p).length ∧ (∀ z ∈ ys, z.x.args.length ≤ 8) := hJ
    rw [List.take_length] at hys
    refine Xb (Xn (Csr (Zv (OV.load1 (v := .slice la ys.length lc) rfl T.u27 rfl (fun _ hw => own_box hw (show own b7 (.cells [Value.slice la ys.length lc].toArray 27 (0, 0)) ∈ _ by simp))) (Za rfl (Nn (WC.ret ?_))))))
    have hyk : ys.length ≤ k := by
      have h1 := congrArg List.length hys
      rw [List.length_map] at h1
      rw [h1]; exact foundF_len b parts p
    refine WX.leave rfl (WR.mark ?_)
    refine WR.ret1 (v := .slice la ys.length lc) rfl rfl (fun w' hw => ⟨(⟨g2, la, lc, ys⟩ : AnsA), rfl, ⟨hys, bs2, hp2, hya, hyk⟩, ?_⟩)
    have h2 := hw.drop.perm (ow' := cat [baseA g2, boxB g.p parts p fd, [own b7 (.cells [Value.slice la ys.length lc].toArray 27 (0, 0))], atsA la lc ys, [own b5 (.cells (atC p a c).toArray 34 (0, 0))]]) (List.Perm.of_eq (by simp [cat]))
    have h3 := h2.pick [baseA g2, boxB g.p parts p fd, [own b7 (.cells [Value.slice la ys.length lc].toArray 27 (0, 0))], atsA la lc ys, [own b5 (.cells (atC p a c).toArray 34 (0, 0))]] [0, 3] 5 rfl (by decide) (by decide)
    exact Hw.Sat.turned h3
  · intro D c k g2 y2 hJ
    exact hJ.elim

end Go.Proofs.YtgiiifadbnpfkaaGreatDoor

set_option maxRecDepth 10000
namespace Go.Proofs.YtgiiifadbnpfkaaGreatDoor
open Go Go.Hw
set_option linter.unusedSimpArgs false
set_option linter.unusedVariables false
/-- behindTerm, as it is laid. -/
def TB : Tm := ⟨901, 902, ⟨#[98, 101, 104, 105, 110, 100]⟩⟩
def BehindAt (w : World) : Prop := ∀ j v, (tmC TB)[j]? = some v → w.cell? ⟨0, j, none⟩ = some v
theorem BehindAt.keeps {w w' : World} (h : BehindAt w) (k : Keeps w w') : BehindAt w' := fun j v hj => k _ _ (h j v hj)
abbrev rowL2 (a : Option Addr) (c : Nat) (ts : List Tm) : Hw.Item := row 31 3 a (ts.length + 1) c ((ts ++ [TB]).flatMap tmC)

theorem row_base2 {w : World} {T c m s : Nat} {a : Option Addr} {xs : List Value} (h : (row T s a m c xs).φ w) : m ≤ c := by
  have h1 : w.ownsRow 0 T s (.slice a m c) m xs := h
  rcases h1.2 with ⟨hv, h0⟩ | ⟨g, cc, cur, hv, _, _, hmc, _⟩
  · omega
  · simp only [Value.slice.injEq] at hv; omega

theorem lendTerms_calls (ts : List Tm) (a : Option Addr) (c : Nat) (hm : ts.length ≤ 1048576) (w : World) (hB : BehindAt w) (hr : RT w a ts) : Calls Tryz.prog 51 #[.slice a ts.length c] w fun e w' => ∃ a' c', e = .returned (.slice a' ts.length c') ∧ ts.length + 1 ≤ c' ∧ Turns [] [rowL2 a' c' ts] w w' := by
  refine enterS (args := [.slice a ts.length c]) (fun _ => False) Tryz.func51 rfl Tryz.ntmps51 rfl rfl ?_
  refine Csr (Za rfl (Nn (Csr (Za rfl (Nn (Csr (Zm rfl (Zm rfl (WL.weak (S' := Sat0 w (row 31 3 none 0 0 [] :: [])) (fun w' hw => hw.rowNil 31 3) ?_)))))))))
  refine WL.append (news := ts.flatMap tmC) rfl rfl T.apT (fun _ _ => Src.of_rt hr.nil (fun _ hw => hr.keeps hw.keeps)) (tms_one _) ⟨by omega, by unfold maxLen; omega⟩ rfl ?_
  intro a6 c6
  simp only [Nat.zero_add, List.nil_append]
  refine Za rfl (Nn (Csr (Zm rfl (Zv (OV.loadN (cs := tmC TB) rfl T.u31 rfl T.z31 (fun _ hw j v hj => by rw [add_off, Nat.zero_add]; exact hw.keeps _ _ (hB j v hj))) (WL.buildSliceA (cs := tmC TB) T.u32 T.z31 T.zr31 rfl rfl (by omega) (by omega) rfl ?_)))))
  intro b9
  refine WL.focus perm1 (WL.append (news := tmC TB) rfl rfl T.apT (fun _ _ => own_srcN (.tail _ (.head _)) rfl) (tmC_one _) ⟨by omega, by unfold maxLen; omega⟩ rfl ?_)
  intro a10 c10
  refine Za rfl (Nn (Cs ?_))
  have ef : ts.flatMap tmC ++ tmC TB = (ts ++ [TB]).flatMap tmC := by simp
  rw [ef]
  refine WC.know (fun w' hw => row_base2 (hw.it (rowL2 a10 c10 ts) (.head _))) (fun hcap => ?_)
  refine Cr (Zm rfl (Zm rfl (Zv (OV.lenSlice rfl T.u32) (Zv (OV.sliceTo (h := ts.length) rfl T.u32 T.z31 rfl (by omega)) (Za rfl (Nn (WC.ret ?_)))))))
  exact WX.ret1 rfl rfl rfl (fun w' hw => ⟨a10, c10, rfl, hcap, (hw.pick [[rowL2 a10 c10 ts], [own b9 (.cells (tmC TB).toArray 31 (0, 0))]] [0] 2 rfl (by decide) (by decide)).turned0⟩)

theorem lendAtom_calls (x : At) (a : Option Addr) (c : Nat) (hm : x.args.length ≤ 1048576) (w : World) (hB : BehindAt w) (hr : RT w a x.args) : Calls Tryz.prog 21 #[atV x a c] w fun e w' => ∃ z : Option Addr × Nat, e = .returned (atV x z.1 z.2) ∧ x.args.length + 1 ≤ z.2 ∧ Turns [] [rowL2 z.1 z.2 x.args] w w' := by
  refine enterS (args := [atV x a c]) (fun _ => False) Tryz.func21 rfl Tryz.ntmps21 rfl rfl ?_
  refine Csr (WL.box rfl rfl rfl ?_)
  intro b1
  refine WL.alloc T.zr34 rfl ?_
  intro b2
  refine Nn (Cs (Hd (fun w' => w'.heap[b1]? = some (.cells (atC x a c).toArray 34 (0, 0))) [] (fun _ hw => hw.it (own b1 _) (by simp)) (m := 9) rfl ?_))
  refine Hf 0 rfl (OV.fieldAddr0 (off := 0) rfl T.u34 rfl) (Ht 1 rfl (OV.loadN (cs := tmC x.b) rfl T.u31 rfl T.z31 (fun _ hw j v hj => by rw [add_off]; exact heap_part hw (o := 0) (cs' := tmC x.b) rfl j v hj)) (Hf 2 rfl (OV.fieldAddr0 (off := 3) rfl T.u34 rfl) (Ht 3 rfl (OV.load1 (v := .string x.name) rfl T.u9 rfl (fun _ hw => (cell_at hw (o := 3) rfl).1)) (Hf 4 rfl (OV.fieldAddr0 (off := 4) rfl T.u34 rfl) (Ht 5 rfl (OV.load1 (v := .slice a x.args.length c) rfl T.u32 rfl (fun _ hw => (cell_at hw (o := 4) rfl).1)) (Ho 6 rfl (fl' := false) rfl ?_))))))
  refine WL.focus (ow' := [] ++ (own b2 (.cells (atC ⟨T0, E0, []⟩ none 0).toArray 34 (0, 0)) :: own b1 (.cells (atC x a c).toArray 34 (0, 0)) :: [])) (List.Perm.refl _) ?_
  refine WL.callTA (ι := Option Addr × Nat) (vs := [.slice a x.args.length c]) (vv := fun q => .slice q.1 x.args.length q.2) (pp := fun q => x.args.length + 1 ≤ q.2) [] (AA := fun q => [rowL2 q.1 q.2 x.args]) rfl (by kernel_rfl) rfl rfl (fun w' hw' _ => (lendTerms_calls x.args a c hm w' (hB.keeps hw'.keeps) (hr.keeps hw'.keeps)).mono (fun en w'' ⟨la, lc, h1, h2, h3⟩ => ⟨(la, lc), h1, h2, h3⟩)) ?_
  rintro ⟨la, lc⟩ hlc
  refine Hc (fun _ => (fun _ hw => hw.it (own b1 _) (by simp))) ?_
  refine Hf 7 rfl (OV.buildStruct (xs := [(0, .tmp 4), (1, .tmp 6), (2, .tmp 9)]) (pl := [(0, 3), (3, 1), (4, 1)]) (cs := atC x la lc) T.u34 T.zr34 (by kernel_rfl) rfl (fill_cons (us := tmC x.b) rfl rfl (Nat.le_of_ble_eq_true rfl) (fill_cons (us := [_]) rfl rfl (Nat.le_of_ble_eq_true rfl) (fill_cons (us := [_]) rfl rfl (Nat.le_of_ble_eq_true rfl) rfl)))) (Ho 8 rfl (fl' := false) rfl ?_)
  refine WL.focus perm1 (WL.storeAll (vs := atC x la lc) rfl rfl rfl T.z34 rfl ?_)
  refine Hc (fun _ => (fun _ hw => hw.it (own b1 _) (by simp))) ?_
  refine He (Xn (WC.ret ?_))
  refine WX.retC (cs := atC x la lc) rfl rfl rfl T.u34 rfl T.z34 (fun w' hw j v hj => own_cells hw (.head _) j v hj) (fun w' hw => ⟨(la, lc), rfl, hlc, ?_⟩)
  exact (hw.pick [[own b2 (.cells (atC x la lc).toArray 34 (0, 0))], [rowL2 la lc x.args], [own b1 (.cells (atC x a c).toArray 34 (0, 0))]] [1] 3 rfl (by decide) (by decide)).turned0

end Go.Proofs.YtgiiifadbnpfkaaGreatDoor

set_option maxRecDepth 10000
namespace Go.Proofs.YtgiiifadbnpfkaaGreatDoor
open Go Go.Hw
set_option linter.unusedSimpArgs false
set_option linter.unusedVariables false
theorem RT.pre {w : World} {a : Option Addr} {ts us : List Tm} (h : RT w a (ts ++ us)) (hu : 0 < us.length) : RT w a ts :=
  ⟨fun ha => by have := h.nil ha; rw [List.length_append] at this; omega, fun q hq i t ht j v hv => h.at_ q hq i t (by rw [List.getElem?_append_left (List.getElem?_eq_some_iff.1 ht).1]; exact ht) j v hv⟩

theorem keptTerms_calls (ts : List Tm) (a b : Option Addr) (c1 c2 : Nat) (hm : ts.length ≤ 1048576) (hc : ts.length + 1 ≤ c1) (w : World) (hB : BehindAt w) (hr1 : RT w a (ts ++ [TB])) (hr2 : RT w b ts) : Calls Tryz.prog 55 #[.slice a ts.length c1, .slice b ts.length c2] w fun e w' => e = .returned (.bool true) ∧ Fr0 w w' := by
  refine enterS (args := [.slice a ts.length c1, .slice b ts.length c2]) (fun _ => False) Tryz.func55 rfl Tryz.ntmps55 rfl rfl ?_
  refine Csr (Za rfl (Nn (Cs (Csr (Zm rfl (Zm rfl (WL.call0 (v := .bool true) (vs := [.slice a ts.length c1, .slice b ts.length c2]) (by kernel_rfl) rfl rfl (fun w' hw' => (sameTerms_calls ts ts a b c1 c2 (by omega) (by omega) w' ((hr1.pre (by decide)).keeps hw'.keeps) (hr2.keeps hw'.keeps)).mono (fun en w'' ⟨h1, h2⟩ => ⟨by rw [h1, decide_eq_true rfl], h2⟩)) ?_)))))))
  refine Zv (OV.not rfl) (Nn (WC.condF (show _ = some (Value.bool false) from by rfl) ?_))
  refine Ck (Xn (Csr (Zm rfl (Zm rfl (Zv (OV.lenSlice rfl T.u32) (Zv (OV.addN (j := 1) rfl rfl (by omega)) (Zv (OV.sliceTo (h := ts.length + 1) rfl T.u32 T.z31 rfl (by omega)) (Za rfl (Nn (Cs (Hq [] (m := 8) rfl ?_)))))))))))
  refine Hf 0 rfl (OV.move rfl) (Hf 1 rfl (OV.move rfl) (Hf 2 rfl (OV.lenSlice rfl T.u32) ?_))
  obtain ⟨q1, t1, rfl, ht1, _, _, hc1⟩ := hr1.get (i := ts.length) (by simp)
  have htb : t1 = TB := by rw [List.getElem?_append_right (Nat.le_refl _), Nat.sub_self] at ht1; simpa using ht1.symm
  subst htb
  refine Hf 3 rfl ((OV.indexSlice rfl rfl T.u32 T.z31 (by omega)).cast (u := .pointer (some (q1.add (ts.length * 3)))) (by rw [Int.toNat_natCast])) (Ht 4 rfl (OV.loadN (cs := tmC TB) rfl T.u31 rfl T.z31 (fun _ hw j v hj => hw.keeps _ _ (hc1 j v hj))) (Ht 5 rfl (OV.loadN (cs := tmC TB) rfl T.u31 rfl T.z31 (fun _ hw j v hj => by rw [add_off, Nat.zero_add]; exact hw.keeps _ _ (hB j v hj))) (Hf 6 rfl ((OV.eqlTm (a := TB) (b := TB) rfl rfl).cast (u := .bool true) (by rw [decide_eq_true rfl])) (Hf 7 rfl (OV.assign rfl) (He (Xn (WC.ret ?_)))))))
  exact WX.ret1 rfl rfl rfl (fun w' hw => ⟨rfl, hw.fr⟩)

theorem keptAtom_calls (x : At) (a b : Option Addr) (c1 c2 : Nat) (hm : x.args.length ≤ 1048576) (hc : x.args.length + 1 ≤ c1) (w : World) (hB : BehindAt w) (hr1 : RT w a (x.args ++ [TB])) (hr2 : RT w b x.args) : Calls Tryz.prog 23 #[atV x a c1, atV x b c2] w fun e w' => e = .returned (.bool true) ∧ Fr0 w w' := by
  refine enterS (args := [atV x a c1, atV x b c2]) (fun _ => False) Tryz.func23 rfl Tryz.ntmps23 rfl rfl ?_
  refine Csr (WL.box rfl rfl rfl ?_)
  intro b2
  refine WL.box rfl rfl rfl ?_
  intro b3
  refine Za rfl (Nn (Csr (Zv (OV.fieldAddr0 (off := 0) rfl T.u34 rfl) (Zv (OV.loadN (cs := tmC x.b) rfl T.u31 rfl T.z31 (fun _ hw j v hj => by rw [add_off]; exact own_part hw (.tail _ (.head _)) (o := 0) (cs' := tmC x.b) rfl j v hj)) (Zv (OV.fieldAddr0 (off := 0) rfl T.u34 rfl) (Zv (OV.loadN (cs := tmC x.b) rfl T.u31 rfl T.z31 (fun _ hw j v hj => by rw [add_off]; exact own_part hw (.head _) (o := 0) (cs' := tmC x.b) rfl j v hj)) (Zv ((OV.eqlTm (a := x.b) (b := x.b) rfl rfl).cast (u := .bool true) (by rw [decide_eq_true rfl])) (Zm rfl (WL.known (t := 10) (b := true) rfl (by rfl) ?_)))))))))
  refine Zg rfl rfl rfl (Zv (OV.fieldAddr0 (off := 3) rfl T.u34 rfl) (Zg rfl rfl rfl (Zv (OV.load1 (v := .string x.name) rfl T.u9 rfl (fun _ hw => (cell_at (hw.it _ (.tail _ (.head _))) (o := 3) rfl).1)) (Zg rfl rfl rfl (Zv (OV.fieldAddr0 (off := 3) rfl T.u34 rfl) (Zg rfl rfl rfl (Zv (OV.load1 (v := .string x.name) rfl T.u9 rfl (fun _ hw => (cell_at (hw.it _ (.head _)) (o := 3) rfl).1)) (Zg rfl rfl rfl (Zv ((OV.eqlS rfl rfl).cast (u := .bool true) (by rw [decide_eq_true rfl])) (Zv (OV.pickT rfl rfl) (Zm rfl (WL.known (t := 17) (b := true) rfl (by rfl) ?_))))))))))))
  refine Zg rfl rfl rfl (Zv (OV.fieldAddr0 (off := 4) rfl T.u34 rfl) (Zg rfl rfl rfl (Zv (OV.load1 (v := .slice a x.args.length c1) rfl T.u32 rfl (fun _ hw => (cell_at (hw.it _ (.tail _ (.head _))) (o := 4) rfl).1)) (Zg rfl rfl rfl (Zv (OV.fieldAddr0 (off := 4) rfl T.u34 rfl) (Zg rfl rfl rfl (Zv (OV.load1 (v := .slice b x.args.length c2) rfl T.u32 rfl (fun _ hw => (cell_at (hw.it _ (.head _)) (o := 4) rfl).1)) (Zg rfl rfl rfl (WL.call0 (v := .bool true) (vs := [.slice a x.args.length c1, .slice b x.args.length c2]) (by kernel_rfl) rfl rfl (fun w' hw' => keptTerms_calls x.args a b c1 c2 hm hc w' (hB.keeps hw'.keeps) (hr1.keeps hw'.keeps) (hr2.keeps hw'.keeps)) ?_)))))))))
  refine Zv (OV.pickT rfl rfl) (Za rfl (Nn (WC.ret ?_)))
  exact WX.ret1 rfl rfl rfl (fun w' hw => ⟨rfl, hw.fr⟩)

end Go.Proofs.YtgiiifadbnpfkaaGreatDoor

set_option maxRecDepth 10000
namespace Go.Proofs.YtgiiifadbnpfkaaGreatDoor
open Go Go.Hw
set_option linter.unusedSimpArgs false
set_option linter.unusedVariables false
end Go.Proofs.YtgiiifadbnpfkaaGreatDoor

set_option maxRecDepth 10000
namespace Go.Proofs.YtgiiifadbnpfkaaGreatDoor
open Go Go.Hw
set_option linter.unusedSimpArgs false
set_option linter.unusedVariables false
end Go.Proofs.YtgiiifadbnpfkaaGreatDoor

set_option maxRecDepth 10000
namespace Go.Proofs.YtgiiifadbnpfkaaGreatDoor
open Go Go.Hw
set_option linter.unusedSimpArgs false
set_option linter.unusedVariables false
end Go.Proofs.YtgiiifadbnpfkaaGreatDoor

set_option maxRecDepth 10000
namespace Go.Proofs.YtgiiifadbnpfkaaGreatDoor
open Go Go.Hw
set_option linter.unusedSimpArgs false
set_option linter.unusedVariables false
end Go.Proofs.YtgiiifadbnpfkaaGreatDoor

set_option maxRecDepth 10000
namespace Go.Proofs.YtgiiifadbnpfkaaGreatDoor
open Go Go.Hw
set_option linter.unusedSimpArgs false
set_option linter.unusedVariables false
/-- The strings of an atom are not too long. -/
structure AtS (x : At) : Prop where
  len : x.args.length ≤ 1048575
  name : x.name.size ≤ 1099511627776
  b : x.b.s.size ≤ 1099511627776
  args : ∀ t ∈ x.args, t.s.size ≤ 1099511627776
end Go.Proofs.YtgiiifadbnpfkaaGreatDoor

set_option maxRecDepth 10000
namespace Go.Proofs.YtgiiifadbnpfkaaGreatDoor
open Go Go.Hw
set_option linter.unusedSimpArgs false
set_option linter.unusedVariables false
section
open Go.ChangeShapes Go.WideShapes Go.ChangeAt Go.RowKit
variable {H : Type} {enc : TypeId × Value → H} {w : World} {base : Nat} {spare : Nat → Bool} {held : Bool} {r : Reach} {b0 : Nat}
theorem behind_laid {fuel : Nat} {cs : Array Value} {q : List MemPlace} (hg : Program.globalNamed Tryz.prog "hearsay/hearsayref03.behindTerm" = some 0) (hv : w.var? Tryz.prog "hearsay/hearsayref03.behindTerm" = some cs) (hd : DataW.trod enc Tryz.prog w base spare held fuel 31 cs.toList = some (Rows.laid_hearsay_hearsayref03_behindTerm, q)) : BehindAt w := by
  obtain ⟨t, e, _, _, ht⟩ := trod_term hd
  have ht0 : t = TB := by
    simp only [Rows.laid_hearsay_hearsayref03_behindTerm, DataW.agg.injEq, List.cons.injEq, DataW.lit.injEq, Lit.int.injEq, true_and, Lit.string.injEq, and_true] at ht
    obtain ⟨h1, h2, h3⟩ := ht
    obtain ⟨k, n, s⟩ := t
    simp only at h1 h2 h3
    subst h1; subst h2
    have : s = ⟨#[98, 101, 104, 105, 110, 100]⟩ := by
      obtain ⟨⟨l⟩⟩ := s
      have h4 : ([98, 101, 104, 105, 110, 100] : List UInt8) = l := h3
      subst h4; rfl
    rw [this]; rfl
  intro j v hj
  rw [World.var?_cell hg hv j, ← Array.getElem?_toList, e, ht0]
  exact hj
end

end Go.Proofs.YtgiiifadbnpfkaaGreatDoor

set_option maxRecDepth 10000
namespace Go.Proofs.YtgiiifadbnpfkaaGreatDoor
open Go Go.Hw
set_option linter.unusedSimpArgs false
set_option linter.unusedVariables false
section
open Go.ChangeShapes Go.WideShapes Go.ChangeAt Go.RowKit
variable {H : Type} {enc : TypeId × Value → H} {w : World} {base : Nat} {spare : Nat → Bool} {held : Bool} {r : Reach} {b0 : Nat}
theorem open_atoms {v : Value} {d : DataW H} {p : List MemPlace} (hv : Value.okWide Tryz.prog w r b0 27 v) (h : DataW.Trod enc Tryz.prog w base spare held 27 v d p) :
    ∃ a c ys, v = .slice a ys.length c ∧ RA w a ys ∧ (ys.map wtA).sum + 1 ≤ Rows.uptoBulk d := by
  obtain ⟨fuel, hf⟩ := h
  obtain ⟨a, c, ys, e, h1, h2⟩ := trod_atoms hf
  exact ⟨a, c, ys, slice_of_ok (P := Tryz.prog) T.u27 hv e, h1, h2⟩
theorem atoms_ok {ys : List AG} (h : (ys.map wtA).sum + 1 ≤ 1048576) : ys.length ≤ 1048576 ∧ ∀ y ∈ ys, y.x.args.length ≤ 1099511627775 ∧ y.x.name.size ≤ 1099511627776 := by
  have h1 := len_wt wtA (k := 1) (fun y => by unfold wtA; omega) ys
  refine ⟨by omega, fun y hy => ?_⟩
  have h2 := le_sum wtA hy
  have h3 : wtA y = y.x.name.size + y.x.args.length + 7 := rfl
  omega
end

end Go.Proofs.YtgiiifadbnpfkaaGreatDoor

set_option maxRecDepth 10000
namespace Go.Proofs.YtgiiifadbnpfkaaGreatDoor
open Go Go.Hw
set_option linter.unusedSimpArgs false
set_option linter.unusedVariables false
/-! ### The document's list of facts -/
def atD (L : List (At × Nat)) (x : At) : Nat := L.findIdx fun q => !decide (cmpA q.1 x < 0)
def SD (L : List (At × Nat)) : Prop := L.Pairwise fun p q => cmpA p.1 q.1 < 0
theorem atD_lt {L : List (At × Nat)} {x : At} {j : Nat} {q : At × Nat} (hq : L[j]? = some q) (hj : j < atD L x) : cmpA q.1 x < 0 := by
  have h := List.not_of_lt_findIdx hj
  obtain ⟨hl, rfl⟩ := List.getElem?_eq_some_iff.1 hq
  simpa using h
theorem atD_at {L : List (At × Nat)} {x : At} {q : At × Nat} (hq : L[atD L x]? = some q) : ¬ cmpA q.1 x < 0 := by
  obtain ⟨hl, rfl⟩ := List.getElem?_eq_some_iff.1 hq
  have h : (!decide (cmpA (L[atD L x]).1 x < 0)) = true := List.findIdx_getElem (w := hl)
  simpa using h
theorem SD.lt {L : List (At × Nat)} (h : SD L) {i j : Nat} {p q : At × Nat} (hp : L[i]? = some p) (hq : L[j]? = some q) (hij : i < j) : cmpA p.1 q.1 < 0 := by
  obtain ⟨h1, rfl⟩ := List.getElem?_eq_some_iff.1 hp
  obtain ⟨h2, rfl⟩ := List.getElem?_eq_some_iff.1 hq
  exact List.pairwise_iff_getElem.1 h i j h1 h2 hij
theorem SD.mem {L : List (At × Nat)} (h : SD L) {x : At} : x ∈ L.map (·.1) ↔ ∃ q, L[atD L x]? = some q ∧ q.1 = x := by
  constructor
  · intro hx
    obtain ⟨q, hq, rfl⟩ := List.mem_map.1 hx
    obtain ⟨j, hj⟩ := List.mem_iff_getElem?.1 hq
    have hl := (List.getElem?_eq_some_iff.1 hj).1
    rcases Nat.lt_trichotomy j (atD L q.1) with e | e | e
    · have := atD_lt hj e
      rw [cmpA_ok.refl] at this
      omega
    · exact ⟨q, by rw [← e]; exact hj, rfl⟩
    · exact absurd (h.lt (List.getElem?_eq_getElem (by omega)) hj e) (atD_at (List.getElem?_eq_getElem (by omega)))
  · rintro ⟨q, hq, rfl⟩
    exact List.mem_map.2 ⟨q, List.mem_of_getElem? hq, rfl⟩
theorem SD.turn {L : List (At × Nat)} (h : SD L) : SD (turnF L) := by
  unfold turnF SD
  rw [List.pairwise_map]
  exact h
theorem SD.nodup {L : List (At × Nat)} (h : SD L) : (L.map (·.1)).Nodup := by
  unfold List.Nodup
  rw [List.pairwise_map]
  exact List.Pairwise.imp (fun {p q} hpq e => by rw [e, cmpA_ok.refl] at hpq; omega) h
theorem SD.sub {L M : List (At × Nat)} (h : SD L) (hs : M.Sublist L) : (M.map (·.1)).Pairwise fun a b => ¬ cmpA b a < 0 := by
  rw [List.pairwise_map]
  exact List.Pairwise.imp (fun {p q} hpq hh => by have := cmpA_ok.anti p.1 q.1; omega) (List.Pairwise.sublist hs h)
/-! ### The predicates of a list in order -/
end Go.Proofs.YtgiiifadbnpfkaaGreatDoor

namespace Go.Hw
open Go
set_option linter.unusedSimpArgs false
set_option linter.unusedVariables false
section
variable {w0 ws : World} {M I : Nat → Prop} {ow : List Item}
variable {P : Program} {ops : Array Oper} {Q : Post} {n : Nat} {ds : DS} {e : Env} {rest : List Oper} {t lt : TypeId} {p : String} {af : Array Edge} {k : Nat} {x y : Operand} {v : Value}
theorem take_set_mid {α : Type} {l xs vs : List α} {o k : Nat} (h : l.take k = xs) (ho : o + vs.length ≤ xs.length) (hk : k ≤ l.length) : (l.take o ++ vs ++ l.drop (o + vs.length)).take k = xs.take o ++ vs ++ xs.drop (o + vs.length) := by
  have hl : xs.length = k := by rw [← h, List.length_take]; omega
  subst h
  rw [List.take_take, Nat.min_eq_left (by omega), List.append_assoc, List.append_assoc, List.take_append, List.length_take, Nat.min_eq_left (by omega), List.take_of_length_le (l := List.take o l) (by rw [List.length_take]; omega)]
  congr 1
  rw [List.take_append, List.take_of_length_le (l := vs) (by omega)]
  congr 1
  rw [List.drop_take]
  congr 1
  omega
theorem WL.storeRowN {T size m cap o b : Nat} {a : Option Addr} {xs vs : List Value} (hx : ev e x = Option.some (.pointer (Option.some ⟨b, o, none⟩))) (ha : a = Option.some ⟨b, 0, none⟩) (hy : ev e y = Option.some (.agg vs.toArray)) (h1 : vs.all (·.oneCell') = true) (hz : P.sz lt = Option.some vs.length) (ho : o + vs.length ≤ xs.length)
    (h : WL P ops Q n ds e (Sat w0 M I ws (row T size a m cap (xs.take o ++ vs ++ xs.drop (o + vs.length)) :: ow)) rest) :
    WL P ops Q n ds e (Sat w0 M I ws (row T size a m cap xs :: ow)) (⟨none, .store lt x y, t, p, af, none⟩ :: rest) := by
  subst ha
  refine WL.runS (S' := Sat w0 M I ws (row T size (Option.some ⟨b, 0, none⟩) m cap (xs.take o ++ vs ++ xs.drop (o + vs.length)) :: ow)) (fun ac w ha hw => ?_) h
  have hown : w.ownsRow 0 T size (.slice (Option.some ⟨b, 0, none⟩) m cap) m xs := hw.it _ (.head _)
  rcases hown.2 with ⟨hv, _⟩ | ⟨g, c, cur, hv, hg0, hg, hmc, hcm, hcs, htake⟩
  · cases hv
  · simp only [Value.slice.injEq, Option.some.injEq, Addr.mk.injEq, and_true] at hv
    obtain ⟨rfl, _, rfl⟩ := hv
    have hlen := hown.1
    have hle : m * size ≤ cur.size := by rw [hcs]; exact Nat.mul_le_mul_right _ hmc
    have hcl : cur.toList.length = cur.size := Array.length_toList
    have ho' : o + vs.length ≤ cur.toList.length := by omega
    have hs := run_storeCells_at P b o T vs 0 cur w hg (by simpa using (show o + vs.length ≤ cur.size by omega)) (by simpa using h1)
    simp only [Nat.zero_add, Nat.add_zero] at hs
    refine ⟨w.setRow b (cur.toList.take o ++ vs ++ cur.toList.drop (o + vs.length)).toArray, ?_, ?_⟩
    · simp only [execOp, Instr.storeAt, Instr.sureAddr, storeVar, ha.eval hx, ha.eval hy, Value.cells]
      simp [run_sizeOf hz, hs]
    · refine hw.turn ((Fr.setRow _ _ _).mono (fun i hi => ⟨_, rfl, by subst hi; rfl⟩)) ⟨by simp only [List.length_append, List.length_take, List.length_drop]; omega, .inr ⟨b, cap, _, rfl, hg0, setRow_heap w b cur _ T (0, 0) hg, hmc, hcm, ?_, ?_⟩⟩ (fun q hq => .inl hq)
      · simp only [List.size_toArray, List.length_append, List.length_take, List.length_drop]
        rw [← hcs]; omega
      · exact take_set_mid htake ho (by omega)
end
end Go.Hw

set_option maxRecDepth 10000
namespace Go.Proofs.YtgiiifadbnpfkaaGreatDoor
open Go Go.Hw
set_option linter.unusedSimpArgs false
set_option linter.unusedVariables false
/-! ### Answers that were kept, and written full -/
abbrev MINE : ByteArray := ⟨#[109, 105, 110, 101]⟩
abbrev LATE : ByteArray := ⟨#[108, 97, 116, 101]⟩
def mkT (m i : Nat) : Tm := ⟨-(m : Int), i, E0⟩
def mineY (m i : Nat) : AG := ⟨⟨mkT m i, MINE, []⟩, none, 0⟩
def lateY (m n : Nat) : AG := ⟨⟨mkT m n, LATE, []⟩, none, 0⟩
def mineL (m n : Nat) : List AG := (List.range n).map (mineY m)
structure KQ where
  a : Option Addr
  c : Nat
  l : Nat
  a2 : Option Addr
  c2 : Nat
  sh : Bool
  t : Tm
structure KG where
  m : Nat
  n : Nat
  la : Option Addr
  lc : Nat
  xa : Option Addr
  xc : Nat
  xsh : Bool
  ga : Option Addr
  gc : Nat
  ta : Option Addr
  tc : Nat
  qs : List KQ
def hdQ (qs : List KQ) : List Value := qs.map fun q => .slice q.a q.l q.c
def hdQ2 (qs : List KQ) : List Value := qs.map fun q => .slice q.a2 (q.l + 1) q.c2
theorem flat_setN {α : Type} {en : α → List Value} {k : Nat} (hk : ∀ x, (en x).length = k) {xs : List α} {j : Nat} {y : α} (hj : j < xs.length) : (xs.flatMap en).take (j * k) ++ en y ++ (xs.flatMap en).drop (j * k + (en y).length) = (xs.set j y).flatMap en := by
  have e : xs = xs.take j ++ xs[j] :: xs.drop (j + 1) := by rw [List.getElem_cons_drop, List.take_append_drop]
  have e2 : xs.set j y = xs.take j ++ y :: xs.drop (j + 1) := List.set_eq_take_append_cons_drop.trans (if_pos hj)
  have hl : ((xs.take j).flatMap en).length = j * k := by rw [flat_len hk, List.length_take, Nat.min_eq_left (by omega)]
  have e3 : xs.flatMap en = (xs.take j).flatMap en ++ (en xs[j] ++ (xs.drop (j + 1)).flatMap en) := by
    have h := congrArg (fun l => l.flatMap en) e
    simpa only [List.flatMap_append, List.flatMap_cons] using h
  rw [e2, e3, List.take_append, hl, Nat.sub_self, List.take_zero, List.append_nil, List.take_of_length_le (by omega), hk, List.drop_append, hl, List.drop_of_length_le (by omega), List.nil_append, Nat.add_sub_cancel_left, List.drop_append, hk, Nat.sub_self, List.drop_zero, List.drop_of_length_le (by rw [hk]; omega)]
  simp
end Go.Proofs.YtgiiifadbnpfkaaGreatDoor

set_option maxRecDepth 10000
namespace Go.Proofs.YtgiiifadbnpfkaaGreatDoor
open Go Go.Hw
set_option linter.unusedSimpArgs false
set_option linter.unusedVariables false
end Go.Proofs.YtgiiifadbnpfkaaGreatDoor

set_option maxRecDepth 10000
namespace Go.Proofs.YtgiiifadbnpfkaaGreatDoor
open Go Go.Hw
set_option linter.unusedSimpArgs false
set_option linter.unusedVariables false
/-- A kept list, as it may be read. -/
structure KRd (w : World) (z : KG) : Prop where
  more : RA w z.xa (mineL z.m z.n ++ [lateY z.m z.n])
  l : RA w z.la (mineL z.m z.n)
  ga : ∀ i v, (hdQ z.qs)[i]? = some v → ∃ q, z.ga = some q ∧ w.cell? (q.add i) = some v
  ta : ∀ i v, (hdQ2 z.qs)[i]? = some v → ∃ q, z.ta = some q ∧ w.cell? (q.add i) = some v
  qa : ∀ q ∈ z.qs, RT w q.a (List.replicate q.l q.t)
  qa2 : ∀ q ∈ z.qs, RT w q.a2 (List.replicate (q.l + 1) q.t)
theorem KRd.keeps {w w' : World} {z : KG} (h : KRd w z) (k : Keeps w w') : KRd w' z :=
  ⟨h.more.keeps k, h.l.keeps k, fun i v hv => (h.ga i v hv).imp fun q hq => ⟨hq.1, k _ _ hq.2⟩, fun i v hv => (h.ta i v hv).imp fun q hq => ⟨hq.1, k _ _ hq.2⟩, fun q hq => (h.qa q hq).keeps k, fun q hq => (h.qa2 q hq).keeps k⟩
end Go.Proofs.YtgiiifadbnpfkaaGreatDoor

set_option maxRecDepth 10000
namespace Go.Proofs.YtgiiifadbnpfkaaGreatDoor
open Go Go.Hw
set_option linter.unusedSimpArgs false
set_option linter.unusedVariables false
theorem RA.pre {w : World} {a : Option Addr} {ys zs : List AG} (h : RA w a (ys ++ zs)) : RA w a ys :=
  ⟨fun ha => by have := h.nil ha; rw [List.length_append] at this; omega, fun q hq i t ht j v hv => h.at_ q hq i t (by rw [List.getElem?_append_left (List.getElem?_eq_some_iff.1 ht).1]; exact ht) j v hv, fun y hy => h.args y (List.mem_append_left _ hy)⟩
/-! ### Predicates whose arity may be below zero -/
structure PI where
  name : ByteArray
  ar : Int
deriving DecidableEq
def piC (p : PI) : List Value := [.string p.name, .int .i64 p.ar]
theorem piC_len (p : PI) : (piC p).length = 2 := rfl
abbrev rowPI (a : Option Addr) (n c : Nat) (l : List PI) : Hw.Item := row 43 2 a n c (l.flatMap piC)
structure RPI (w : World) (a : Option Addr) (ys : List PI) : Prop where
  at_ : ∀ i y, ys[i]? = some y → ∃ q, a = some q ∧ ∀ j v, (piC y)[j]? = some v → w.cell? ((q.add (i * 2)).add j) = some v
theorem RPI.of_row {w0 ws w : World} {M I : Nat → Prop} {ow : List Hw.Item} {a : Option Addr} {m c : Nat} {ys : List PI} (hl : ys.length = m) (hw : Sat w0 M I ws ow w) (hm : rowPI a m c ys ∈ ow) : RPI w a ys := by
  subst hl
  refine ⟨fun i y hy => ?_⟩
  have hi := (List.getElem?_eq_some_iff.1 hy).1
  obtain ⟨b, hb⟩ := row_addrK (hw.it _ hm) (by omega)
  refine ⟨_, hb, fun j v hv => ?_⟩
  have hj : j < 2 := (List.getElem?_eq_some_iff.1 hv).1
  have h1 := row_cellsφE hb (hw.it _ hm) (i * 2 + j) v (by rw [flat_get piC_len ys i j y hy hj]; exact hv)
  rwa [add_add] at h1
theorem RPI.pre {w : World} {a : Option Addr} {ys zs : List PI} (h : RPI w a (ys ++ zs)) : RPI w a ys :=
  ⟨fun i y hy => h.at_ i y (by rw [List.getElem?_append_left (List.getElem?_eq_some_iff.1 hy).1]; exact hy)⟩
end Go.Proofs.YtgiiifadbnpfkaaGreatDoor

set_option maxRecDepth 10000
namespace Go.Proofs.YtgiiifadbnpfkaaGreatDoor
open Go Go.Hw
set_option linter.unusedSimpArgs false
set_option linter.unusedVariables false
end Go.Proofs.YtgiiifadbnpfkaaGreatDoor

set_option maxRecDepth 10000
namespace Go.Proofs.YtgiiifadbnpfkaaGreatDoor
open Go Go.Hw
set_option linter.unusedSimpArgs false
set_option linter.unusedVariables false
end Go.Proofs.YtgiiifadbnpfkaaGreatDoor

set_option maxRecDepth 10000
namespace Go.Proofs.YtgiiifadbnpfkaaGreatDoor
open Go Go.Hw
set_option linter.unusedSimpArgs false
set_option linter.unusedVariables false
/-- Binds that lie one behind the other. -/
structure RBd (w : World) (a : Option Addr) (ys : List Bd) : Prop where
  nil : a = none → ys.length = 0
  at_ : ∀ q, a = some q → ∀ i y, ys[i]? = some y → ∀ j v, (bdC y)[j]? = some v → w.cell? ((q.add (i * 4)).add j) = some v
theorem RBd.keeps {w w' : World} {a : Option Addr} {ys : List Bd} (h : RBd w a ys) (k : Keeps w w') : RBd w' a ys := ⟨h.nil, fun q hq i t ht j v hv => k _ _ (h.at_ q hq i t ht j v hv)⟩
theorem RBd.get {w : World} {a : Option Addr} {ys : List Bd} (h : RBd w a ys) {i : Nat} (hi : i < ys.length) : ∃ q y, a = some q ∧ ys[i]? = some y ∧ y ∈ ys ∧ ∀ j v, (bdC y)[j]? = some v → w.cell? ((q.add (i * 4)).add j) = some v := by
  cases a with
  | none => have := h.nil rfl; omega
  | some q => exact ⟨q, ys[i], rfl, List.getElem?_eq_getElem hi, List.getElem_mem hi, h.at_ q rfl i _ (List.getElem?_eq_getElem hi)⟩
theorem RBd.of_row {w0 ws w : World} {M I : Nat → Prop} {ow : List Hw.Item} {a : Option Addr} {c : Nat} {ys : List Bd} (hw : Sat w0 M I ws ow w) (hm : rowB a c ys ∈ ow) : RBd w a ys := by
  refine ⟨fun ha => ?_, fun q hq i t ht j v hv => ?_⟩
  · rcases (row_base hw hm).2 with ⟨_, h, _⟩ | ⟨b, hb, _⟩
    · exact h
    · rw [ha] at hb; cases hb
  · subst hq
    have hj : j < 4 := (List.getElem?_eq_some_iff.1 hv).1
    have h1 := row_cells hw hm (i * 4 + j) v (by rw [flat_get bdC_len ys i j t ht hj]; exact hv)
    rwa [add_add] at h1
def sb (ys : List Bd) : List (Int × Tm) := ys.map fun b => (b.v, b.t)
end Go.Proofs.YtgiiifadbnpfkaaGreatDoor

set_option maxRecDepth 10000
namespace Go.Proofs.YtgiiifadbnpfkaaGreatDoor
open Go Go.Hw
set_option linter.unusedSimpArgs false
set_option linter.unusedVariables false
theorem AtS.plc {x : At} (h : AtS x) : ∀ t ∈ plc x, t.s.size ≤ 1099511627776 := fun t ht => by
  rcases List.mem_cons.1 ht with rfl | ht
  · exact h.b
  · exact h.args t ht
end Go.Proofs.YtgiiifadbnpfkaaGreatDoor

set_option maxRecDepth 10000
namespace Go.Proofs.YtgiiifadbnpfkaaGreatDoor
open Go Go.Hw
set_option linter.unusedSimpArgs false
set_option linter.unusedVariables false
/-! ### The document's base as it lies -/
structure DG where
  p : Nat
  a : Option Addr
  c : Nat
  is : List IG
/-- The document's base behind at most k Adds: the facts L, in order. -/
structure DOK (d : DG) (k : Nat) (L : List (At × Nat)) : Prop where
  ls : Fis d.is = L
  sd : SD L
  fct : ∀ i ∈ d.is, factB i.y.x = true
  part : ∀ i ∈ d.is, i.p = 1 ∨ i.p = 2 ∨ i.p = 4
  len : d.is.length ≤ k
theorem DOK.mono {d : DG} {k m : Nat} {L : List (At × Nat)} (h : DOK d k L) (hk : k ≤ m) : DOK d m L := ⟨h.ls, h.sd, h.fct, h.part, Nat.le_trans h.len hk⟩
end Go.Proofs.YtgiiifadbnpfkaaGreatDoor

set_option maxRecDepth 10000
namespace Go.Proofs.YtgiiifadbnpfkaaGreatDoor
open Go Go.Hw
set_option linter.unusedSimpArgs false
set_option linter.unusedVariables false
end Go.Proofs.YtgiiifadbnpfkaaGreatDoor

set_option maxRecDepth 10000
namespace Go.Proofs.YtgiiifadbnpfkaaGreatDoor
open Go Go.Hw
set_option linter.unusedSimpArgs false
set_option linter.unusedVariables false
end Go.Proofs.YtgiiifadbnpfkaaGreatDoor

set_option maxRecDepth 10000
namespace Go.Proofs.YtgiiifadbnpfkaaGreatDoor
open Go Go.Hw
set_option linter.unusedSimpArgs false
set_option linter.unusedVariables false
/-! ### One call on both bases -/
theorem lend_rt {w0 ws w : World} {M I : Nat → Prop} {ow : List Hw.Item} {la : Option Addr} {lc : Nat} {ts : List Tm} (hw : Sat w0 M I ws ow w) (hm : rowL2 la lc ts ∈ ow) : RT w la (ts ++ [TB]) := RT.of_row (c := lc) (m := ts.length + 1) (by simp) hw hm
theorem lend_rt1 {w0 ws w : World} {M I : Nat → Prop} {ow : List Hw.Item} {la : Option Addr} {lc : Nat} {ts : List Tm} (hw : Sat w0 M I ws ow w) (hm : rowL2 la lc ts ∈ ow) : RT w la ts := (lend_rt hw hm).pre (by decide)
theorem BehindAt.lt {w : World} (h : BehindAt w) : 0 < w.heap.size := by
  have h1 := h 0 (.int .i64 901) rfl
  exact World.block_lt_of_cell? _ _ h1
theorem BehindAt.satA {w w' : World} {A ow : List Hw.Item} (h : BehindAt w) (hne : ¬ DD A 0) (hw : Sat w (DD A) (fun b => b < w.heap.size ∧ ¬ DD A b) w ow w') : BehindAt w' := by
  intro j v hj
  have h2 := hw.fr.keep 0 h.lt hne
  have h1 := h j v hj
  rw [World.cell?_of_block (a := ⟨0, j, Option.none⟩) h2]
  exact h1
end Go.Proofs.YtgiiifadbnpfkaaGreatDoor

set_option maxRecDepth 10000
namespace Go.Proofs.YtgiiifadbnpfkaaGreatDoor
open Go Go.Hw
set_option linter.unusedSimpArgs false
set_option linter.unusedVariables false
end Go.Proofs.YtgiiifadbnpfkaaGreatDoor

set_option maxRecDepth 10000
namespace Go.Proofs.YtgiiifadbnpfkaaGreatDoor
open Go Go.Hw
set_option linter.unusedSimpArgs false
set_option linter.unusedVariables false
theorem BI.part {z : BI} {k : Nat} (hz : BIok z k) {i : IG} (hi : i ∈ z.is) : partF (Fis z.is) i.y.x = i.p := partF_mem hz.bs.nodup (List.mem_map.2 ⟨i, hi, rfl⟩)
end Go.Proofs.YtgiiifadbnpfkaaGreatDoor

set_option maxRecDepth 10000
namespace Go.Proofs.YtgiiifadbnpfkaaGreatDoor
open Go Go.Hw
set_option linter.unusedSimpArgs false
set_option linter.unusedVariables false
end Go.Proofs.YtgiiifadbnpfkaaGreatDoor

namespace Go.Hw
set_option linter.unusedVariables false
set_option linter.unusedSimpArgs false
open Go Go.RowKit
variable {w0 ws w : World} {M I : Nat → Prop} {A A' ow : List Item} {i j : Item}
variable {P : Program} {ops : Array Oper} {Q : Post} {n : Nat} {ds : DS} {e : Env} {rest : List Oper} {c : Code}
theorem WC.rangeFuncN {γ α δ β : Type} {RA : γ → List Item} {CC : β → List Item} {EI : α → δ → List Item} {arg : α → δ → Value} {xs : List α} {g0 : γ} {y0 : β} {R01 Mono : γ → Prop} {g : Operand} {gf : FuncId} {caps : List Value} {p1 : Tmp} {assign body : Code}
    {l0 : Nat} {lr0 : LR} {st0 : LoopState} {pe0 : Option Code}
    (hr : ds.r = some l0) (hl0 : ∀ w, Sat w0 M I ws (RA g0 ++ (CC y0 ++ ow)) w → w.heap[l0]? = some (lr0.ob st0 pe0)) (hg : ev e g = some (.func (.func gf) #[] caps.toArray)) (hf : bodied P gf = true) (hp : Nat.blt p1 n = true)
    (hs : ∀ w, Sat w0 M I ws (RA g0 ++ (CC y0 ++ ow)) w → IterSpec P gf caps RA g0 R01 Mono EI arg xs w)
    (J : Nat → γ → β → Prop) (Jx : Code → Nat → γ → β → Prop) (h0 : ∀ g1, R01 g1 → J 0 g1 y0) (hm : ∀ k g1 y, J k g1 y → Mono g1)
    (hround : ∀ (l : Nat) (lr : LR) (k : Nat) (g1 : γ) (y : β) (d : δ) (W : World) (a : α), xs[k]? = some a → J k g1 y → Sat w0 M I ws (own l (lr.ob .ready none) :: (EI a d ++ (RA g1 ++ (CC y ++ ow)))) W →
      WC P (AQ P l body (RR RA CC J Jx l lr (own l (lr.ob .ready none) :: (EI a d ++ (RA g1 ++ CC y))) k W)) n { r := some l } ((p1, arg a d) :: e)
        (SatR W (own l (lr.ob .ready none) :: (EI a d ++ (RA g1 ++ CC y))) (own l (lr.ob .ready none) :: (EI a d ++ (RA g1 ++ CC y)))) assign)
    (hdone : ∀ g2 y2, J xs.length g2 y2 → WX Q n ds e (Sat w0 M I ws (RA g2 ++ (CC y2 ++ ow))) .normal)
    (hjump : ∀ c k g2 y2, Jx c k g2 y2 → 0 < k → k ≤ xs.length → WC P Q n ds e (Sat w0 M I ws (RA g2 ++ (CC y2 ++ ow))) c) :
    WC P Q n ds e (Sat w0 M I ws (RA g0 ++ (CC y0 ++ ow))) (.rangeFunc g #[p1] assign body) := by
  intro a w ha hw
  have hro : (fen ds.r).round = some l0 := by rw [fen_round, hr]
  refine wpIn_rangeFunc ?_
  intro fn hfn
  rw [hro]
  obtain ⟨lr, hlr⟩ : ∃ lr : LR, lr = { fn, tmps := a.tmps, ps := #[p1], assign, body, D := lr0.D } := ⟨_, rfl⟩
  obtain ⟨W1, hW1⟩ : ∃ W1, w.alloc (lr.ob .ready none) = W1 := ⟨_, rfl⟩
  have hS1 : Sat w0 M I ws (own w.heap.size (lr.ob .ready none) :: (RA g0 ++ (CC y0 ++ ow))) W1 := by
    have h1 : Sat w0 M I ws (own w.heap.size (lr.ob .ready none) :: (RA g0 ++ (CC y0 ++ ow))) (w.alloc (lr.ob .ready none)) :=
      hw.fresh (Fr.alloc _ _) (own_alloc _ _) (fun b hb => by simp only [own] at hb; subst hb; simp)
    rw [hW1] at h1
    exact h1
  have hfrW : Fr0 w W1 := by rw [← hW1]; exact Fr.alloc _ _
  have hA0 : Sat w0 M I ws ((RA g0 ++ (own w.heap.size (lr.ob .ready none) :: CC y0)) ++ ow) W1 := by
    refine hS1.perm ?_
    refine List.Perm.trans (List.Perm.of_eq (List.append_assoc _ _ _)) ?_
    exact mid_perm
  have hturn : ∀ {W : World} {A' : List Item}, Turns (RA g0 ++ (own w.heap.size (lr.ob .ready none) :: CC y0)) A' W1 W → Sat w0 M I ws (A' ++ ow) W := fun h => hA0.turns h
  refine ⟨w.heap.size, [], W1, ⟨.fn (.func gf) caps.toArray, #[.func (.yield w.heap.size) #[] #[]]⟩, W1, gf, (.func (.yield w.heap.size) #[] #[] :: caps).toArray, W1, ?_, ?_, fun _ _ => fen_fn _ _, ?_, fun h => (by rw [fen_depth] at h; cases h), ?_⟩
  · have h1 := run_enterLoop_inner (P := P) (show w.heap[l0]? = some (.loop _) from hl0 w hw) fn a.tmps #[p1] assign body
    rw [← hW1, hlr]; exact h1
  · simp only [resolve, ha.eval hg]
    simp [Deferred.ofValue]
    rfl
  · simp only [invoke]
    rw [enters_bodied hf]
    simp
  · refine fen_in.2 ?_
    have hspec := hs w hw (β := β × Obj) (fun z => own w.heap.size z.2 :: CC z.1) (fun k g1 z => J k g1 z.1 ∧ z.2 = lr.ob .ready none) (fun k g1 z => ∃ c, Jx c k g1 z.1 ∧ z.2 = lr.ob .done (some c)) (y0, lr.ob .ready none) w.heap.size W1
      ⟨hfrW.mono (fun _ f => f.elim), hA0.holds.φ, fun i hi b hb => ⟨hA0.holds.lt i hi b hb, .inl ⟨i, hi, hb⟩⟩, hA0.holds.disj⟩ (fun g1 h1 => ⟨h0 g1 h1, rfl⟩) (fun k g1 z h => hm k g1 z.1 h.1) ?_
    · refine Calls.mono hspec ?_
      rintro en w' ⟨rfl, g2, ⟨y2, o⟩, k, hk, ht⟩
      have hS2 := hturn ht
      have hS3 : Sat w0 M I ws (own w.heap.size o :: (RA g2 ++ (CC y2 ++ ow))) w' := by
        refine hS2.perm ?_
        refine List.Perm.symm ?_
        refine List.Perm.trans (List.Perm.of_eq (List.append_assoc _ _ _)) ?_
        exact mid_perm
      have hl : w'.heap[w.heap.size]? = some o := hS3.it _ (.head _)
      rcases hk with ⟨rfl, hJ, rfl⟩ | ⟨hk0, hkn, c, hJ, rfl⟩
      · refine ⟨none, _, run_endLoop hl (by simp), ?_⟩
        exact hdone g2 y2 hJ _ _ ⟨ha.size, ha.defers, ha.ok⟩ (Sat.drop hS3.putObj)
      · refine ⟨some c, _, run_endLoop hl (by simp), ?_⟩
        exact hjump c k g2 y2 hJ hk0 hkn { a with defers := [] ++ a.defers } _ ⟨ha.size, ha.defers, ha.ok⟩ (Sat.drop (hS3.putObj (o' := lr.ob .exhausted (some c))))
    · rintro k g1 ⟨y, o⟩ d W x hx ⟨hJ, rfl⟩ ht
      have hSW := hturn ht
      have hl : W.heap[w.heap.size]? = some (lr.ob .ready none) := ht.φ (own w.heap.size (lr.ob .ready none)) (by simp)
      have hy := run_yield (P := P) (args := #[arg x d]) hl (by rw [hlr]; rfl)
      have hperm : (own w.heap.size (lr.ob .ready none) :: (EI x d ++ (RA g1 ++ CC y))).Perm (EI x d ++ (RA g1 ++ (own w.heap.size (lr.ob .ready none) :: CC y))) :=
        ((List.Perm.append_left _ mid_perm).trans mid_perm).symm
      have hcaller : Sat w0 M I ws (own w.heap.size (lr.ob .ready none) :: (EI x d ++ (RA g1 ++ (CC y ++ ow)))) W := by
        refine hSW.perm ?_
        simp only [List.append_assoc, List.cons_append]
        exact ((List.Perm.append_left _ mid_perm).trans mid_perm).symm
      have hR := hround w.heap.size lr k g1 y d W x hx hJ hcaller
      have hH : Holds (own w.heap.size (lr.ob .ready none) :: (EI x d ++ (RA g1 ++ CC y))) W := ht.holds.perm hperm
      rw [hlr] at hy
      refine ⟨fn, _, assign, body, hy, ?_⟩
      refine RoundIn.mono (R := fun en w' => ∃ b, en = .returned (.bool b) ∧ RR RA CC J Jx w.heap.size lr (own w.heap.size (lr.ob .ready none) :: (EI x d ++ (RA g1 ++ CC y))) k W b w') (roundIn_of_wpIn trivial ?_) ?_
      · have h1 := hR { tmps := a.tmps.setIfInBounds p1 (arg x d), defers := [] } W ?_ (Sat.startA hH)
        · have e1 : ((#[p1] : Array Tmp).zip #[arg x d]).foldl (fun tmps (q : Tmp × Value) => tmps.setIfInBounds q.1 q.2) a.tmps = a.tmps.setIfInBounds p1 (arg x d) := by simp
          rw [e1]
          exact h1
        · have hput := ha.put hp (arg x d)
          exact ⟨hput.size, rfl, hput.ok⟩
      · rintro en w' ⟨b, rfl, g2, y2, o2, hb1, hb2, ht2⟩
        refine ⟨b, rfl, g2, (y2, o2), fun hb => hb1 hb, fun hb => hb2 hb, ht2.perm hperm.symm mid_perm⟩
end Go.Hw
