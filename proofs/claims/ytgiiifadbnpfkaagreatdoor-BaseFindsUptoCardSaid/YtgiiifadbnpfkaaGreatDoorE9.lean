/- Contracts of functions of the program: what each returns and leaves in memory. Printed by gen.py and walk.py. -/
import Derived.Test.YtgiiifadbnpfkaaGreatDoorMg21
namespace Go.Proofs.YtgiiifadbnpfkaaGreatDoor
open Go Go.Hw
set_option linter.unusedSimpArgs false
set_option linter.unusedVariables false
def cnM (parts : Int) (p : At) (l : List IG) : Nat := (l.filter fun i => matchB p i.y.x && inP parts i.p).length
theorem cnM_le (parts : Int) (p : At) (l : List IG) (k : Nat) : cnM parts p (l.take k) ≤ k := Nat.le_trans (List.length_filter_le _ _) (by rw [List.length_take]; omega)
theorem cnM_take {parts : Int} {p : At} {l : List IG} {i : Nat} {n : IG} (h : l[i]? = some n) : cnM parts p (l.take (i + 1)) = cnM parts p (l.take i) + if (matchB p n.y.x && inP parts n.p) = true then 1 else 0 := by
  rw [cnM, cnM, List.take_add_one, h, List.filter_append, List.length_append]
  congr 1
  cases h4 : (matchB p n.y.x && inP parts n.p) <;> simp [h4]
theorem foundF_Fis (is : List IG) (parts : Int) (p : At) : (foundF (Fis is) parts p).length = cnM parts p is := by
  unfold foundF
  rw [(sortA_perm _).length_eq]
  unfold selF Fis cnM
  rw [List.filter_map, List.filter_map, List.length_map, List.filter_map, List.length_map, List.filter_filter]
  rfl
theorem found_nodup {F : List (At × Nat)} (hn : (F.map (·.1)).Nodup) (parts : Int) (p : At) : ((selF F parts).filter (matchB p)).Nodup := List.Nodup.sublist List.filter_sublist (selF_nodup hn parts)

set_option maxRecDepth 10000 in
set_option maxHeartbeats 2000000 in
theorem baseFinds_calls (os : List OpB) (oa : Option Addr) (oc : Nat) (parts : Int) (p : At) (a : Option Addr) (c : Nat) (hO : OBs os) (hl : p.args.length ≤ 1048575) (w : World) (hN : NoneAt w) (hR : ROp w oa os) (hr : RT w a p.args) : Calls Tryz.prog 4 #[.slice oa os.length oc, .int .i64 parts, atV p a c] w fun e w' => e = .returned (.bool true) ∧ Fr0 w w' := by
  refine enterS (args := [.slice oa os.length oc, .int .i64 parts, atV p a c]) (fun _ => False) Tryz.func4 rfl Tryz.ntmps4 rfl rfl ?_
  refine WC.seq ?_
  refine WC.region ?_
  refine WL.box rfl rfl rfl ?_
  intro b5
  refine WL.val (OV.assign rfl) rfl ?_
  refine WL.nil ?_
  refine WX.next ?_
  refine WC.seq ?_
  refine WC.region ?_
  refine WL.val (OV.move rfl) rfl ?_
  refine WL.callTA (ι := BI) (vs := [.slice oa os.length oc]) (vv := fun z => .tuple #[ptr z.g.p, .slice z.a z.is.length z.c, .bool true]) (pp := fun z => BIok z os.length ∧ z.is.length ≤ os.length) [] (AA := fun z => rowIt z.a z.c z.is :: (argsA (z.is.map IG.y) ++ baseA z.g)) rfl (by kernel_rfl) rfl rfl (fun w' hw' _ => built_calls os oa oc hO w' (hN.keeps hw'.keeps) (hR.keeps hw'.keeps)) ?_
  rintro z ⟨hz, hzl⟩
  have hol := hO.len
  refine WL.focus (ow' := baseA z.g ++ (itsA z.a z.c z.is ++ [own b5 (.cells (atC p a c).toArray 34 (0, 0))])) (by exact perm_cat [[rowIt z.a z.c z.is], argsA (z.is.map IG.y), baseA z.g, [own b5 (.cells (atC p a c).toArray 34 (0, 0))]] [2, 0, 1, 3] (by decide) rfl |> fun h => h.trans (List.Perm.of_eq (by simp [cat]))) ?_
  refine WL.val (OV.move rfl) rfl ?_
  refine WL.val (OV.extract rfl rfl) rfl ?_
  refine WL.val (OV.extract rfl rfl) rfl ?_
  refine WL.val (OV.extract rfl rfl) rfl ?_
  refine WL.val (OV.assign rfl) rfl ?_
  refine WL.val (OV.assign rfl) rfl ?_
  refine WL.val (OV.assign rfl) rfl ?_
  refine WL.nil ?_
  refine WX.next ?_
  refine WC.seq ?_
  refine WC.seq ?_
  refine WC.region ?_
  refine WL.val (OV.move rfl) rfl ?_
  refine WL.val (OV.not rfl) rfl ?_
  refine WL.nil ?_
  refine WX.next ?_
  refine WC.condF (show _ = some (Value.bool false) from by rfl) ?_
  refine WC.skip ?_
  refine WX.next ?_
  refine WC.seq ?_
  refine WC.region ?_
  refine WL.val (OV.move rfl) rfl ?_
  refine WL.val (OV.move rfl) rfl ?_
  refine WL.val (OV.loadN (cs := atC p a c) rfl T.u34 rfl T.z34 (fun _ hw j v hj => by rw [add_off, Nat.zero_add]; exact own_cells hw (show own b5 (.cells (atC p a c).toArray 34 (0, 0)) ∈ _ by simp) j v hj)) rfl ?_
  refine WL.callTA (ι := AnsA) (vs := [ptr z.g.p, .int .i64 parts, atV p a c]) (vv := fun f => .slice f.a f.ys.length f.c) (pp := fun f => f.ys.map AG.x = foundF (Fis z.is) parts p ∧ BS f.g os.length (Fis z.is) ∧ f.g.p = z.g.p ∧ (∀ y ∈ f.ys, y.x.args.length ≤ 8) ∧ f.ys.length ≤ os.length) (baseA z.g) (AA := fun f => baseA f.g ++ atsA f.a f.c f.ys) rfl (by kernel_rfl) rfl rfl (fun w' hw' hH => lfound_calls z.g os.length (Fis z.is) hz.bs (by omega) parts p a c (by omega) w' (hr.keeps hw'.keeps) (fun q hq hl => Sat.sepI hw' (hr.lt hq hl)) hH) ?_
  rintro f ⟨hfx, bsf, hfp, hfar, hfl⟩
  have hfn : f.ys.length = cnM parts p z.is := by
    have h := congrArg List.length hfx
    rw [List.length_map, foundF_Fis] at h; exact h
  refine WL.focus (ow' := baseA f.g ++ (atsA f.a f.c f.ys ++ (itsA z.a z.c z.is ++ [own b5 (.cells (atC p a c).toArray 34 (0, 0))]))) (List.Perm.of_eq (List.append_assoc _ _ _).symm) ?_
  refine WL.val (OV.assign rfl) rfl ?_
  refine WL.nil ?_
  refine WX.next ?_
  refine WC.seq ?_
  refine WC.seq ?_
  refine WC.region ?_
  refine WL.val (OV.move rfl) rfl ?_
  refine WL.call0 (v := .bool true) (vs := [.slice f.a f.ys.length f.c]) (by kernel_rfl) rfl rfl (fun w' hw' => rises_calls f.ys f.a f.c (by omega) (fun y hy => by have := hfar y hy; omega) (fun i x y hx hy => rises_sortA (found_nodup hz.bs.nodup parts p) (by rw [hfx] at hx; exact hx) (by rw [hfx] at hy; exact hy)) w' (RA.of_row hw' (fun i hi => List.mem_append_right _ (List.mem_append_left _ hi)))) ?_
  refine WL.val (OV.not rfl) rfl ?_
  refine WL.nil ?_
  refine WX.next ?_
  refine WC.condF (show _ = some (Value.bool false) from by rfl) ?_
  refine WC.skip ?_
  refine WX.next ?_
  refine WC.seq ?_
  refine WC.region ?_
  refine WL.val (OV.assign rfl) rfl ?_
  refine WL.nil ?_
  refine WX.next ?_
  refine WC.seq ?_
  refine WC.seq ?_
  refine WC.region ?_
  refine WL.val (OV.assign rfl) rfl ?_
  refine WL.nil ?_
  refine WX.next ?_
  refine WC.block ?_
  refine WC.know (fun w' hw => (fun hp => row_addrK (hw.it (rowIt z.a z.c z.is) (List.mem_append_right _ (List.mem_append_right _ (.head _)))) hp : 0 < z.is.length → ∃ q, z.a = some ⟨q, 0, none⟩)) (fun hza => ?_)
  refine WC.loop1 (fun (i : Nat) => [(1, .int .i64 parts), (5, .pointer (some ⟨b5, 0, none⟩)), (7, ptr z.g.p), (8, .slice z.a z.is.length z.c), (10, .slice f.a f.ys.length f.c), (11, .int .i64 (cnM parts p (z.is.take i) : Int)), (12, .int .i64 (i : Int))])
      (fun i w' => i ≤ z.is.length ∧ Sat w (fun _ => False) (fun b => b < w.heap.size) w (baseA f.g ++ (atsA f.a f.c f.ys ++ (itsA z.a z.c z.is ++ [own b5 (.cells (atC p a c).toArray 34 (0, 0))]))) w') (fun i => z.is.length - i) 0 ⟨rfl, rfl, rfl, rfl, rfl, rfl, rfl, trivial⟩ (fun w' hw => ⟨by omega, hw⟩) ?_
  intro i
  refine WC.pure (fun hi => ?_)
  refine WC.seq ?_
  refine WC.seq ?_
  refine WC.region ?_
  refine WL.val (OV.move rfl) rfl ?_
  refine WL.val (OV.move rfl) rfl ?_
  first
  | (refine WL.val (OV.lenSlice rfl T.u24) rfl ?_)
  | (refine WL.val (OV.lenStr rfl T.u24) rfl ?_)
  refine WL.val (OV.lss rfl rfl) rfl ?_
  refine WL.nil ?_
  refine WX.next ?_
  refine WC.cond rfl (fun c37 => ?_) (fun c37 => ?_)
  · try simp only [decide_eq_true_eq, decide_eq_false_iff_not, Bool.not_eq_true', Bool.not_eq_false'] at c37
    refine WC.skip ?_
    refine WX.next ?_
    refine WC.seq ?_
    refine WC.block ?_
    refine WC.seq ?_
    obtain ⟨i0, hi0⟩ : ∃ i0, z.is[i]? = some i0 := ⟨_, List.getElem?_eq_getElem (by omega)⟩
    have hi0m := List.mem_of_getElem? hi0
    obtain ⟨qb, hqb⟩ := hza (by omega)
    refine WC.drawn (fun w' => w'.heap[b5]? = some (.cells (atC p a c).toArray 34 (0, 0)) ∧ (rowIt z.a z.c z.is).φ w') [] (by kernel_rfl) (by kernel_rfl) (m := 12) rfl ?_
    refine WH.take 0 rfl (by kernel_rfl) (by kernel_rfl) (by kernel_rfl) (by kernel_rfl) (fun _ hw => ⟨hw.it (own b5 (.cells (atC p a c).toArray 34 (0, 0))) (by simp), hw.it _ (show rowIt z.a z.c z.is ∈ baseA f.g ++ (atsA f.a f.c f.ys ++ (itsA z.a z.c z.is ++ [own b5 (.cells (atC p a c).toArray 34 (0, 0))])) from (List.mem_append_right _ (List.mem_append_right _ (.head _))))⟩) (OV.loadN (cs := atC p a c) rfl T.u34 rfl T.z34 (fun _ hw j v hj => by rw [add_off]; exact heap_part hw.1 (o := 0) (cs' := atC p a c) rfl j v hj)) rfl (listed' := [true, false, false, false, false, false, false, false, false, false, false, false]) rfl ?_
    refine WH.free 1 rfl (by kernel_rfl) (by kernel_rfl) (by kernel_rfl) rfl (fun _ => (fun _ hw => ⟨hw.it (own b5 (.cells (atC p a c).toArray 34 (0, 0))) (by simp), hw.it _ (show rowIt z.a z.c z.is ∈ baseA f.g ++ (atsA f.a f.c f.ys ++ (itsA z.a z.c z.is ++ [own b5 (.cells (atC p a c).toArray 34 (0, 0))])) from (List.mem_append_right _ (List.mem_append_right _ (.head _))))⟩)) (OV.move rfl) rfl (listed' := [true, true, false, false, false, false, false, false, false, false, false, false]) rfl ?_
    refine WH.free 2 rfl (by kernel_rfl) (by kernel_rfl) (by kernel_rfl) rfl (fun _ => (fun _ hw => ⟨hw.it (own b5 (.cells (atC p a c).toArray 34 (0, 0))) (by simp), hw.it _ (show rowIt z.a z.c z.is ∈ baseA f.g ++ (atsA f.a f.c f.ys ++ (itsA z.a z.c z.is ++ [own b5 (.cells (atC p a c).toArray 34 (0, 0))])) from (List.mem_append_right _ (List.mem_append_right _ (.head _))))⟩)) (OV.move rfl) rfl (listed' := [true, true, true, false, false, false, false, false, false, false, false, false]) rfl ?_
    refine WH.free 3 rfl (by kernel_rfl) (by kernel_rfl) (by kernel_rfl) rfl (fun _ => (fun _ hw => ⟨hw.it (own b5 (.cells (atC p a c).toArray 34 (0, 0))) (by simp), hw.it _ (show rowIt z.a z.c z.is ∈ baseA f.g ++ (atsA f.a f.c f.ys ++ (itsA z.a z.c z.is ++ [own b5 (.cells (atC p a c).toArray 34 (0, 0))])) from (List.mem_append_right _ (List.mem_append_right _ (.head _))))⟩)) ((OV.indexSlice (show _ = some (Value.slice (some ⟨qb, 0, none⟩) z.is.length z.c) by rw [← hqb]; rfl) rfl T.u24 T.z36 (by omega)).cast (u := .pointer (some ⟨qb, i * 6, none⟩)) (by rw [Int.toNat_natCast, add_off, Nat.zero_add])) rfl (listed' := [true, true, true, true, false, false, false, false, false, false, false, false]) rfl ?_
    first
    | (refine WH.free 4 rfl (by kernel_rfl) (by kernel_rfl) (by kernel_rfl) rfl (fun _ => (fun _ hw => ⟨hw.it (own b5 (.cells (atC p a c).toArray 34 (0, 0))) (by simp), hw.it _ (show rowIt z.a z.c z.is ∈ baseA f.g ++ (atsA f.a f.c f.ys ++ (itsA z.a z.c z.is ++ [own b5 (.cells (atC p a c).toArray 34 (0, 0))])) from (List.mem_append_right _ (List.mem_append_right _ (.head _))))⟩)) (OV.fieldAddr0 (off := 0) rfl T.u36 rfl) rfl (listed' := [true, true, true, true, true, false, false, false, false, false, false, false]) rfl ?_)
    | (refine WH.free 4 rfl (by kernel_rfl) (by kernel_rfl) (by kernel_rfl) rfl (fun _ => (fun _ hw => ⟨hw.it (own b5 (.cells (atC p a c).toArray 34 (0, 0))) (by simp), hw.it _ (show rowIt z.a z.c z.is ∈ baseA f.g ++ (atsA f.a f.c f.ys ++ (itsA z.a z.c z.is ++ [own b5 (.cells (atC p a c).toArray 34 (0, 0))])) from (List.mem_append_right _ (List.mem_append_right _ (.head _))))⟩)) (OV.fieldAddr (off := 0) rfl T.u36 rfl) rfl (listed' := [true, true, true, true, true, false, false, false, false, false, false, false]) rfl ?_)
    refine WH.take 5 rfl (by kernel_rfl) (by kernel_rfl) (by kernel_rfl) (by kernel_rfl) (fun _ hw => ⟨hw.it (own b5 (.cells (atC p a c).toArray 34 (0, 0))) (by simp), hw.it _ (show rowIt z.a z.c z.is ∈ baseA f.g ++ (atsA f.a f.c f.ys ++ (itsA z.a z.c z.is ++ [own b5 (.cells (atC p a c).toArray 34 (0, 0))])) from (List.mem_append_right _ (List.mem_append_right _ (.head _))))⟩) (OV.loadN (cs := agC i0.y) rfl T.u34 rfl T.z34 (fun _ hw j v hj => by have hj5 : j < 5 := (List.getElem?_eq_some_iff.1 hj).1; have h := row_cellsφE hqb hw.2 (i * 6 + j) v (by rw [flat_get igC_len _ i j i0 hi0 (by omega)]; exact ig_left hj); rw [add_off, Nat.zero_add] at h; rw [add_off]; exact h)) rfl (listed' := [true, true, true, true, true, true, false, false, false, false, false, false]) rfl ?_
    refine WH.only 6 rfl (by kernel_rfl) (listed' := [true, true, true, true, true, true, true, false, false, false, false, false]) rfl (fl' := false) rfl ?_
    refine WL.callTA (ι := Value) (vs := [atV p a c, atV i0.y.x i0.y.a i0.y.c, .slice none 0 0]) (vv := fun v => .tuple #[v, .bool (matchB p i0.y.x)]) (pp := fun _ => True) [] (AA := fun _ => []) rfl (by kernel_rfl) rfl rfl (fun w' hw' _ => (match_calls p i0.y.x a i0.y.a c i0.y.c (by omega) (by have := hz.args i0 hi0m; omega) w' (hr.keeps hw'.keeps) (RT.of_row (c := i0.y.c) rfl hw' (show rowT i0.y.a i0.y.c i0.y.x.args ∈ baseA f.g ++ (atsA f.a f.c f.ys ++ (itsA z.a z.c z.is ++ [own b5 (.cells (atC p a c).toArray 34 (0, 0))])) from (List.mem_append_right _ (List.mem_append_right _ (.tail _ (List.mem_append_left _ (List.mem_map.2 ⟨i0.y, List.mem_map.2 ⟨i0, hi0m, rfl⟩, rfl⟩)))))))).mono (fun en w'' ⟨v, h1, h2⟩ => ⟨v, h1, trivial, turns0 h2⟩)) ?_
    rintro mv _
    refine WL.nil ?_
    refine WX.contD (by kernel_rfl) (fun _ => (fun _ hw => ⟨hw.it (own b5 (.cells (atC p a c).toArray 34 (0, 0))) (by simp), hw.it _ (show rowIt z.a z.c z.is ∈ baseA f.g ++ (atsA f.a f.c f.ys ++ (itsA z.a z.c z.is ++ [own b5 (.cells (atC p a c).toArray 34 (0, 0))])) from (List.mem_append_right _ (List.mem_append_right _ (.head _))))⟩)) ?_
    refine WH.free 7 rfl (by kernel_rfl) (by kernel_rfl) (by kernel_rfl) rfl (fun _ => (fun _ hw => ⟨hw.it (own b5 (.cells (atC p a c).toArray 34 (0, 0))) (by simp), hw.it _ (show rowIt z.a z.c z.is ∈ baseA f.g ++ (atsA f.a f.c f.ys ++ (itsA z.a z.c z.is ++ [own b5 (.cells (atC p a c).toArray 34 (0, 0))])) from (List.mem_append_right _ (List.mem_append_right _ (.head _))))⟩)) (OV.move rfl) rfl (listed' := [true, true, true, true, true, true, true, true, false, false, false, false]) rfl ?_
    refine WH.free 8 rfl (by kernel_rfl) (by kernel_rfl) (by kernel_rfl) rfl (fun _ => (fun _ hw => ⟨hw.it (own b5 (.cells (atC p a c).toArray 34 (0, 0))) (by simp), hw.it _ (show rowIt z.a z.c z.is ∈ baseA f.g ++ (atsA f.a f.c f.ys ++ (itsA z.a z.c z.is ++ [own b5 (.cells (atC p a c).toArray 34 (0, 0))])) from (List.mem_append_right _ (List.mem_append_right _ (.head _))))⟩)) (OV.extract rfl rfl) rfl (listed' := [true, true, true, true, true, true, true, true, true, false, false, false]) rfl ?_
    refine WH.free 9 rfl (by kernel_rfl) (by kernel_rfl) (by kernel_rfl) rfl (fun _ => (fun _ hw => ⟨hw.it (own b5 (.cells (atC p a c).toArray 34 (0, 0))) (by simp), hw.it _ (show rowIt z.a z.c z.is ∈ baseA f.g ++ (atsA f.a f.c f.ys ++ (itsA z.a z.c z.is ++ [own b5 (.cells (atC p a c).toArray 34 (0, 0))])) from (List.mem_append_right _ (List.mem_append_right _ (.head _))))⟩)) (OV.extract rfl rfl) rfl (listed' := [true, true, true, true, true, true, true, true, true, true, false, false]) rfl ?_
    refine WH.free 10 rfl (by kernel_rfl) (by kernel_rfl) (by kernel_rfl) rfl (fun _ => (fun _ hw => ⟨hw.it (own b5 (.cells (atC p a c).toArray 34 (0, 0))) (by simp), hw.it _ (show rowIt z.a z.c z.is ∈ baseA f.g ++ (atsA f.a f.c f.ys ++ (itsA z.a z.c z.is ++ [own b5 (.cells (atC p a c).toArray 34 (0, 0))])) from (List.mem_append_right _ (List.mem_append_right _ (.head _))))⟩)) (OV.assign rfl) rfl (listed' := [true, true, true, true, true, true, true, true, true, true, true, false]) rfl ?_
    refine WH.free 11 rfl (by kernel_rfl) (by kernel_rfl) (by kernel_rfl) rfl (fun _ => (fun _ hw => ⟨hw.it (own b5 (.cells (atC p a c).toArray 34 (0, 0))) (by simp), hw.it _ (show rowIt z.a z.c z.is ∈ baseA f.g ++ (atsA f.a f.c f.ys ++ (itsA z.a z.c z.is ++ [own b5 (.cells (atC p a c).toArray 34 (0, 0))])) from (List.mem_append_right _ (List.mem_append_right _ (.head _))))⟩)) (OV.assign rfl) rfl (listed' := [true, true, true, true, true, true, true, true, true, true, true, true]) rfl ?_
    refine WH.done (by kernel_rfl) ?_
    refine WX.next ?_
    refine WC.seq ?_
    refine WC.region ?_
    refine WL.val (OV.move rfl) rfl ?_
    refine WL.val (OV.move rfl) rfl ?_
    refine WL.split (t := 51) rfl (fun g51 => ?_) (fun g51 => ?_)
    · try simp only [decide_eq_true_eq, decide_eq_false_iff_not, Bool.not_eq_true', Bool.not_eq_false'] at g51
      refine WL.go (b := true) rfl rfl rfl ?_
      refine WL.val (OV.move rfl) rfl ?_
      refine WL.go (b := true) rfl rfl rfl ?_
      refine WL.val (OV.move rfl) rfl ?_
      refine WL.go (b := true) rfl rfl rfl ?_
      refine WL.val (OV.move rfl) rfl ?_
      refine WL.go (b := true) rfl rfl rfl ?_
      refine WL.val ((OV.indexSlice (show _ = some (Value.slice (some ⟨qb, 0, none⟩) z.is.length z.c) by rw [← hqb]; rfl) rfl T.u24 T.z36 (by omega)).cast (u := .pointer (some ⟨qb, i * 6, none⟩)) (by rw [Int.toNat_natCast, add_off, Nat.zero_add])) rfl ?_
      refine WL.go (b := true) rfl rfl rfl ?_
      first
      | (refine WL.val (OV.fieldAddr0 (off := 5) rfl T.u36 rfl) rfl ?_)
      | (refine WL.val (OV.fieldAddr (off := 5) rfl T.u36 rfl) rfl ?_)
      refine WL.go (b := true) rfl rfl rfl ?_
      refine WL.val (OV.load1 (v := .int .i64 (i0.p : Int)) rfl T.u3 rfl (fun _ hw => by have h := row_cellsφE hqb (hw.it (rowIt z.a z.c z.is) (show rowIt z.a z.c z.is ∈ baseA f.g ++ (atsA f.a f.c f.ys ++ (itsA z.a z.c z.is ++ [own b5 (.cells (atC p a c).toArray 34 (0, 0))])) from (List.mem_append_right _ (List.mem_append_right _ (.head _))))) (i * 6 + 5) (.int .i64 (i0.p : Int)) (by rw [flat_get igC_len _ (i) 5 i0 hi0 (by omega)]; rfl); rw [add_off, Nat.zero_add] at h; exact h)) rfl ?_
      refine WL.go (b := true) rfl rfl rfl ?_
      refine WL.val (OV.and rfl rfl) rfl ?_
      refine WL.go (b := true) rfl rfl rfl ?_
      refine WL.val (OV.neq rfl rfl) rfl ?_
      refine WL.val (OV.pickT rfl rfl) rfl ?_
      refine WL.nil ?_
      refine WX.next ?_
      refine WC.cond rfl (fun c60 => ?_) (fun c60 => ?_)
      · try simp only [decide_eq_true_eq, decide_eq_false_iff_not, Bool.not_eq_true', Bool.not_eq_false'] at c60
        refine WC.region ?_
        refine WL.val (OV.move rfl) rfl ?_
        have hcn := cnM_le parts p z.is i
        refine WL.val (OV.addN (i := cnM parts p (z.is.take i)) (j := 1) rfl rfl (by omega)) rfl ?_
        refine WL.val (OV.assign rfl) rfl ?_
        refine WL.nil ?_
        refine WX.block_normal ?_
        refine WX.next ?_
        refine WC.region ?_
        refine WL.val (OV.move rfl) rfl ?_
        refine WL.val (OV.addN (j := 1) rfl rfl (by omega)) rfl ?_
        refine WL.val (OV.assign rfl) rfl ?_
        refine WL.nil ?_
        have hq : (matchB p i0.y.x && inP parts i0.p) = true := by rw [show matchB p i0.y.x = true by simpa using g51]; unfold inP; simpa using c60
        exact WX.round1 (i + 1) ⟨rfl, rfl, rfl, rfl, rfl, by rw [cnM_take hi0, if_pos hq]; rfl, rfl, trivial⟩ (fun w' hw => ⟨by omega, hw⟩) (by show z.is.length - (i + 1) < z.is.length - i; omega)
      · try simp only [decide_eq_true_eq, decide_eq_false_iff_not, Bool.not_eq_true', Bool.not_eq_false'] at c60
        refine WC.skip ?_
        refine WX.block_normal ?_
        refine WX.next ?_
        refine WC.region ?_
        refine WL.val (OV.move rfl) rfl ?_
        refine WL.val (OV.addN (j := 1) rfl rfl (by omega)) rfl ?_
        refine WL.val (OV.assign rfl) rfl ?_
        refine WL.nil ?_
        have hq : ¬ (matchB p i0.y.x && inP parts i0.p) = true := by rw [show matchB p i0.y.x = true by simpa using g51]; unfold inP; simpa using c60
        exact WX.round1 (i + 1) ⟨rfl, rfl, rfl, rfl, rfl, by rw [cnM_take hi0, if_neg hq]; rfl, rfl, trivial⟩ (fun w' hw => ⟨by omega, hw⟩) (by show z.is.length - (i + 1) < z.is.length - i; omega)
    · try simp only [decide_eq_true_eq, decide_eq_false_iff_not, Bool.not_eq_true', Bool.not_eq_false'] at g51
      refine WL.skip (b := false) rfl rfl rfl rfl ?_
      refine WL.skip (b := false) rfl rfl rfl rfl ?_
      refine WL.skip (b := false) rfl rfl rfl rfl ?_
      refine WL.skip (b := false) rfl rfl rfl rfl ?_
      refine WL.skip (b := false) rfl rfl rfl rfl ?_
      refine WL.skip (b := false) rfl rfl rfl rfl ?_
      refine WL.skip (b := false) rfl rfl rfl rfl ?_
      refine WL.skip (b := false) rfl rfl rfl rfl ?_
      refine WL.val (OV.pickF rfl rfl) rfl ?_
      refine WL.nil ?_
      refine WX.next ?_
      refine WC.condF (show _ = some (Value.bool false) from by rfl) ?_
      refine WC.skip ?_
      refine WX.block_normal ?_
      refine WX.next ?_
      refine WC.region ?_
      refine WL.val (OV.move rfl) rfl ?_
      refine WL.val (OV.addN (j := 1) rfl rfl (by omega)) rfl ?_
      refine WL.val (OV.assign rfl) rfl ?_
      refine WL.nil ?_
      have hq : ¬ (matchB p i0.y.x && inP parts i0.p) = true := by rw [show matchB p i0.y.x = false by simpa using g51]; simp
      exact WX.round1 (i + 1) ⟨rfl, rfl, rfl, rfl, rfl, by rw [cnM_take hi0, if_neg hq]; rfl, rfl, trivial⟩ (fun w' hw => ⟨by omega, hw⟩) (by show z.is.length - (i + 1) < z.is.length - i; omega)
  · try simp only [decide_eq_true_eq, decide_eq_false_iff_not, Bool.not_eq_true', Bool.not_eq_false'] at c37
    refine WC.exit ?_
    refine WX.then_exit ?_
    refine WX.then_exit ?_
    refine WX.block_hit ?_
    refine WX.next ?_
    refine WC.seq ?_
    refine WC.seq ?_
    refine WC.region ?_
    refine WL.val (OV.assign rfl) rfl ?_
    refine WL.nil ?_
    refine WX.next ?_
    refine WC.block ?_
    have hci : cnM parts p (z.is.take i) = f.ys.length := by rw [List.take_of_length_le (by omega), hfn]
    rw [hci]
    refine WC.know (fun w' hw => (fun hp => row_addrK (hw.it (rowAt f.a f.c f.ys) (List.mem_append_right _ (List.mem_append_left _ (.head _)))) hp : 0 < f.ys.length → ∃ q, f.a = some ⟨q, 0, none⟩)) (fun hfa => ?_)
    refine WC.loop1 (fun (i : Nat) => [(1, .int .i64 parts), (5, .pointer (some ⟨b5, 0, none⟩)), (7, ptr z.g.p), (8, .slice z.a z.is.length z.c), (10, .slice f.a f.ys.length f.c), (11, .int .i64 (f.ys.length : Int)), (15, .int .i64 (i : Int))])
        (fun i w' => i ≤ f.ys.length ∧ Sat w (fun _ => False) (fun b => b < w.heap.size) w (baseA f.g ++ (atsA f.a f.c f.ys ++ (itsA z.a z.c z.is ++ [own b5 (.cells (atC p a c).toArray 34 (0, 0))]))) w') (fun i => f.ys.length - i) 0 ⟨rfl, rfl, rfl, rfl, rfl, rfl, rfl, trivial⟩ (fun w' hw => ⟨by omega, hw⟩) ?_
    intro i
    refine WC.pure (fun hi => ?_)
    refine WC.seq ?_
    refine WC.seq ?_
    refine WC.region ?_
    refine WL.val (OV.move rfl) rfl ?_
    refine WL.val (OV.move rfl) rfl ?_
    first
    | (refine WL.val (OV.lenSlice rfl T.u27) rfl ?_)
    | (refine WL.val (OV.lenStr rfl T.u27) rfl ?_)
    refine WL.val (OV.lss rfl rfl) rfl ?_
    refine WL.nil ?_
    refine WX.next ?_
    refine WC.cond rfl (fun c66 => ?_) (fun c66 => ?_)
    · try simp only [decide_eq_true_eq, decide_eq_false_iff_not, Bool.not_eq_true', Bool.not_eq_false'] at c66
      refine WC.skip ?_
      refine WX.next ?_
      refine WC.seq ?_
      refine WC.block ?_
      refine WC.seq ?_
      refine WC.region ?_
      refine WL.val (OV.move rfl) rfl ?_
      refine WL.val (OV.move rfl) rfl ?_
      refine WL.val (OV.move rfl) rfl ?_
      obtain ⟨y, hy⟩ : ∃ y, f.ys[i]? = some y := ⟨_, List.getElem?_eq_getElem (by omega)⟩
      have hym := List.mem_of_getElem? hy
      obtain ⟨qf, hqf⟩ := hfa (by omega)
      have hys : y.x ∈ (selF (Fis z.is) parts).filter (matchB p) := (sortA_perm _).mem_iff.1 (show y.x ∈ foundF (Fis z.is) parts p by rw [← hfx]; exact List.mem_map.2 ⟨y, hym, rfl⟩)
      have hmt := (List.mem_filter.1 hys).2
      have hyi : y.x ∈ xsI z.is := by
        obtain ⟨q, hq, he⟩ := List.mem_map.1 (List.mem_filter.1 hys).1
        rw [← Fis_fst, ← he]; exact List.mem_map.2 ⟨q, (List.mem_filter.1 hq).1, rfl⟩
      obtain ⟨m, hm, hml, hmx⟩ := placeI_get hyi
      simp only [List.length_map] at hml
      refine WL.val ((OV.indexSlice (show _ = some (Value.slice (some ⟨qf, 0, none⟩) f.ys.length f.c) by rw [← hqf]; rfl) rfl T.u27 T.z34 (by omega)).cast (u := .pointer (some ⟨qf, i * 5, none⟩)) (by rw [Int.toNat_natCast, add_off, Nat.zero_add])) rfl ?_
      refine WL.val (OV.loadN (cs := agC y) rfl T.u34 rfl T.z34 (fun _ hw j v hj => by have hj5 : j < 5 := (List.getElem?_eq_some_iff.1 hj).1; have h := row_cellsφE hqf (hw.it (rowAt f.a f.c f.ys) (show rowAt f.a f.c f.ys ∈ baseA f.g ++ (atsA f.a f.c f.ys ++ (itsA z.a z.c z.is ++ [own b5 (.cells (atC p a c).toArray 34 (0, 0))])) from (List.mem_append_right _ (List.mem_append_left _ (.head _))))) (i * 5 + j) v (by rw [flat_get agC_len _ i j y hy (by omega)]; exact hj); rw [add_off, Nat.zero_add] at h; rw [add_off]; exact h)) rfl ?_
      refine WL.call0 (v := .int .i64 (m : Int)) (vs := [.slice z.a z.is.length z.c, atV y.x y.a y.c]) (by kernel_rfl) rfl rfl (fun w' hw' => (place_calls z.is z.a z.c y.x y.a y.c (by omega) (fun i hi => by have := hz.args i hi; omega) (by have := hfar y hym; omega) w' (RIt.of_row hw' (fun i hi => List.mem_append_right _ (List.mem_append_right _ (List.mem_append_left _ hi)))) (RT.of_row (c := y.c) rfl hw' (List.mem_append_right _ (List.mem_append_left _ (.tail _ (List.mem_map.2 ⟨y, hym, rfl⟩)))))).mono (fun en w'' ⟨h1, h2⟩ => ⟨by rw [h1, hm], h2⟩)) ?_
      refine WL.val (OV.assign rfl) rfl ?_
      refine WL.nil ?_
      refine WX.next ?_
      refine WC.seq ?_
      refine WC.drawn (fun w' => w'.heap[b5]? = some (.cells (atC p a c).toArray 34 (0, 0)) ∧ (rowAt f.a f.c f.ys).φ w') [] (by kernel_rfl) (by kernel_rfl) (m := 11) rfl ?_
      refine WH.take 0 rfl (by kernel_rfl) (by kernel_rfl) (by kernel_rfl) (by kernel_rfl) (fun _ hw => ⟨hw.it (own b5 (.cells (atC p a c).toArray 34 (0, 0))) (by simp), hw.it _ (show rowAt f.a f.c f.ys ∈ baseA f.g ++ (atsA f.a f.c f.ys ++ (itsA z.a z.c z.is ++ [own b5 (.cells (atC p a c).toArray 34 (0, 0))])) from (List.mem_append_right _ (List.mem_append_left _ (.head _))))⟩) (OV.loadN (cs := atC p a c) rfl T.u34 rfl T.z34 (fun _ hw j v hj => by rw [add_off]; exact heap_part hw.1 (o := 0) (cs' := atC p a c) rfl j v hj)) rfl (listed' := [true, false, false, false, false, false, false, false, false, false, false]) rfl ?_
      refine WH.free 1 rfl (by kernel_rfl) (by kernel_rfl) (by kernel_rfl) rfl (fun _ => (fun _ hw => ⟨hw.it (own b5 (.cells (atC p a c).toArray 34 (0, 0))) (by simp), hw.it _ (show rowAt f.a f.c f.ys ∈ baseA f.g ++ (atsA f.a f.c f.ys ++ (itsA z.a z.c z.is ++ [own b5 (.cells (atC p a c).toArray 34 (0, 0))])) from (List.mem_append_right _ (List.mem_append_left _ (.head _))))⟩)) (OV.move rfl) rfl (listed' := [true, true, false, false, false, false, false, false, false, false, false]) rfl ?_
      refine WH.free 2 rfl (by kernel_rfl) (by kernel_rfl) (by kernel_rfl) rfl (fun _ => (fun _ hw => ⟨hw.it (own b5 (.cells (atC p a c).toArray 34 (0, 0))) (by simp), hw.it _ (show rowAt f.a f.c f.ys ∈ baseA f.g ++ (atsA f.a f.c f.ys ++ (itsA z.a z.c z.is ++ [own b5 (.cells (atC p a c).toArray 34 (0, 0))])) from (List.mem_append_right _ (List.mem_append_left _ (.head _))))⟩)) (OV.move rfl) rfl (listed' := [true, true, true, false, false, false, false, false, false, false, false]) rfl ?_
      refine WH.free 3 rfl (by kernel_rfl) (by kernel_rfl) (by kernel_rfl) rfl (fun _ => (fun _ hw => ⟨hw.it (own b5 (.cells (atC p a c).toArray 34 (0, 0))) (by simp), hw.it _ (show rowAt f.a f.c f.ys ∈ baseA f.g ++ (atsA f.a f.c f.ys ++ (itsA z.a z.c z.is ++ [own b5 (.cells (atC p a c).toArray 34 (0, 0))])) from (List.mem_append_right _ (List.mem_append_left _ (.head _))))⟩)) ((OV.indexSlice (show _ = some (Value.slice (some ⟨qf, 0, none⟩) f.ys.length f.c) by rw [← hqf]; rfl) rfl T.u27 T.z34 (by omega)).cast (u := .pointer (some ⟨qf, i * 5, none⟩)) (by rw [Int.toNat_natCast, add_off, Nat.zero_add])) rfl (listed' := [true, true, true, true, false, false, false, false, false, false, false]) rfl ?_
      refine WH.take 4 rfl (by kernel_rfl) (by kernel_rfl) (by kernel_rfl) (by kernel_rfl) (fun _ hw => ⟨hw.it (own b5 (.cells (atC p a c).toArray 34 (0, 0))) (by simp), hw.it _ (show rowAt f.a f.c f.ys ∈ baseA f.g ++ (atsA f.a f.c f.ys ++ (itsA z.a z.c z.is ++ [own b5 (.cells (atC p a c).toArray 34 (0, 0))])) from (List.mem_append_right _ (List.mem_append_left _ (.head _))))⟩) (OV.loadN (cs := agC y) rfl T.u34 rfl T.z34 (fun _ hw j v hj => by have hj5 : j < 5 := (List.getElem?_eq_some_iff.1 hj).1; have h := row_cellsφE hqf hw.2 (i * 5 + j) v (by rw [flat_get agC_len _ i j y hy (by omega)]; exact hj); rw [add_off, Nat.zero_add] at h; rw [add_off]; exact h)) rfl (listed' := [true, true, true, true, true, false, false, false, false, false, false]) rfl ?_
      refine WH.only 5 rfl (by kernel_rfl) (listed' := [true, true, true, true, true, true, false, false, false, false, false]) rfl (fl' := false) rfl ?_
      refine WL.callTA (ι := Value) (vs := [atV p a c, atV y.x y.a y.c, .slice none 0 0]) (vv := fun v => .tuple #[v, .bool true]) (pp := fun _ => True) [] (AA := fun _ => []) rfl (by kernel_rfl) rfl rfl (fun w' hw' _ => (match_calls p y.x a y.a c y.c (by omega) (by have := hfar y hym; omega) w' (hr.keeps hw'.keeps) (RT.of_row (c := y.c) rfl hw' (show rowT y.a y.c y.x.args ∈ baseA f.g ++ (atsA f.a f.c f.ys ++ (itsA z.a z.c z.is ++ [own b5 (.cells (atC p a c).toArray 34 (0, 0))])) from (List.mem_append_right _ (List.mem_append_left _ (.tail _ (List.mem_map.2 ⟨y, hym, rfl⟩))))))).mono (fun en w'' ⟨v, h1, h2⟩ => ⟨v, by rw [h1, hmt], trivial, turns0 h2⟩)) ?_
      rintro mv _
      refine WL.nil ?_
      refine WX.contD (by kernel_rfl) (fun _ => (fun _ hw => ⟨hw.it (own b5 (.cells (atC p a c).toArray 34 (0, 0))) (by simp), hw.it _ (show rowAt f.a f.c f.ys ∈ baseA f.g ++ (atsA f.a f.c f.ys ++ (itsA z.a z.c z.is ++ [own b5 (.cells (atC p a c).toArray 34 (0, 0))])) from (List.mem_append_right _ (List.mem_append_left _ (.head _))))⟩)) ?_
      refine WH.free 6 rfl (by kernel_rfl) (by kernel_rfl) (by kernel_rfl) rfl (fun _ => (fun _ hw => ⟨hw.it (own b5 (.cells (atC p a c).toArray 34 (0, 0))) (by simp), hw.it _ (show rowAt f.a f.c f.ys ∈ baseA f.g ++ (atsA f.a f.c f.ys ++ (itsA z.a z.c z.is ++ [own b5 (.cells (atC p a c).toArray 34 (0, 0))])) from (List.mem_append_right _ (List.mem_append_left _ (.head _))))⟩)) (OV.move rfl) rfl (listed' := [true, true, true, true, true, true, true, false, false, false, false]) rfl ?_
      refine WH.free 7 rfl (by kernel_rfl) (by kernel_rfl) (by kernel_rfl) rfl (fun _ => (fun _ hw => ⟨hw.it (own b5 (.cells (atC p a c).toArray 34 (0, 0))) (by simp), hw.it _ (show rowAt f.a f.c f.ys ∈ baseA f.g ++ (atsA f.a f.c f.ys ++ (itsA z.a z.c z.is ++ [own b5 (.cells (atC p a c).toArray 34 (0, 0))])) from (List.mem_append_right _ (List.mem_append_left _ (.head _))))⟩)) (OV.extract rfl rfl) rfl (listed' := [true, true, true, true, true, true, true, true, false, false, false]) rfl ?_
      refine WH.free 8 rfl (by kernel_rfl) (by kernel_rfl) (by kernel_rfl) rfl (fun _ => (fun _ hw => ⟨hw.it (own b5 (.cells (atC p a c).toArray 34 (0, 0))) (by simp), hw.it _ (show rowAt f.a f.c f.ys ∈ baseA f.g ++ (atsA f.a f.c f.ys ++ (itsA z.a z.c z.is ++ [own b5 (.cells (atC p a c).toArray 34 (0, 0))])) from (List.mem_append_right _ (List.mem_append_left _ (.head _))))⟩)) (OV.extract rfl rfl) rfl (listed' := [true, true, true, true, true, true, true, true, true, false, false]) rfl ?_
      refine WH.free 9 rfl (by kernel_rfl) (by kernel_rfl) (by kernel_rfl) rfl (fun _ => (fun _ hw => ⟨hw.it (own b5 (.cells (atC p a c).toArray 34 (0, 0))) (by simp), hw.it _ (show rowAt f.a f.c f.ys ∈ baseA f.g ++ (atsA f.a f.c f.ys ++ (itsA z.a z.c z.is ++ [own b5 (.cells (atC p a c).toArray 34 (0, 0))])) from (List.mem_append_right _ (List.mem_append_left _ (.head _))))⟩)) (OV.assign rfl) rfl (listed' := [true, true, true, true, true, true, true, true, true, true, false]) rfl ?_
      refine WH.free 10 rfl (by kernel_rfl) (by kernel_rfl) (by kernel_rfl) rfl (fun _ => (fun _ hw => ⟨hw.it (own b5 (.cells (atC p a c).toArray 34 (0, 0))) (by simp), hw.it _ (show rowAt f.a f.c f.ys ∈ baseA f.g ++ (atsA f.a f.c f.ys ++ (itsA z.a z.c z.is ++ [own b5 (.cells (atC p a c).toArray 34 (0, 0))])) from (List.mem_append_right _ (List.mem_append_left _ (.head _))))⟩)) (OV.assign rfl) rfl (listed' := [true, true, true, true, true, true, true, true, true, true, true]) rfl ?_
      refine WH.done (by kernel_rfl) ?_
      refine WX.next ?_
      refine WC.seq ?_
      refine WC.region ?_
      refine WL.val (OV.move rfl) rfl ?_
      refine WL.val ((OV.lss rfl rfl).cast (u := .bool false) (by simp)) rfl ?_
      refine WL.val (OV.move rfl) rfl ?_
      refine WL.known (t := 86) (b := false) rfl (by rfl) ?_
      refine WL.go (b := false) rfl rfl rfl ?_
      refine WL.val (OV.move rfl) rfl ?_
      refine WL.go (b := false) rfl rfl rfl ?_
      refine WL.val (OV.not rfl) rfl ?_
      refine WL.val (OV.pickF rfl rfl) rfl ?_
      refine WL.val (OV.move rfl) rfl ?_
      refine WL.known (t := 90) (b := false) rfl (by rfl) ?_
      refine WL.go (b := false) rfl rfl rfl ?_
      refine WL.val (OV.move rfl) rfl ?_
      refine WL.go (b := false) rfl rfl rfl ?_
      refine WL.val (OV.move rfl) rfl ?_
      refine WL.go (b := false) rfl rfl rfl ?_
      refine WL.val (OV.move rfl) rfl ?_
      refine WL.go (b := false) rfl rfl rfl ?_
      obtain ⟨i0, hi0⟩ : ∃ i0, z.is[m]? = some i0 := ⟨_, List.getElem?_eq_getElem (by omega)⟩
      have hi0m := List.mem_of_getElem? hi0
      obtain ⟨qb, hqb⟩ := hza (by omega)
      have hin : inP parts i0.p = true := BI.sel hz ((sortA_perm _).mem_iff.2 (List.mem_filter.1 hys).1) hi0 (by rw [List.getElem?_map, hi0] at hmx; exact Option.some.inj hmx)
      refine WL.val ((OV.indexSlice (show _ = some (Value.slice (some ⟨qb, 0, none⟩) z.is.length z.c) by rw [← hqb]; rfl) rfl T.u24 T.z36 (by omega)).cast (u := .pointer (some ⟨qb, m * 6, none⟩)) (by rw [Int.toNat_natCast, add_off, Nat.zero_add])) rfl ?_
      refine WL.go (b := false) rfl rfl rfl ?_
      first
      | (refine WL.val (OV.fieldAddr0 (off := 5) rfl T.u36 rfl) rfl ?_)
      | (refine WL.val (OV.fieldAddr (off := 5) rfl T.u36 rfl) rfl ?_)
      refine WL.go (b := false) rfl rfl rfl ?_
      refine WL.val (OV.load1 (v := .int .i64 (i0.p : Int)) rfl T.u3 rfl (fun _ hw => by have h := row_cellsφE hqb (hw.it (rowIt z.a z.c z.is) (show rowIt z.a z.c z.is ∈ baseA f.g ++ (atsA f.a f.c f.ys ++ (itsA z.a z.c z.is ++ [own b5 (.cells (atC p a c).toArray 34 (0, 0))])) from (List.mem_append_right _ (List.mem_append_right _ (.head _))))) (m * 6 + 5) (.int .i64 (i0.p : Int)) (by rw [flat_get igC_len _ (m) 5 i0 hi0 (by omega)]; rfl); rw [add_off, Nat.zero_add] at h; exact h)) rfl ?_
      refine WL.go (b := false) rfl rfl rfl ?_
      refine WL.val (OV.and rfl rfl) rfl ?_
      refine WL.go (b := false) rfl rfl rfl ?_
      refine WL.val ((OV.eql rfl rfl).cast (u := .bool false) (by unfold inP at hin; simpa using hin)) rfl ?_
      refine WL.val (OV.pickF rfl rfl) rfl ?_
      refine WL.nil ?_
      refine WX.next ?_
      refine WC.condF (show _ = some (Value.bool false) from by rfl) ?_
      refine WC.skip ?_
      refine WX.block_normal ?_
      refine WX.next ?_
      refine WC.region ?_
      refine WL.val (OV.move rfl) rfl ?_
      refine WL.val (OV.addN (j := 1) rfl rfl (by omega)) rfl ?_
      refine WL.val (OV.assign rfl) rfl ?_
      refine WL.nil ?_
      exact WX.round1 (i + 1) ⟨rfl, rfl, rfl, rfl, rfl, rfl, rfl, trivial⟩ (fun w' hw => ⟨by omega, hw⟩) (by show f.ys.length - (i + 1) < f.ys.length - i; omega)
    · try simp only [decide_eq_true_eq, decide_eq_false_iff_not, Bool.not_eq_true', Bool.not_eq_false'] at c66
      refine WC.exit ?_
      refine WX.then_exit ?_
      refine WX.then_exit ?_
      refine WX.block_hit ?_
      refine WX.next ?_
      refine WC.seq ?_
      refine WC.region ?_
      refine WL.val (OV.move rfl) rfl ?_
      first
      | (refine WL.val (OV.lenSlice rfl T.u27) rfl ?_)
      | (refine WL.val (OV.lenStr rfl T.u27) rfl ?_)
      refine WL.val (OV.move rfl) rfl ?_
      refine WL.val (OV.eql rfl rfl) rfl ?_
      refine WL.val (OV.move rfl) rfl ?_
      refine WL.known (t := 104) (b := true) rfl (by simp) ?_
      refine WL.go (b := true) rfl rfl rfl ?_
      refine WL.call0 (v := .bool true) (vs := []) (by kernel_rfl) rfl rfl (fun w' hw' => first_calls w' (hN.keeps hw'.keeps)) ?_
      refine WL.val (OV.pickT rfl rfl) rfl ?_
      refine WL.val (OV.assign rfl) rfl ?_
      refine WL.nil ?_
      refine WX.next ?_
      refine WC.ret ?_
      exact WX.ret1 rfl rfl rfl (fun w' hw => ⟨rfl, hw.fr⟩)

end Go.Proofs.YtgiiifadbnpfkaaGreatDoor
