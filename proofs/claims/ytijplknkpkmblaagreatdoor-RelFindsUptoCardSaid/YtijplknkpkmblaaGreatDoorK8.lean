/- Contracts of functions of the program: what each returns and leaves in memory. Printed by gen.py and walk.py. -/
import Derived.Test.YtijplknkpkmblaaGreatDoorK7
namespace Go.Proofs.YtijplknkpkmblaaGreatDoor
open Go Go.Hw
set_option linter.unusedSimpArgs false
set_option linter.unusedVariables false
def turnE (e : Ent) : Ent := { e with part := if e.part = 4 then 2 else 1 }
def turnG (g : RelG) : RelG := { g with es := g.es.map turnE, fa := g.na, fc := g.nc, fs := g.ns, na := none, nc := 0, ns := [] }
theorem mv_turn {g : RelG} (ok : RelOK g) : mv (mv g.es g.fs 1) g.ns 2 = g.es.map turnE := by
  unfold mv
  rw [List.map_map]
  apply List.map_congr_left
  intro e he
  have hf : e.p ∈ g.fs ↔ e.part = 2 := by
    rw [ok.fs, List.mem_map]
    constructor
    · rintro ⟨x, hx, hxp⟩
      obtain ⟨hx1, hx2⟩ := List.mem_filter.1 hx
      rw [← ent_eq ok.ptrs hx1 he hxp]
      simpa using hx2
    · intro h
      exact ⟨e, List.mem_filter.2 ⟨he, by simpa using h⟩, rfl⟩
  have hn : e.p ∈ g.ns ↔ e.part = 4 := by
    rw [ok.ns, List.mem_map]
    constructor
    · rintro ⟨x, hx, hxp⟩
      obtain ⟨hx1, hx2⟩ := List.mem_filter.1 hx
      rw [← ent_eq ok.ptrs hx1 he hxp]
      simpa using hx2
    · intro h
      exact ⟨e, List.mem_filter.2 ⟨he, by simpa using h⟩, rfl⟩
  simp only [Function.comp_apply, mvE, hf]
  rcases ok.part e he with h | h | h
  · have h2 : ¬ e.part = 2 := by omega
    have h4 : ¬ e.part = 4 := by omega
    rw [if_neg h2, if_neg (fun hh => h4 (hn.1 hh)), turnE, if_neg h4, ← h]
  · have h4 : ¬ e.part = 4 := by omega
    rw [if_pos h]
    simp only
    rw [if_neg (fun hh => h4 (hn.1 hh)), turnE, if_neg h4]
  · have h2 : ¬ e.part = 2 := by omega
    rw [if_neg h2, if_pos (hn.2 h), turnE, if_pos h]
theorem perm_F {H F N X Y : Hw.Item} {E R : List Hw.Item} : (H :: F :: (E ++ (X :: Y :: N :: R))).Perm (H :: X :: Y :: F :: N :: (E ++ R)) := by
  refine List.Perm.cons _ ?_
  refine List.Perm.trans (List.Perm.cons _ ?_) (perm2 (i := F) (j := X) (k := Y))
  exact List.perm_middle.trans (List.Perm.cons _ (List.perm_middle.trans (List.Perm.cons _ List.perm_middle)))
theorem perm_N {H F N X Y : Hw.Item} {E R : List Hw.Item} : (H :: N :: (E ++ (X :: Y :: F :: R))).Perm (H :: X :: Y :: F :: N :: (E ++ R)) := by
  refine List.Perm.cons _ ?_
  refine List.Perm.trans (List.Perm.cons _ ?_) (perm3 (d := N) (a := X) (b := Y) (c := F))
  exact List.perm_middle.trans (List.Perm.cons _ (List.perm_middle.trans (List.Perm.cons _ List.perm_middle)))
theorem pull3 {H N X Y Z : Hw.Item} {E R : List Hw.Item} : (Z :: H :: N :: (E ++ (X :: Y :: R))).Perm (H :: N :: (E ++ (X :: Y :: Z :: R))) := by
  refine (perm2 (i := Z) (j := H) (k := N)).trans (List.Perm.cons _ (List.Perm.cons _ ?_))
  refine (List.perm_middle (l₁ := E) (l₂ := X :: Y :: R)).symm.trans (List.Perm.append_left _ ?_)
  exact perm2
theorem rowsM_turn (es : List Ent) : rowsM (es.map turnE) = rowsM es := by
  unfold rowsM
  rw [List.map_map]
  rfl
theorem filter_nodup {g : RelG} (ok : RelOK g) (q : Nat) : ((g.es.filter fun e => e.part = q).map (·.p)).Nodup :=
  List.Nodup.sublist (List.Sublist.map _ List.filter_sublist) ok.ptrs
theorem mem_fs {g : RelG} (ok : RelOK g) : ∀ p ∈ g.fs, ∃ e ∈ g.es, e.p = p ∧ e.part = 2 := by
  intro p hp
  rw [ok.fs] at hp
  obtain ⟨e, he, rfl⟩ := List.mem_map.1 hp
  obtain ⟨h1, h2⟩ := List.mem_filter.1 he
  exact ⟨e, h1, rfl, by simpa using h2⟩
theorem mem_ns {g : RelG} (ok : RelOK g) : ∀ p ∈ g.ns, ∃ e ∈ mv g.es g.fs 1, e.p = p ∧ e.part = 4 := by
  intro p hp
  rw [ok.ns] at hp
  obtain ⟨e, he, rfl⟩ := List.mem_map.1 hp
  obtain ⟨h1, h2⟩ := List.mem_filter.1 he
  have h4 : e.part = 4 := by simpa using h2
  refine ⟨mvE g.fs 1 e, List.mem_map.2 ⟨e, h1, rfl⟩, (mvE_p _ _ _).1, ?_⟩
  unfold mvE
  rw [if_neg]
  · exact h4
  · intro hh
    obtain ⟨x, hx, hxp, hx2⟩ := mem_fs ok _ hh
    rw [ent_eq ok.ptrs hx h1 hxp] at hx2
    omega
theorem mv_ptrs (es : List Ent) (ps : List Nat) (q : Nat) : (mv es ps q).map (·.p) = es.map (·.p) := by
  unfold mv
  rw [List.map_map]
  apply List.map_congr_left
  intro e _
  exact (mvE_p ps q e).1
theorem fs_len {g : RelG} (ok : RelOK g) : g.fs.length ≤ 1099511627776 := by
  rw [ok.fs, List.length_map]; exact Nat.le_trans (List.length_filter_le _ _) ok.el
theorem ns_len {g : RelG} (ok : RelOK g) : g.ns.length ≤ g.es.length := by
  rw [ok.ns, List.length_map]; exact List.length_filter_le _ _
theorem turnE_row (e : Ent) : (turnE e).row = e.row ∧ (turnE e).p = e.p ∧ (turnE e).a = e.a ∧ (turnE e).c = e.c := ⟨rfl, rfl, rfl, rfl⟩
theorem turn_part {e : Ent} (h : e.part = 1 ∨ e.part = 2 ∨ e.part = 4) : (turnE e).part = 2 ↔ e.part = 4 := by
  unfold turnE; simp only; split <;> omega
theorem turnG_ok {g : RelG} (ok : RelOK g) : RelOK (turnG g) where
  wid e he := by
    obtain ⟨x, hx, rfl⟩ := List.mem_map.1 he
    exact ok.wid x hx
  i64 e he := by
    obtain ⟨x, hx, rfl⟩ := List.mem_map.1 he
    exact ok.i64 x hx
  part e he := by
    obtain ⟨x, hx, rfl⟩ := List.mem_map.1 he
    unfold turnE; simp only; split <;> omega
  rows := by
    show ((g.es.map turnE).map (·.row)).Nodup
    rw [List.map_map]
    exact ok.rows
  ptrs := by
    show ((g.es.map turnE).map (·.p)).Nodup
    rw [List.map_map]
    exact ok.ptrs
  fs := by
    show g.ns = ((g.es.map turnE).filter fun e => e.part = 2).map (·.p)
    rw [ok.ns, List.filter_map, List.map_map]
    have : g.es.filter ((fun e => decide (e.part = 2)) ∘ turnE) = g.es.filter fun e => e.part = 4 := by
      apply List.filter_congr
      intro e he
      have := turn_part (ok.part e he)
      simp only [Function.comp_apply]
      exact decide_eq_decide.2 this
    rw [this]
    rfl
  ns := by
    show ([] : List Nat) = ((g.es.map turnE).filter fun e => e.part = 4).map (·.p)
    rw [List.filter_eq_nil_iff.2]
    · rfl
    · intro e he
      obtain ⟨x, hx, rfl⟩ := List.mem_map.1 he
      unfold turnE; simp only; split <;> simp
  cols := ok.cols
  ixc := ok.ixc
  ixk := ok.ixk
  ix x hx := by
    have h := ok.ix x hx
    refine ⟨h.keys, fun k => ?_⟩
    have h2 := h.ps k
    show (psOf x.gs k).Perm (((g.es.map turnE).filter fun e => ixKey x.col e = k).map (·.p))
    rw [List.filter_map, List.map_map]
    exact h2
  coll := ok.coll
  wl := ok.wl
  rl e he := by
    obtain ⟨x, hx, rfl⟩ := List.mem_map.1 he
    exact ok.rl x hx
  el := by show (g.es.map turnE).length ≤ _; rw [List.length_map]; exact ok.el

set_option maxRecDepth 10000 in
theorem turn_calls (g : RelG) (ok : RelOK g) (w : World) (hA : Holds (relA g) w) : Calls Tryz.prog 15 #[.pointer (some ⟨g.r, 0, none⟩)] w fun e w' => e = .returned (.int .i64 (g.ns.length : Int)) ∧ Turns (relA g) (relA (turnG g)) w w' := by
  refine enterA hA (args := [.pointer (some ⟨g.r, 0, none⟩)]) Tryz.func15 rfl Tryz.ntmps15 rfl rfl ?_
  refine WC.seq ?_
  refine WC.region ?_
  refine WL.val (OV.assign rfl) rfl ?_
  refine WL.nil ?_
  refine WX.next ?_
  refine WC.seq ?_
  refine WC.region ?_
  refine WL.val (OV.move rfl) rfl ?_
  refine WL.val (OV.move rfl) rfl ?_
  refine WL.val (OV.nilCheck rfl) rfl ?_
  first
  | (refine WL.val (OV.fieldAddr0 (off := 2) rfl T.u66 rfl) rfl ?_)
  | (refine WL.val (OV.fieldAddr (off := 2) rfl T.u66 rfl) rfl ?_)
  first
  | (refine WL.val (OV.load1 rfl T.u56 rfl (fun _ hw => cell_own hw (.head _) rfl)) rfl ?_)
  refine WL.focus perm_F (WL.callTA (ι := Unit) (vv := fun _ => .tuple #[]) (pp := fun _ => True) (hdA g.r (hdC g.width g.mb (fslice g) (nslice g) (counts g.es) g.ib) :: psA g.fa g.fc g.fs :: g.es.flatMap entA) (AA := fun _ => hdA g.r (hdC g.width g.mb (fslice g) (nslice g) (counts (mv g.es g.fs 1)) g.ib) :: psA g.fa g.fc g.fs :: (mv g.es g.fs 1).flatMap entA) rfl (by kernel_rfl) rfl rfl (fun w' hw' hH => (move_calls g.r g.width g.mb g.ib (fslice g) (nslice g) g.fa g.fc g.fs g.es 2 1 (by decide) (by decide) (by decide) (by rw [ok.fs]; exact filter_nodup ok 2) ok.ptrs (mem_fs ok) ok.el (fs_len ok) w' hH).mono (fun e w'' ⟨h1, h2⟩ => ⟨(), h1, trivial, h2⟩)) ?_)
  rintro _ _
  refine WL.nil ?_
  refine WX.next ?_
  refine WC.seq ?_
  refine WC.region ?_
  refine WL.val (OV.move rfl) rfl ?_
  refine WL.val (OV.move rfl) rfl ?_
  refine WL.val (OV.nilCheck rfl) rfl ?_
  first
  | (refine WL.val (OV.fieldAddr0 (off := 3) rfl T.u66 rfl) rfl ?_)
  | (refine WL.val (OV.fieldAddr (off := 3) rfl T.u66 rfl) rfl ?_)
  first
  | (refine WL.val (OV.load1 rfl T.u56 rfl (fun _ hw => cell_own hw (.head _) rfl)) rfl ?_)
  refine WL.focus (perm_N.trans perm_F.symm) (WL.callTA (ι := Unit) (vv := fun _ => .tuple #[]) (pp := fun _ => True) (hdA g.r (hdC g.width g.mb (fslice g) (nslice g) (counts (mv g.es g.fs 1)) g.ib) :: psA g.na g.nc g.ns :: (mv g.es g.fs 1).flatMap entA) (AA := fun _ => hdA g.r (hdC g.width g.mb (fslice g) (nslice g) (counts (mv (mv g.es g.fs 1) g.ns 2)) g.ib) :: psA g.na g.nc g.ns :: (mv (mv g.es g.fs 1) g.ns 2).flatMap entA) rfl (by kernel_rfl) rfl rfl (fun w' hw' hH => (move_calls g.r g.width g.mb g.ib (fslice g) (nslice g) g.na g.nc g.ns (mv g.es g.fs 1) 4 2 (by decide) (by decide) (by decide) (by rw [ok.ns]; exact filter_nodup ok 4) (by rw [mv_ptrs]; exact ok.ptrs) (mem_ns ok) (by rw [mv_length]; exact ok.el) (by have := ns_len ok; have := ok.el; omega) w' hH).mono (fun e w'' ⟨h1, h2⟩ => ⟨(), h1, trivial, h2⟩)) ?_)
  rintro _ _
  rw [mv_turn ok]
  refine WL.nil ?_
  refine WX.next ?_
  refine WC.seq ?_
  refine WC.region ?_
  refine WL.val (OV.move rfl) rfl ?_
  refine WL.val (OV.move rfl) rfl ?_
  refine WL.val (OV.move rfl) rfl ?_
  refine WL.val (OV.nilCheck rfl) rfl ?_
  first
  | (refine WL.val (OV.fieldAddr0 (off := 3) rfl T.u66 rfl) rfl ?_)
  | (refine WL.val (OV.fieldAddr (off := 3) rfl T.u66 rfl) rfl ?_)
  first
  | (refine WL.val (OV.load1 rfl T.u56 rfl (fun _ hw => cell_own hw (.head _) rfl)) rfl ?_)
  refine WL.val (OV.nilCheck rfl) rfl ?_
  first
  | (refine WL.val (OV.fieldAddr0 (off := 2) rfl T.u66 rfl) rfl ?_)
  | (refine WL.val (OV.fieldAddr (off := 2) rfl T.u66 rfl) rfl ?_)
  refine WL.store1 (o := 2) rfl rfl rfl T.z56 (by rw [hdC_length (counts_length _)]; omega) ?_
  refine WL.val (OV.nilCheck rfl) rfl ?_
  first
  | (refine WL.val (OV.fieldAddr0 (off := 3) rfl T.u66 rfl) rfl ?_)
  | (refine WL.val (OV.fieldAddr (off := 3) rfl T.u66 rfl) rfl ?_)
  refine WL.store1 (o := 3) rfl rfl rfl T.z56 (by rw [List.length_set, hdC_length (counts_length _)]; omega) ?_
  refine WL.nil ?_
  refine WX.next ?_
  refine WC.seq ?_
  refine WC.region ?_
  refine WL.val (OV.move rfl) rfl ?_
  refine WL.val (OV.nilCheck rfl) rfl ?_
  first
  | (refine WL.val (OV.fieldAddr0 (off := 2) rfl T.u66 rfl) rfl ?_)
  | (refine WL.val (OV.fieldAddr (off := 2) rfl T.u66 rfl) rfl ?_)
  first
  | (refine WL.val (OV.load1 rfl T.u56 rfl (fun _ hw => cell_own hw (.head _) rfl)) rfl ?_)
  first
  | (refine WL.val (OV.lenSlice rfl T.u56) rfl ?_)
  | (refine WL.val (OV.lenStr rfl T.u56) rfl ?_)
  refine WL.val (OV.assign rfl) rfl ?_
  refine WL.nil ?_
  refine WX.next ?_
  refine WC.ret ?_
  exact WX.ret1 rfl rfl rfl (fun w' hw => ⟨rfl, by
    have h1 := ((hw.perm pull3).drop).rowNil 78 1
    refine (h1.perm (ow' := relA (turnG g)) ?_).turned
    unfold relA
    simp only [turnG, rowsM_turn]
    exact (pull3.trans perm_F).symm⟩)

end Go.Proofs.YtijplknkpkmblaaGreatDoor
