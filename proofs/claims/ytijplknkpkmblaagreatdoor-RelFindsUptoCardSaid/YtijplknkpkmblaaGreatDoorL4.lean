/- Contracts of functions of the program: what each returns and leaves in memory. Printed by gen.py and walk.py. -/
import Derived.Test.YtijplknkpkmblaaGreatDoorL3
namespace Go.Proofs.YtijplknkpkmblaaGreatDoor
open Go Go.Hw
set_option linter.unusedSimpArgs false
set_option linter.unusedVariables false
/-! ### An index is made -/
theorem rowsM_get {es : List Ent} {i : Nat} {q : ByteArray × Value} (h : (rowsM es)[i]? = some q) : ∃ e, es[i]? = some e ∧ q = (keyB e.row, ptr e.p) := by
  simp only [rowsM, List.getElem?_map] at h
  obtain ⟨x, h1, h2⟩ := Option.map_eq_some_iff.1 h
  exact ⟨x, h1, h2.symm⟩
theorem rowsM_length (es : List Ent) : (rowsM es).length = es.length := by simp [rowsM]
theorem spot_ix {ix : List Idx} {l : List Int} : ∀ i, (spot (ixM ix) (keyB l) i).map (·.2) = (ix.find? fun x => x.col.l = l).map fun x => ptr x.p := by
  induction ix with
  | nil => intro i; rfl
  | cons x ix ih =>
    intro i
    rw [ixM, List.map_cons]
    unfold spot
    by_cases h : x.col.l = l
    · rw [if_pos (by rw [h])]
      simp [h]
    · rw [if_neg (fun h2 => h (keyB_inj h2).symm)]
      rw [List.find?_cons_of_neg (by simpa using h)]
      exact ih (i + 1)
theorem ixM_got (ix : List Idx) (l : List Int) : (got (ixM ix) (keyB l)).getD (.pointer none) = .pointer ((ix.find? fun x => x.col.l = l).map fun x => ⟨x.p, 0, none⟩) := by
  rw [got, spot_ix]
  cases ix.find? fun x => x.col.l = l <;> rfl
theorem ixM_snoc {ix : List Idx} {x : Idx} (h : ∀ y ∈ ix, y.col.l ≠ x.col.l) : ups (ixM ix) (keyB x.col.l) (ptr x.p) = ixM (ix ++ [x]) := by
  rw [ups_new]
  · simp [ixM]
  · intro q hq
    obtain ⟨y, hy, rfl⟩ := List.mem_map.1 hq
    exact fun hh => h y hy (keyB_inj hh)
/-- The entries that the range has come to. -/
structure Vis (es : List Ent) (col : Col) (vis : List Nat) (V : List Ent) (gs : List Grp) : Prop where
  nd : vis.Nodup
  at_ : vis.map (fun i => es[i]?) = V.map some
  keys : (gs.map (·.k)).Nodup
  ps : ∀ k, psOf gs k = (V.filter fun e => ixKey col e = k).map (·.p)
theorem Vis.start (es : List Ent) (col : Col) : Vis es col [] [] [] := ⟨by simp, by simp, by simp, fun k => rfl⟩
theorem Vis.step {es : List Ent} {col : Col} {vis : List Nat} {V : List Ent} {gs : List Grp} (h : Vis es col vis V gs) {i : Nat} {e : Ent} (hi : es[i]? = some e) (hv : i ∉ vis) (a : Option Addr) (c : Nat) : Vis es col (vis ++ [i]) (V ++ [e]) (gadd gs (ixKey col e) e.p a c) := by
  refine ⟨?_, by simp [h.at_, hi], gadd_nodup _ _ _ _ h.keys, fun k => ?_⟩
  · rw [List.nodup_append]
    exact ⟨h.nd, by simp, fun a ha b hb => by simp only [List.mem_singleton] at hb; subst hb; exact fun e => hv (e ▸ ha)⟩
  · rw [psOf_gadd, h.ps, List.filter_append, List.map_append]
    congr 1
    by_cases hk : ixKey col e = k
    · simp [hk]
    · simp [hk, Ne.symm hk]
theorem Vis.len {es : List Ent} {col : Col} {vis : List Nat} {V : List Ent} {gs : List Grp} (h : Vis es col vis V gs) (k : ByteArray) : (psOf gs k).length ≤ es.length := by
  have h1 : vis.length ≤ (List.range es.length).length := by
    refine List.Nodup.length_le_of_subset h.nd (fun i hi => ?_)
    rw [List.mem_range]
    have h2 : es[i]? ∈ V.map some := by rw [← h.at_]; exact List.mem_map.2 ⟨i, hi, rfl⟩
    obtain ⟨x, _, hx⟩ := List.mem_map.1 h2
    exact (List.getElem?_eq_some_iff.1 hx.symm).1
  have h2 : V.length = vis.length := by have := congrArg List.length h.at_; simpa using this.symm
  have h3 := List.length_filter_le (fun e => decide (ixKey col e = k)) V
  rw [h.ps, List.length_map]
  rw [List.length_range] at h1
  omega
theorem Vis.all {es : List Ent} {col : Col} {vis : List Nat} {V : List Ent} {gs : List Grp} (h : Vis es col vis V gs) (ha : ∀ i, i < es.length → i ∈ vis) : V.Perm es := by
  have h1 : vis.Perm (List.range es.length) := by
    rw [List.perm_ext_iff_of_nodup h.nd List.nodup_range]
    intro i
    rw [List.mem_range]
    refine ⟨fun hi => ?_, ha i⟩
    have h2 : es[i]? ∈ V.map some := by rw [← h.at_]; exact List.mem_map.2 ⟨i, hi, rfl⟩
    obtain ⟨x, _, hx⟩ := List.mem_map.1 h2
    exact (List.getElem?_eq_some_iff.1 hx.symm).1
  have h2 := h1.map fun i => es[i]?
  rw [h.at_] at h2
  have h3 : (List.range es.length).map (fun i => es[i]?) = es.map some := by
    apply List.ext_getElem?
    intro i
    by_cases hi : i < es.length
    · simp [hi]
    · rw [List.getElem?_eq_none (by simp; omega), List.getElem?_eq_none (by simp; omega)]
  rw [h3] at h2
  have h4 := h2.filterMap id
  simpa [List.filterMap_map] using h4
theorem Vis.ok {es : List Ent} {col : Col} {vis : List Nat} {V : List Ent} {gs : List Grp} (h : Vis es col vis V gs) (ha : ∀ i, i < es.length → i ∈ vis) (p mb : Nat) : IdxOK es ⟨p, mb, col, gs⟩ :=
  ⟨h.keys, fun k => by rw [show psOf gs k = _ from h.ps k]; exact ((h.all ha).filter _).map _⟩
def ixG (g : RelG) (x : Idx) : RelG := { g with ix := g.ix ++ [x] }
theorem ixG_ok {g : RelG} (ok : RelOK g) {x : Idx} (hc : x.col ∈ g.cols) (hx : IdxOK g.es x) (hn : ∀ y ∈ g.ix, y.col.l ≠ x.col.l) : RelOK (ixG g x) where
  wid := ok.wid
  i64 := ok.i64
  part := ok.part
  rows := ok.rows
  ptrs := ok.ptrs
  fs := ok.fs
  ns := ok.ns
  cols := ok.cols
  ixc y hy := by
    rcases List.mem_append.1 hy with h | h
    · exact ok.ixc y h
    · simp only [List.mem_singleton] at h; subst h; exact hc
  ixk := by
    show ((g.ix ++ [x]).map fun x => x.col.l).Nodup
    rw [List.map_append, List.nodup_append]
    refine ⟨ok.ixk, by simp, fun a ha b hb => ?_⟩
    obtain ⟨y, hy, rfl⟩ := List.mem_map.1 ha
    simp only [List.map_cons, List.map_nil, List.mem_singleton] at hb
    subst hb
    exact hn y hy
  ix y hy := by
    rcases List.mem_append.1 hy with h | h
    · exact ok.ix y h
    · simp only [List.mem_singleton] at h; subst h; exact hx
  coll := ok.coll
  wl := ok.wl
  rl := ok.rl
  el := ok.el
theorem ixG_le (g : RelG) (x : Idx) : RelLe g (ixG g x) := ⟨rfl, rfl, fun e he => ⟨e, he, rfl, rfl, rfl, rfl⟩, fun _ h => h⟩
theorem tail_new {X : List Hw.Item} {es : List Ent} {cols : List Col} {ix : List Idx} {x : Idx} : (X ++ tailA es cols (ix ++ [x])).Perm (idxA x ++ (X ++ tailA es cols ix)) := by
  have h := tail_idx es cols ix [] x
  rw [List.append_nil] at h
  exact (List.Perm.append_left X h.symm).trans app_swap
theorem perm_deep2 {X : List Hw.Item} {e1 e2 : List Ent} {e : Ent} {k1 k2 : List Col} {c : Col} {m1 m2 : List Idx} {x : Idx} :
    ((idxA x ++ (entA e ++ colA c)) ++ (X ++ tailA (e1 ++ e2) (k1 ++ k2) (m1 ++ m2))).Perm (X ++ tailA (e1 ++ e :: e2) (k1 ++ c :: k2) (m1 ++ x :: m2)) := by
  have h1 : (idxA x ++ (entA e ++ (colA c ++ tailA (e1 ++ e2) (k1 ++ k2) (m1 ++ m2)))).Perm (tailA (e1 ++ e :: e2) (k1 ++ c :: k2) (m1 ++ x :: m2)) := by
    refine List.Perm.trans ?_ (tail_idx _ _ m1 m2 x)
    refine List.Perm.append_left _ ?_
    refine List.Perm.trans (List.Perm.append_left _ ?_) (tail_ent e1 e2 e _ _)
    exact tail_col _ k1 k2 c _
  refine List.Perm.trans ?_ (List.Perm.append_left _ h1)
  have e2 : idxA x ++ (entA e ++ (colA c ++ tailA (e1 ++ e2) (k1 ++ k2) (m1 ++ m2))) = (idxA x ++ (entA e ++ colA c)) ++ tailA (e1 ++ e2) (k1 ++ k2) (m1 ++ m2) := by simp
  rw [e2]
  exact app_swap
theorem perm_deep3 {X : List Hw.Item} {es e1 e2 : List Ent} {e : Ent} {cols k1 k2 : List Col} {c : Col} {m1 m2 : List Idx} {x : Idx} (he : es = e1 ++ e :: e2) (hk : cols = k1 ++ c :: k2) :
    ((idxA x ++ (entA e ++ colA c)) ++ (X ++ tailA (e1 ++ e2) (k1 ++ k2) (m1 ++ m2))).Perm (X ++ tailA es cols (m1 ++ x :: m2)) := by
  subst he hk
  exact perm_deep2
theorem col_i64 {g : RelG} (ok : RelOK g) {c : Col} (h : c ∈ g.cols) : i64s c.l := fun n hn => by
  have h1 := ok.cols c h n hn
  have h2 := ok.wl
  constructor <;> omega
theorem col_len {g : RelG} (ok : RelOK g) {c : Col} (h : c ∈ g.cols) : c.l.length ≤ 1099511627776 := ok.coll c h

set_option maxRecDepth 10000 in
theorem index_calls (g : RelG) (ok : RelOK g) (col : Col) (hcol : col ∈ g.cols) (w : World) (hA : Holds (relA g) w) :
  Calls Tryz.prog 30 #[ptr g.r, .slice col.a col.l.length col.c] w fun e w' => ∃ g' x, e = .returned (ptr x.p) ∧ x ∈ g'.ix ∧ x.col.l = col.l ∧ RelOK g' ∧ RelLe g g' ∧ g'.es = g.es ∧ g'.cols = g.cols ∧ Turns (relA g) (relA g') w w' := by
  refine enterA hA (args := [ptr g.r, .slice col.a col.l.length col.c]) Tryz.func30 rfl Tryz.ntmps30 rfl rfl ?_
  refine WC.seq ?_
  refine WC.region ?_
  refine WL.val (OV.assign rfl) rfl ?_
  refine WL.nil ?_
  refine WX.next ?_
  refine WC.seq ?_
  refine WC.region ?_
  refine WL.val (OV.move rfl) rfl ?_
  refine WL.val (OV.nilCheck rfl) rfl ?_
  first
  | (refine WL.val (OV.fieldAddr0 (off := 13) rfl T.u66 rfl) rfl ?_)
  | (refine WL.val (OV.fieldAddr (off := 13) rfl T.u66 rfl) rfl ?_)
  refine WL.callT1 (ι := Unit) (vv := fun _ => .tuple #[]) (pp := fun _ => True) (jj := fun _ => hdA g.r ((hdC g.width g.mb (fslice g) (nslice g) (counts g.es) g.ib).set 13 (.int .i32 1))) (by kernel_rfl) rfl rfl (fun w' hw' hH => (lock_calls 66 g.r 13 (hdC g.width g.mb (fslice g) (nslice g) (counts g.es) g.ib) (hdC_mu (counts_length _)) w' hH).mono (fun e w' ⟨h1, h2⟩ => ⟨(), h1, trivial, h2⟩)) ?_
  rintro _ _
  refine WL.nil ?_
  refine WX.next ?_
  refine WC.seq ?_
  refine WC.region ?_
  refine WL.val (OV.move rfl) rfl ?_
  refine WL.val (OV.nilCheck rfl) rfl ?_
  first
  | (refine WL.val (OV.fieldAddr0 (off := 13) rfl T.u66 rfl) rfl ?_)
  | (refine WL.val (OV.fieldAddr (off := 13) rfl T.u66 rfl) rfl ?_)
  refine WL.defer rfl rfl ?_
  refine WL.nil ?_
  refine WX.next ?_
  refine WC.seq ?_
  refine WC.region ?_
  refine WL.val (OV.move rfl) rfl ?_
  refine WL.call0 (by kernel_rfl) rfl rfl (fun w' hw => key_calls col.l col.a col.l.length col.c (col_i64 ok hcol) (col_len ok hcol) w' (RI.of_row hw (.tail _ (.tail _ (.tail _ (.tail _ (.tail _ (mem_col hcol)))))))) ?_
  refine WL.val (OV.assign rfl) rfl ?_
  refine WL.nil ?_
  refine WX.next ?_
  refine WC.seq ?_
  refine WC.region ?_
  refine WL.val (OV.move rfl) rfl ?_
  refine WL.val (OV.nilCheck rfl) rfl ?_
  first
  | (refine WL.val (OV.fieldAddr0 (off := 12) rfl T.u66 rfl) rfl ?_)
  | (refine WL.val (OV.fieldAddr (off := 12) rfl T.u66 rfl) rfl ?_)
  refine WL.val (OV.load1 (v := .map (some g.ib)) rfl T.u55 rfl (fun _ hw => cell_own hw (.head _) (by rw [List.getElem?_toArray, List.getElem?_set_ne (by decide)]; exact hdC_ix (counts_length _)))) rfl ?_
  refine WL.val (OV.move rfl) rfl ?_
  refine WL.val ((OV.lookup (KeyLaw.str T.u9) T.u55 (by kernel_rfl) rfl rfl (fun _ hw => own_map (.tail _ (.tail _ (.head _))) _ hw)).cast (ixM_got g.ix col.l)) rfl ?_
  refine WL.val (OV.assign rfl) rfl ?_
  refine WL.nil ?_
  refine WX.next ?_
  refine WC.seq ?_
  refine WC.seq ?_
  refine WC.region ?_
  refine WL.val (OV.move rfl) rfl ?_
  refine WL.val (OV.eqlPN T.u75 rfl rfl) rfl ?_
  refine WL.nil ?_
  refine WX.next ?_
  refine WC.cond rfl (fun c25 => ?_) (fun c25 => ?_)
  · try simp only [decide_eq_true_eq, decide_eq_false_iff_not, Bool.not_eq_true', Bool.not_eq_false'] at c25
    refine WC.seq ?_
    refine WC.region ?_
    refine WL.val (OV.move rfl) rfl ?_
    refine WL.makeMap (Value.string) rfl ?_
    intro m27
    refine WL.val (OV.buildStruct (xs := [(0, .tmp 26), (1, .tmp 27)]) (pl := [(0, 1), (1, 1)]) (cs := [.slice col.a col.l.length col.c, .map (some m27)]) T.u74 T.zr74 (by kernel_rfl) rfl (fill_cons (us := [_]) rfl rfl (by first | decide | simp) (fill_cons (us := [_]) rfl rfl (by first | decide | simp) rfl))) rfl ?_
    refine WL.box rfl rfl rfl ?_
    intro b29
    refine WL.val (OV.assign rfl) rfl ?_
    refine WL.nil ?_
    refine WX.next ?_
    refine WC.seq ?_
    refine WC.seq ?_
    refine WC.region ?_
    refine WL.val (OV.move rfl) rfl ?_
    refine WL.val (OV.nilCheck rfl) rfl ?_
    first
    | (refine WL.val (OV.fieldAddr0 (off := 1) rfl T.u66 rfl) rfl ?_)
    | (refine WL.val (OV.fieldAddr (off := 1) rfl T.u66 rfl) rfl ?_)
    refine WL.val (OV.load1 (v := .map (some g.mb)) rfl T.u54 rfl (fun _ hw => cell_own hw (.tail _ (.tail _ (.head _))) rfl)) rfl ?_
    refine WL.range T.u54 rfl (fun _ hw => own_map (kv := rowsM g.es) (.tail _ (.tail _ (.tail _ (.head _)))) _ hw) rfl ?_
    intro it34
    refine WL.nil ?_
    refine WX.next ?_
    refine WC.block ?_
    refine WC.loop3 (fun (gs : List Grp) (vis : List Nat) (V : List Ent) => [(0, ptr g.r), (5, .string (keyB col.l)), (6, ptr b29), (34, .pointer (some ⟨it34, 0, none⟩))])
        (fun gs vis V w' => Vis g.es col vis V gs ∧ Sat w (DD (relA g)) (fun b => b < w.heap.size ∧ ¬ DD (relA g) b) w ([own it34 (iterK g.mb (rowsM g.es).length vis), hdA g.r ((hdC g.width g.mb (fslice g) (nslice g) (counts g.es) g.ib).set 13 (.int .i32 1)), own g.mb (mapK Value.string (rowsM g.es)), own g.ib (mapK Value.string (ixM g.ix)), psA g.fa g.fc g.fs, psA g.na g.nc g.ns] ++ tailA g.es g.cols (g.ix ++ [(Idx.mk b29 m27 col gs)])) w')
        (fun _ vis _ => unseen (rowsM g.es).length vis) [] [] [] ⟨rfl, rfl, rfl, rfl, trivial⟩ (fun w' hw => ⟨Vis.start _ _, ?_⟩) ?_
    · exact hw.perm (List.Perm.cons _ (tail_new (X := [_, _, _, _, _]) (x := Idx.mk b29 m27 col [])))
    intro gs vis V
    refine WC.pure (fun hvis => ?_)
    refine WC.seq ?_
    refine WC.region ?_
    refine WL.next (enc := Value.string) (kv := rowsM g.es) rfl rfl (fun _ hw => own_map (.tail _ (.tail _ (.head _))) _ hw) ?_ ?_
    · intro hall
      refine WL.val (OV.extract rfl rfl) rfl ?_
      refine WL.nil ?_
      refine WX.next ?_
      refine WC.seq ?_
      refine WC.condF rfl ?_
      refine WC.exit ?_
      refine WX.then_exit ?_
      refine WX.then_exit ?_
      refine WX.block_hit ?_
      refine WX.next ?_
      refine WC.region ?_
      refine WL.val (OV.move rfl) rfl ?_
      refine WL.val (OV.nilCheck rfl) rfl ?_
      first
      | (refine WL.val (OV.fieldAddr0 (off := 12) rfl T.u66 rfl) rfl ?_)
      | (refine WL.val (OV.fieldAddr (off := 12) rfl T.u66 rfl) rfl ?_)
      refine WL.val (OV.load1 (v := .map (some g.ib)) rfl T.u55 rfl (fun _ hw => cell_own hw (.tail _ (.head _)) (by rw [List.getElem?_toArray, List.getElem?_set_ne (by decide)]; exact hdC_ix (counts_length _)))) rfl ?_
      refine WL.val (OV.move rfl) rfl ?_
      refine WL.val (OV.move rfl) rfl ?_
      have hnew : ∀ y ∈ g.ix, y.col.l ≠ col.l := by
        intro y hy hh
        have : (g.ix.find? fun x => x.col.l = col.l) = none := by simpa using c25
        rw [List.find?_eq_none] at this
        exact this y hy (by simpa using hh)
      refine WL.focus perm3 (WL.mapUpdate (enc := Value.string) (kv := ixM g.ix) (a := keyB col.l) (v := ptr b29) (KeyLaw.str T.u9) T.u55 rfl rfl rfl ?_)
      rw [ixM_snoc (x := (Idx.mk b29 m27 col gs)) hnew]
      refine WL.nil ?_
      refine WX.next ?_
      refine WC.seq ?_
      refine WC.region ?_
      refine WL.val (OV.move rfl) rfl ?_
      refine WL.val (OV.assign rfl) rfl ?_
      refine WL.nil ?_
      refine WX.next ?_
      refine WC.ret ?_
      rw [rowsM_length] at hall
      refine WX.leave rfl (WR.focus perm2 (WR.fn1 (by kernel_rfl) (fun w' hw hH => unlock_calls 66 g.r 13 ((hdC g.width g.mb (fslice g) (nslice g) (counts g.es) g.ib).set 13 (.int .i32 1)) (set_get (hdC_mu (counts_length _))) w' hH) ?_))
      rw [List.set_set, set_same (hdC_mu (counts_length _))]
      refine WR.ret1 rfl rfl (fun w' hw => ⟨ixG g (Idx.mk b29 m27 col gs), (Idx.mk b29 m27 col gs), rfl, List.mem_append_right _ (.head _), rfl, ixG_ok ok hcol (hvis.ok hall _ _) hnew, ixG_le _ _, rfl, rfl, ?_⟩)
      exact ((hw.perm ((List.Perm.cons _ (List.Perm.cons _ (List.Perm.swap _ _ _))).trans perm2)).drop (i := own it34 (iterK g.mb (rowsM g.es).length vis))).turned
    · intro i q hi2 hv
      obtain ⟨e, hie, rfl⟩ := rowsM_get hi2
      have he := List.mem_of_getElem? hie
      obtain ⟨e1, e2, he12⟩ := split_mem he
      obtain ⟨k1, k2, hk12⟩ := split_mem hcol
      have hwe := ok.wid e he
      have hel : e.row.length ≤ 1099511627776 := ok.rl e he
      have hcw : ∀ k ∈ col.l, 0 ≤ k ∧ k < (e.row.length : Int) := fun k hkk => by have := ok.cols _ hcol k hkk; omega
      refine WL.val (OV.extract rfl rfl) rfl ?_
      refine WL.nil ?_
      refine WX.next ?_
      refine WC.seq ?_
      refine WC.condT rfl ?_
      refine WC.skip ?_
      refine WX.next ?_
      refine WC.block ?_
      refine WC.seq ?_
      refine WC.region ?_
      refine WL.val (OV.entry (enc := Value.string) (kv := rowsM g.es) (i := i) rfl (fun _ hw => hw.it _ (.head _)) (fun _ hw => own_map (.tail _ (.tail _ (.head _))) _ hw) hi2) rfl ?_
      refine WL.val (OV.extract rfl rfl) rfl ?_
      refine WL.val (OV.assign rfl) rfl ?_
      refine WL.nil ?_
      refine WX.next ?_
      refine WC.region ?_
      refine WL.val (OV.move rfl) rfl ?_
      refine WL.val (OV.move rfl) rfl ?_
      refine WL.focus (ow' := (idxA (Idx.mk b29 m27 col gs) ++ (entA e ++ colA col)) ++ ([own it34 (iterK g.mb (rowsM g.es).length (vis ++ [i])), hdA g.r ((hdC g.width g.mb (fslice g) (nslice g) (counts g.es) g.ib).set 13 (.int .i32 1)), own g.mb (mapK Value.string (rowsM g.es)), own g.ib (mapK Value.string (ixM g.ix)), psA g.fa g.fc g.fs, psA g.na g.nc g.ns] ++ tailA (e1 ++ e2) (k1 ++ k2) (g.ix ++ []))) (perm_deep3 he12 hk12) (WL.callTA (ι := Option Addr × Nat) (vv := fun _ => .tuple #[]) (pp := fun _ => True) (idxA (Idx.mk b29 m27 col gs) ++ (entA e ++ colA col)) (AA := fun q => idxA (Idx.mk b29 m27 col (gadd gs (ixKey col e) e.p q.1 q.2)) ++ (entA e ++ colA col)) rfl (by kernel_rfl) rfl rfl (fun w'' hw'' hH => (idxAdd_calls (Idx.mk b29 m27 col gs) e hcw (ok.i64 e he) hel (col_len ok hcol) (Nat.le_trans (hvis.len _) ok.el) w'' hH).mono (fun en w3 ⟨q1, a', c', q2⟩ => ⟨(a', c'), q1, trivial, q2⟩)) ?_)
      rintro ⟨a41, c41⟩ _
      refine WL.nil ?_
      refine WX.block_normal ?_
      exact WX.round3 (gadd gs (ixKey col e) e.p a41 c41) (vis ++ [i]) (V ++ [e]) ⟨rfl, rfl, rfl, rfl, trivial⟩ (fun w' hw => ⟨hvis.step hie hv a41 c41, hw.perm (perm_deep3 he12 hk12).symm⟩) (unseen_lt (List.getElem?_eq_some_iff.1 hi2).1 hv)
  · try simp only [decide_eq_true_eq, decide_eq_false_iff_not, Bool.not_eq_true', Bool.not_eq_false'] at c25
    refine WC.skip ?_
    refine WX.next ?_
    refine WC.seq ?_
    refine WC.region ?_
    refine WL.val (OV.move rfl) rfl ?_
    refine WL.val (OV.assign rfl) rfl ?_
    refine WL.nil ?_
    refine WX.next ?_
    refine WC.ret ?_
    obtain ⟨x, hf⟩ : ∃ x, (g.ix.find? fun x => x.col.l = col.l) = some x := by
      cases h : g.ix.find? fun x => x.col.l = col.l with
      | none => rw [h] at c25; simp at c25
      | some e => exact ⟨e, rfl⟩
    have hxm := List.mem_of_find?_eq_some hf
    have hxl : x.col.l = col.l := by simpa using List.find?_some hf
    simp only [hf, Option.map_some]
    refine WX.leave rfl (WR.fn1 (by kernel_rfl) (fun w' hw hH => unlock_calls 66 g.r 13 ((hdC g.width g.mb (fslice g) (nslice g) (counts g.es) g.ib).set 13 (.int .i32 1)) (set_get (hdC_mu (counts_length _))) w' hH) ?_)
    rw [List.set_set, set_same (hdC_mu (counts_length _))]
    exact WR.ret1 rfl rfl (fun w' hw => ⟨g, x, rfl, hxm, hxl, ok, RelLe.refl g, rfl, rfl, hw.turned⟩)

end Go.Proofs.YtijplknkpkmblaaGreatDoor
