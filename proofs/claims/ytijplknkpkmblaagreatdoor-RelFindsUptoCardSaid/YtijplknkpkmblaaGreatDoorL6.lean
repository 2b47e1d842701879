/- Contracts of functions of the program: what each returns and leaves in memory. Printed by gen.py and walk.py. -/
import Derived.Test.YtijplknkpkmblaaGreatDoorL5
namespace Go.Proofs.YtijplknkpkmblaaGreatDoor
open Go Go.Hw
set_option linter.unusedSimpArgs false
set_option linter.unusedVariables false
/-! ### The rows that are found, in rising order -/
instance (row : List Int) (p : Int × Int) : Decidable (good row p) := by unfold good; infer_instance
instance (row cols key : List Int) : Decidable (fitsL row cols key) := by unfold fitsL; infer_instance
def sortR (l : List (List Int)) : List (List Int) := l.mergeSort fun a b => !decide (cmpL b a < 0)
def selR (L : List (List Int × Nat)) (parts : Int) (cols key : List Int) : List (List Int) := sortR ((L.filter fun p => inP parts p.2 && decide (fitsL p.1 cols key)).map (·.1))
theorem cmp_swo : Go.Sort.SWO (Go.Proofs.ltOf cmpL) := cmpL_swo id
theorem sortR_sorted (l : List (List Int)) : (sortR l).Pairwise fun a b => ¬ cmpL b a < 0 := by
  have h := List.pairwise_mergeSort (le := fun a b => !decide (cmpL b a < 0)) (fun a b c h1 h2 => by
    simp only [Bool.not_eq_true', decide_eq_false_iff_not] at *
    have := cmp_swo.ntrans c b a (by simpa [Go.Proofs.ltOf] using h2) (by simpa [Go.Proofs.ltOf] using h1)
    simpa [Go.Proofs.ltOf] using this) (fun a b => by
    simp only [Bool.or_eq_true, Bool.not_eq_true', decide_eq_false_iff_not]
    by_cases h : cmpL b a < 0
    · right
      intro h2
      have := cmpL_trans h h2
      rw [cmpL_self] at this
      omega
    · exact .inl h) l
  refine h.imp ?_
  intro a b hab
  simpa using hab
theorem sortR_eq {ys rows : List (List Int)} (hp : ys.Perm rows) (hs : ys.Pairwise fun a b => ¬ cmpL b a < 0) : ys = sortR rows := by
  refine List.Perm.eq_of_pairwise (le := fun a b => ¬ cmpL b a < 0) (fun a b _ _ h1 h2 => ?_) hs (sortR_sorted rows) (hp.trans (List.mergeSort_perm _ _).symm)
  rcases cmpL_lt_or a b with h | h | h
  · exact absurd h h2
  · exact h
  · exact absurd h h1
theorem sortR_perm (l : List (List Int)) : (sortR l).Perm l := List.mergeSort_perm _ _
theorem perm_lift {α β : Type} (f : α → β) {ps qs : List β} (h : ps.Perm qs) : ∀ l : List α, l.map f = qs → ∃ l' : List α, l'.Perm l ∧ l'.map f = ps := by
  induction h with
  | nil =>
    intro l hl
    exact ⟨[], by rw [List.map_eq_nil_iff.1 hl], rfl⟩
  | cons a h ih =>
    intro l hl
    obtain ⟨x, l2, rfl, rfl, h2⟩ := List.map_eq_cons_iff.1 hl
    obtain ⟨l', h3, h4⟩ := ih l2 h2
    exact ⟨x :: l', h3.cons x, by rw [List.map_cons, h4]⟩
  | swap a b l0 =>
    intro l hl
    obtain ⟨x, l2, rfl, rfl, h2⟩ := List.map_eq_cons_iff.1 hl
    obtain ⟨y, l3, rfl, rfl, rfl⟩ := List.map_eq_cons_iff.1 h2
    exact ⟨y :: x :: l3, List.Perm.swap _ _ _, rfl⟩
  | trans h1 h2 ih1 ih2 =>
    intro l hl
    obtain ⟨l2, h3, h4⟩ := ih2 l hl
    obtain ⟨l3, h5, h6⟩ := ih1 l2 h4
    exact ⟨l3, h5.trans h3, h6⟩
theorem grp_mem (gs : List Grp) (k : ByteArray) : ∃ a0 c0, (got (grpM gs) k).getD (.slice none 0 0) = .slice a0 (psOf gs k).length c0 ∧ (0 < (psOf gs k).length → row 78 1 a0 (psOf gs k).length c0 (ptrs (psOf gs k)) ∈ gs.flatMap grpA) := by
  obtain ⟨a0, c0, L, h1, h2, _⟩ := grp_focus gs k
  refine ⟨a0, c0, h1, fun hp => ?_⟩
  rcases h2 with h2 | ⟨_, _, h3, _⟩
  · exact h2.mem_iff.2 (.head _)
  · rw [h3] at hp
    simp at hp
def encE (e : Ent) : Value := .slice e.a e.row.length e.c
def fnd (parts : Int) (ES : List Ent) (i : Nat) : List Ent := (ES.take i).filter fun e => inP parts e.part
def encs (l : List Ent) : List Value := l.map encE
theorem fnd_succ {parts : Int} {ES : List Ent} {i : Nat} {e : Ent} (h : ES[i]? = some e) : fnd parts ES (i + 1) = fnd parts ES i ++ if inP parts e.part then [e] else [] := by
  have e1 : ES.take (i + 1) = ES.take i ++ [e] := by rw [List.take_add_one, h]; rfl
  rw [fnd, e1, List.filter_append, fnd]
  congr 1
  by_cases hp : inP parts e.part <;> simp [hp]
theorem fnd_le (parts : Int) (ES : List Ent) (i : Nat) : (fnd parts ES i).length ≤ ES.length := Nat.le_trans (List.length_filter_le _ _) (by rw [List.length_take]; omega)
theorem encs_one (l : List Ent) : ∀ u ∈ encs l, u.oneCell' = true := by
  intro u hu
  simp only [encs, List.mem_map] at hu
  obtain ⟨c, _, rfl⟩ := hu
  rfl
theorem T.apR : appB Tryz.prog 48 32 1 24 = true := by kernel_rfl
/-- What stands in the sorted list. -/
theorem sel_eq {g : RelG} (ok : RelOK g) {x : Idx} {parts : Int} {cols key ks : List Int} {b : Bool} (hq : QR g.width cols key x.col.l ks b) (hb : b = true) {ES : List Ent} (hES : ES.Perm (g.es.filter fun e => ixKey x.col e = keyB ks)) {rows : List (List Int)} (hp : rows.Perm ((fnd parts ES ES.length).map (·.row))) (hs : rows.Pairwise fun a b => ¬ cmpL b a < 0) : rows = selR (rp g) parts cols key := by
  refine sortR_eq (hp.trans ?_) hs
  rw [fnd, List.take_length]
  refine (((hES.filter _)).map _).trans ?_
  rw [List.filter_filter, rp, List.filter_map, List.map_map]
  refine List.Perm.of_eq ?_
  refine congrArg (List.map _) (List.filter_congr ?_)
  intro e he
  simp only [Function.comp_apply]
  congr 1
  refine decide_eq_decide.2 ?_
  have h1 := hq.yes hb e.row (ok.wid e he)
  rw [← h1]
  exact ⟨fun h => keyB_inj h, fun h => congrArg keyB h⟩
theorem sel_none {g : RelG} (ok : RelOK g) {parts : Int} {cols key ls ks : List Int} {b : Bool} (hq : QR g.width cols key ls ks b) (hb : b = false) : selR (rp g) parts cols key = [] := by
  have h1 : ((rp g).filter fun p => inP parts p.2 && decide (fitsL p.1 cols key)) = [] := by
    rw [List.filter_eq_nil_iff]
    intro p hp
    obtain ⟨e, he, rfl⟩ := List.mem_map.1 hp
    have := hq.no hb e.row (ok.wid e he)
    simp [this]
  rw [selR, h1, sortR]
  simp
abbrev EIr (a : List Int) (d : Option Addr × Nat) : List Hw.Item := [row 3 1 d.1 a.length d.2 (ints a)]
abbrev argr (a : List Int) (d : Option Addr × Nat) : Value := .slice d.1 a.length d.2

set_option maxRecDepth 10000 in
theorem find1_calls (F : FB) (g0 : RelG) (ok : RelOK g0) (cols key : List Int) (hq : QR g0.width cols key F.ls F.ks F.b) (hr : F.r = g0.r) (hcol : F.col ∈ g0.cols)
    {β : Type} (CC : β → List Hw.Item) (J Jx : Nat → RelG → β → Prop) (y0 : β) (l : Nat) (w1 : World) (hA : Holds ((relA g0 ++ boxA F) ++ CC y0) w1)
    (h0 : ∀ g1, RelOK g1 ∧ RelLe g0 g1 ∧ g1.es = g0.es → J 0 g1 y0) (hm : ∀ k g1 y, J k g1 y → RelLe g0 g1)
    (hy : ∀ k g1 y d W a, (selR (rp g0) F.parts cols key)[k]? = some a → J k g1 y → Turns ((relA g0 ++ boxA F) ++ CC y0) (EIr a d ++ ((relA g1 ++ boxA F) ++ CC y)) w1 W →
      Hw.Yields Tryz.prog l [argr a d] W fun b W' => ∃ g2 y2, (b = true → J (k + 1) g2 y2) ∧ (b = false → Jx (k + 1) g2 y2) ∧ Turns (EIr a d ++ ((relA g1 ++ boxA F) ++ CC y)) ((relA g2 ++ boxA F) ++ CC y2) W W') :
  Calls Tryz.prog 29 #[.func (.yield l) #[] #[], ptr F.bO, ptr F.bR, ptr F.bL, ptr F.bK, ptr F.bP] w1 fun en w' => en = .returned (.tuple #[]) ∧ ∃ g2 y2 k, ((k = (selR (rp g0) F.parts cols key).length ∧ J k g2 y2) ∨ (0 < k ∧ k ≤ (selR (rp g0) F.parts cols key).length ∧ Jx k g2 y2)) ∧ Turns ((relA g0 ++ boxA F) ++ CC y0) ((relA g2 ++ boxA F) ++ CC y2) w1 w' := by
  refine enterA hA (args := [.func (.yield l) #[] #[], ptr F.bO, ptr F.bR, ptr F.bL, ptr F.bK, ptr F.bP]) Tryz.func29 rfl Tryz.ntmps29 rfl rfl ?_
  refine WC.seq ?_
  refine WC.seq ?_
  refine WC.weak (S' := Sat w1 (DD ((relA g0 ++ boxA F) ++ CC y0)) (fun b => b < w1.heap.size ∧ ¬ DD ((relA g0 ++ boxA F) ++ CC y0) b) w1 ((relA g0 ++ (boxA F ++ CC y0)))) (fun w' hw => hw.perm (List.Perm.of_eq (List.append_assoc _ _ _).symm)) ?_
  refine WC.region ?_
  refine WL.val (OV.load1 (v := .bool F.b) rfl T.u4 rfl (fun _ hw => cell_own hw (List.mem_append_right _ (List.mem_append_left _ (.head _))) rfl)) rfl ?_
  refine WL.val (OV.not rfl) rfl ?_
  refine WL.nil ?_
  refine WX.next ?_
  refine WC.cond rfl (fun c13 => ?_) (fun c13 => ?_)
  · try simp only [decide_eq_true_eq, decide_eq_false_iff_not, Bool.not_eq_true', Bool.not_eq_false'] at c13
    refine WC.ret ?_
    refine WX.then_ret ?_
    exact WX.ret0 rfl rfl (fun w' hw => ⟨rfl, g0, y0, 0, .inl ⟨by rw [sel_none ok hq c13]; rfl, h0 g0 ⟨ok, RelLe.refl g0, rfl⟩⟩, by simpa only [List.append_assoc] using hw.turned⟩)
  · try simp only [decide_eq_true_eq, decide_eq_false_iff_not, Bool.not_eq_true', Bool.not_eq_false'] at c13
    refine WC.skip ?_
    refine WX.next ?_
    refine WC.seq ?_
    refine WC.region ?_
    refine WL.val (OV.assign rfl) rfl ?_
    refine WL.nil ?_
    refine WX.next ?_
    refine WC.seq ?_
    refine WC.seq ?_
    have hFl : F.ls.length ≤ 1099511627776 := col_len ok hcol
    have hkl := hq.len
    refine WC.drawn (fun w' => w'.heap[F.bR]? = some (.cells [ptr F.r].toArray 25 (0, 0)) ∧ w'.heap[F.bL]? = some (.cells [.slice F.la F.ls.length F.lc].toArray 32 (0, 0)) ∧ w'.heap[F.bK]? = some (.cells [.slice F.ka F.ks.length F.kc].toArray 32 (0, 0))) [] (by kernel_rfl) (by kernel_rfl) (m := 11) rfl ?_
    refine WH.take 0 rfl (by kernel_rfl) (by kernel_rfl) (by kernel_rfl) (by kernel_rfl) (fun _ hw => ⟨hw.it _ (List.mem_append_right _ (List.mem_append_left _ (.tail _ (.head _)))), hw.it _ (List.mem_append_right _ (List.mem_append_left _ (.tail _ (.tail _ (.head _))))), hw.it _ (List.mem_append_right _ (List.mem_append_left _ (.tail _ (.tail _ (.tail _ (.head _))))))⟩) ((OV.load1 (v := ptr F.r) rfl T.u25 rfl (fun _ hw => (cell_at hw.1 (o := 0) rfl).1)).cast (congrArg ptr hr)) rfl (listed' := [true, false, false, false, false, false, false, false, false, false, false]) rfl ?_
    refine WH.take 1 rfl (by kernel_rfl) (by kernel_rfl) (by kernel_rfl) (by kernel_rfl) (fun _ hw => ⟨hw.it _ (List.mem_append_right _ (List.mem_append_left _ (.tail _ (.head _)))), hw.it _ (List.mem_append_right _ (List.mem_append_left _ (.tail _ (.tail _ (.head _))))), hw.it _ (List.mem_append_right _ (List.mem_append_left _ (.tail _ (.tail _ (.tail _ (.head _))))))⟩) (OV.load1 (v := .slice F.la F.ls.length F.lc) rfl T.u32 rfl (fun _ hw => (cell_at hw.2.1 (o := 0) rfl).1)) rfl (listed' := [true, true, false, false, false, false, false, false, false, false, false]) rfl ?_
    refine WH.take 6 rfl (by kernel_rfl) (by kernel_rfl) (by kernel_rfl) (by kernel_rfl) (fun _ hw => ⟨hw.it _ (List.mem_append_right _ (List.mem_append_left _ (.tail _ (.head _)))), hw.it _ (List.mem_append_right _ (List.mem_append_left _ (.tail _ (.tail _ (.head _))))), hw.it _ (List.mem_append_right _ (List.mem_append_left _ (.tail _ (.tail _ (.tail _ (.head _))))))⟩) (OV.load1 (v := .slice F.ka F.ks.length F.kc) rfl T.u32 rfl (fun _ hw => (cell_at hw.2.2 (o := 0) rfl).1)) rfl (listed' := [true, true, false, false, false, false, true, false, false, false, false]) rfl ?_
    refine WH.free 10 rfl (by kernel_rfl) (by kernel_rfl) (by kernel_rfl) rfl (fun _ => (fun _ hw => ⟨hw.it _ (List.mem_append_right _ (List.mem_append_left _ (.tail _ (.head _)))), hw.it _ (List.mem_append_right _ (List.mem_append_left _ (.tail _ (.tail _ (.head _))))), hw.it _ (List.mem_append_right _ (List.mem_append_left _ (.tail _ (.tail _ (.tail _ (.head _))))))⟩)) (OV.move rfl) rfl (listed' := [true, true, false, false, false, false, true, false, false, false, true]) rfl ?_
    refine WH.only 2 rfl (by kernel_rfl) (listed' := [true, true, true, false, false, false, true, false, false, false, true]) rfl (fl' := false) rfl ?_
    refine WL.callTA (ι := RelG × Idx) (vv := fun q => ptr q.2.p) (pp := fun q => q.2 ∈ q.1.ix ∧ q.2.col.l = F.ls ∧ RelOK q.1 ∧ RelLe g0 q.1 ∧ q.1.es = g0.es ∧ q.1.cols = g0.cols) (relA g0) (AA := fun q => relA q.1) rfl (by kernel_rfl) rfl rfl (fun w' hw' hH => (index_calls g0 ok F.col hcol w' hH).mono (fun en w'' ⟨g', x, h1, h2, h3, h4, h5, h6, h7, h8⟩ => ⟨(g', x), h1, ⟨h2, h3, h4, h5, h6, h7⟩, h8⟩)) ?_
    rintro ⟨g1, x⟩ hpp
    obtain ⟨hx, hxl, ok1, le1, hes, hcs⟩ : x ∈ g1.ix ∧ x.col.l = F.ls ∧ RelOK g1 ∧ RelLe g0 g1 ∧ g1.es = g0.es ∧ g1.cols = g0.cols := hpp
    refine WL.nil ?_
    refine WX.contD (by kernel_rfl) (fun _ => (fun _ hw => ⟨hw.it _ (List.mem_append_right _ (List.mem_append_left _ (.tail _ (.head _)))), hw.it _ (List.mem_append_right _ (List.mem_append_left _ (.tail _ (.tail _ (.head _))))), hw.it _ (List.mem_append_right _ (List.mem_append_left _ (.tail _ (.tail _ (.tail _ (.head _))))))⟩)) ?_
    refine WH.more (C' := fun w' => (w'.heap[F.bR]? = some (.cells [ptr F.r].toArray 25 (0, 0)) ∧ w'.heap[F.bL]? = some (.cells [.slice F.la F.ls.length F.lc].toArray 32 (0, 0)) ∧ w'.heap[F.bK]? = some (.cells [.slice F.ka F.ks.length F.kc].toArray 32 (0, 0))) ∧ (w'.heap[x.p]? = some (.cells (idxC x).toArray 74 (0, 0)) ∧ w'.heap[x.mb]? = some (mapK Value.string (grpM x.gs)))) (fun _ h => h.1) ?_
    refine WH.free 3 rfl (by kernel_rfl) (by kernel_rfl) (by kernel_rfl) rfl (fun _ => (fun _ hw => ⟨⟨hw.it _ (List.mem_append_right _ (List.mem_append_left _ (.tail _ (.head _)))), hw.it _ (List.mem_append_right _ (List.mem_append_left _ (.tail _ (.tail _ (.head _))))), hw.it _ (List.mem_append_right _ (List.mem_append_left _ (.tail _ (.tail _ (.tail _ (.head _))))))⟩, ⟨hw.it _ (List.mem_append_left _ (.tail _ (.tail _ (.tail _ (.tail _ (.tail _ (mem_idx hx (.head _)))))))), hw.it _ (List.mem_append_left _ (.tail _ (.tail _ (.tail _ (.tail _ (.tail _ (mem_idx hx (.tail _ (.head _)))))))))⟩⟩)) (OV.nilCheck rfl) rfl (listed' := [true, true, true, true, false, false, true, false, false, false, true]) rfl ?_
    first
    | (refine WH.free 4 rfl (by kernel_rfl) (by kernel_rfl) (by kernel_rfl) rfl (fun _ => (fun _ hw => ⟨⟨hw.it _ (List.mem_append_right _ (List.mem_append_left _ (.tail _ (.head _)))), hw.it _ (List.mem_append_right _ (List.mem_append_left _ (.tail _ (.tail _ (.head _))))), hw.it _ (List.mem_append_right _ (List.mem_append_left _ (.tail _ (.tail _ (.tail _ (.head _))))))⟩, ⟨hw.it _ (List.mem_append_left _ (.tail _ (.tail _ (.tail _ (.tail _ (.tail _ (mem_idx hx (.head _)))))))), hw.it _ (List.mem_append_left _ (.tail _ (.tail _ (.tail _ (.tail _ (.tail _ (mem_idx hx (.tail _ (.head _)))))))))⟩⟩)) (OV.fieldAddr0 (off := 1) rfl T.u74 rfl) rfl (listed' := [true, true, true, true, true, false, true, false, false, false, true]) rfl ?_)
    | (refine WH.free 4 rfl (by kernel_rfl) (by kernel_rfl) (by kernel_rfl) rfl (fun _ => (fun _ hw => ⟨⟨hw.it _ (List.mem_append_right _ (List.mem_append_left _ (.tail _ (.head _)))), hw.it _ (List.mem_append_right _ (List.mem_append_left _ (.tail _ (.tail _ (.head _))))), hw.it _ (List.mem_append_right _ (List.mem_append_left _ (.tail _ (.tail _ (.tail _ (.head _))))))⟩, ⟨hw.it _ (List.mem_append_left _ (.tail _ (.tail _ (.tail _ (.tail _ (.tail _ (mem_idx hx (.head _)))))))), hw.it _ (List.mem_append_left _ (.tail _ (.tail _ (.tail _ (.tail _ (.tail _ (mem_idx hx (.tail _ (.head _)))))))))⟩⟩)) (OV.fieldAddr (off := 1) rfl T.u74 rfl) rfl (listed' := [true, true, true, true, true, false, true, false, false, false, true]) rfl ?_)
    refine WH.take 5 rfl (by kernel_rfl) (by kernel_rfl) (by kernel_rfl) (by kernel_rfl) (fun _ hw => ⟨⟨hw.it _ (List.mem_append_right _ (List.mem_append_left _ (.tail _ (.head _)))), hw.it _ (List.mem_append_right _ (List.mem_append_left _ (.tail _ (.tail _ (.head _))))), hw.it _ (List.mem_append_right _ (List.mem_append_left _ (.tail _ (.tail _ (.tail _ (.head _))))))⟩, ⟨hw.it _ (List.mem_append_left _ (.tail _ (.tail _ (.tail _ (.tail _ (.tail _ (mem_idx hx (.head _)))))))), hw.it _ (List.mem_append_left _ (.tail _ (.tail _ (.tail _ (.tail _ (.tail _ (mem_idx hx (.tail _ (.head _)))))))))⟩⟩) (OV.load1 (v := .map (some x.mb)) rfl T.u72 rfl (fun _ hw => (cell_at hw.2.1 (o := 1) rfl).1)) rfl (listed' := [true, true, true, true, true, true, true, false, false, false, true]) rfl ?_
    refine WH.only 7 rfl (by kernel_rfl) (listed' := [true, true, true, true, true, true, true, true, false, false, true]) rfl (fl' := false) rfl ?_
    refine WL.call0 (by kernel_rfl) rfl rfl (fun w' hw => keyOf_calls F.ks F.ka F.ks.length F.kc hq.i64.2 (by omega) w' (RI.of_row hw (List.mem_append_right _ (List.mem_append_left _ (.tail _ (.tail _ (.tail _ (.tail _ (.tail _ (.head _)))))))))) ?_
    refine WL.nil ?_
    refine WX.contD (by kernel_rfl) (fun _ => (fun _ hw => ⟨⟨hw.it _ (List.mem_append_right _ (List.mem_append_left _ (.tail _ (.head _)))), hw.it _ (List.mem_append_right _ (List.mem_append_left _ (.tail _ (.tail _ (.head _))))), hw.it _ (List.mem_append_right _ (List.mem_append_left _ (.tail _ (.tail _ (.tail _ (.head _))))))⟩, ⟨hw.it _ (List.mem_append_left _ (.tail _ (.tail _ (.tail _ (.tail _ (.tail _ (mem_idx hx (.head _)))))))), hw.it _ (List.mem_append_left _ (.tail _ (.tail _ (.tail _ (.tail _ (.tail _ (mem_idx hx (.tail _ (.head _)))))))))⟩⟩)) ?_
    obtain ⟨a0, c0, hgot, hgm⟩ := grp_mem x.gs (keyB F.ks)
    refine WH.take 8 rfl (by kernel_rfl) (by kernel_rfl) (by kernel_rfl) (by kernel_rfl) (fun _ hw => ⟨⟨hw.it _ (List.mem_append_right _ (List.mem_append_left _ (.tail _ (.head _)))), hw.it _ (List.mem_append_right _ (List.mem_append_left _ (.tail _ (.tail _ (.head _))))), hw.it _ (List.mem_append_right _ (List.mem_append_left _ (.tail _ (.tail _ (.tail _ (.head _))))))⟩, ⟨hw.it _ (List.mem_append_left _ (.tail _ (.tail _ (.tail _ (.tail _ (.tail _ (mem_idx hx (.head _)))))))), hw.it _ (List.mem_append_left _ (.tail _ (.tail _ (.tail _ (.tail _ (.tail _ (mem_idx hx (.tail _ (.head _)))))))))⟩⟩) ((OV.lookup (KeyLaw.str T.u9) T.u72 (by kernel_rfl) rfl rfl (fun _ hw => hw.2.2)).cast hgot) rfl (listed' := [true, true, true, true, true, true, true, true, true, false, true]) rfl ?_
    first
    | (refine WH.free 9 rfl (by kernel_rfl) (by kernel_rfl) (by kernel_rfl) rfl (fun _ => (fun _ hw => ⟨⟨hw.it _ (List.mem_append_right _ (List.mem_append_left _ (.tail _ (.head _)))), hw.it _ (List.mem_append_right _ (List.mem_append_left _ (.tail _ (.tail _ (.head _))))), hw.it _ (List.mem_append_right _ (List.mem_append_left _ (.tail _ (.tail _ (.tail _ (.head _))))))⟩, ⟨hw.it _ (List.mem_append_left _ (.tail _ (.tail _ (.tail _ (.tail _ (.tail _ (mem_idx hx (.head _)))))))), hw.it _ (List.mem_append_left _ (.tail _ (.tail _ (.tail _ (.tail _ (.tail _ (mem_idx hx (.tail _ (.head _)))))))))⟩⟩)) (OV.lenSlice rfl T.u56) rfl (listed' := [true, true, true, true, true, true, true, true, true, true, true]) rfl ?_)
    | (refine WH.free 9 rfl (by kernel_rfl) (by kernel_rfl) (by kernel_rfl) rfl (fun _ => (fun _ hw => ⟨⟨hw.it _ (List.mem_append_right _ (List.mem_append_left _ (.tail _ (.head _)))), hw.it _ (List.mem_append_right _ (List.mem_append_left _ (.tail _ (.tail _ (.head _))))), hw.it _ (List.mem_append_right _ (List.mem_append_left _ (.tail _ (.tail _ (.tail _ (.head _))))))⟩, ⟨hw.it _ (List.mem_append_left _ (.tail _ (.tail _ (.tail _ (.tail _ (.tail _ (mem_idx hx (.head _)))))))), hw.it _ (List.mem_append_left _ (.tail _ (.tail _ (.tail _ (.tail _ (.tail _ (mem_idx hx (.tail _ (.head _)))))))))⟩⟩)) (OV.lenStr rfl T.u56) rfl (listed' := [true, true, true, true, true, true, true, true, true, true, true]) rfl ?_)
    refine WH.done (by kernel_rfl) ?_
    refine WX.next ?_
    refine WC.block ?_
    obtain ⟨ES, hES, hEp⟩ := perm_lift Ent.p ((ok1.ix x hx).ps (keyB F.ks)) _ rfl
    have hK : (psOf x.gs (keyB F.ks)).length = ES.length := by rw [← hEp, List.length_map]
    have hEm : ∀ e ∈ ES, e ∈ g1.es := fun e he => (List.mem_filter.1 (hES.mem_iff.1 he)).1
    have hEl : ES.length ≤ 1099511627776 := by have h1 := hES.length_eq; have h2 := List.length_filter_le (fun e => decide (ixKey x.col e = keyB F.ks)) g1.es; have := ok1.el; omega
    refine WC.weak (S' := fun w' => (0 < (psOf x.gs (keyB F.ks)).length → ∃ q, a0 = some ⟨q, 0, none⟩) ∧ Sat w1 (DD ((relA g0 ++ boxA F) ++ CC y0)) (fun b => b < w1.heap.size ∧ ¬ DD ((relA g0 ++ boxA F) ++ CC y0) b) w1 ((relA g1 ++ (boxA F ++ CC y0))) w') (fun w' hw => ⟨fun hp => row_addr (hw.it _ (List.mem_append_left _ (.tail _ (.tail _ (.tail _ (.tail _ (.tail _ (mem_idx hx (.tail _ (.tail _ (hgm hp))))))))))) hp, hw⟩) ?_
    refine WC.pure (fun ha0 => ?_)
    refine WC.loop3 (fun (i : Nat) (fa : Option Addr) (fc : Nat) => [(0, .func (.yield l) #[] #[]), (5, ptr F.bP), (7, .slice fa (fnd F.parts ES i).length fc), (22, .slice a0 (psOf x.gs (keyB F.ks)).length c0), (23, .int .i64 ((psOf x.gs (keyB F.ks)).length : Int)), (24, .int .i64 (i : Int))])
        (fun i fa fc w' => i ≤ ES.length ∧ Sat w1 (DD ((relA g0 ++ boxA F) ++ CC y0)) (fun b => b < w1.heap.size ∧ ¬ DD ((relA g0 ++ boxA F) ++ CC y0) b) w1 (row 32 1 fa (fnd F.parts ES i).length fc (encs (fnd F.parts ES i)) :: (relA g1 ++ (boxA F ++ CC y0))) w')
        (fun i _ _ => ES.length - i) 0 none 0 ⟨rfl, rfl, rfl, rfl, rfl, rfl, trivial⟩ (fun w' hw => ⟨by omega, hw.rowNil 32 1⟩) ?_
    intro i fa fc
    refine WC.pure (fun hi => ?_)
    refine WC.seq ?_
    refine WC.region ?_
    refine WL.val (OV.lss rfl rfl) rfl ?_
    refine WL.nil ?_
    refine WX.next ?_
    refine WC.seq ?_
    refine WC.cond rfl (fun c25 => ?_) (fun c25 => ?_)
    · try simp only [decide_eq_true_eq, decide_eq_false_iff_not, Bool.not_eq_true', Bool.not_eq_false'] at c25
      refine WC.skip ?_
      refine WX.next ?_
      refine WC.seq ?_
      refine WC.block ?_
      refine WC.seq ?_
      refine WC.region ?_
      have hil : i < ES.length := by omega
      obtain ⟨e, hei⟩ : ∃ e, ES[i]? = some e := ⟨_, List.getElem?_eq_getElem hil⟩
      have he : e ∈ g1.es := hEm e (List.mem_of_getElem? hei)
      have hpi : (psOf x.gs (keyB F.ks))[i]? = some e.p := by rw [← hEp]; simp [hei]
      have hKp : 0 < (psOf x.gs (keyB F.ks)).length := by omega
      obtain ⟨q0, rfl⟩ := ha0 hKp
      have hfi := fnd_le F.parts ES i
      have hst := fnd_succ (parts := F.parts) hei
      refine WL.val (OV.indexSliceA (i := i) rfl rfl T.u56 T.z78 (by omega)) rfl ?_
      refine WL.val (OV.load1 (v := ptr e.p) rfl T.u78 rfl (fun _ hw => row_cells hw ((.tail _ (List.mem_append_left _ (.tail _ (.tail _ (.tail _ (.tail _ (.tail _ (mem_idx hx (.tail _ (.tail _ (hgm hKp)))))))))))) i _ (ptrs_get hpi))) rfl ?_
      refine WL.val (OV.assign rfl) rfl ?_
      refine WL.nil ?_
      refine WX.next ?_
      refine WC.seq ?_
      refine WC.quietS (by kernel_rfl) (by kernel_rfl) (m := 7) rfl ?_
      refine WH.take 0 rfl (by kernel_rfl) (by kernel_rfl) (by kernel_rfl) (by kernel_rfl) (fun _ h => h) (OV.load1 (v := .int .i64 F.parts) rfl T.u3 rfl (fun _ hw => cell_own hw (.tail _ (List.mem_append_right _ (List.mem_append_left _ (.tail _ (.tail _ (.tail _ (.tail _ (.head _)))))))) rfl)) rfl (listed' := [true, false, false, false, false, false, false]) rfl ?_
      refine WH.free 1 rfl (by kernel_rfl) (by kernel_rfl) (by kernel_rfl) rfl (fun _ => (fun _ h => h)) (OV.move rfl) rfl (listed' := [true, true, false, false, false, false, false]) rfl ?_
      refine WH.free 2 rfl (by kernel_rfl) (by kernel_rfl) (by kernel_rfl) rfl (fun _ => (fun _ h => h)) (OV.nilCheck rfl) rfl (listed' := [true, true, true, false, false, false, false]) rfl ?_
      first
      | (refine WH.free 3 rfl (by kernel_rfl) (by kernel_rfl) (by kernel_rfl) rfl (fun _ => (fun _ h => h)) (OV.fieldAddr0 (off := 1) rfl T.u80 rfl) rfl (listed' := [true, true, true, true, false, false, false]) rfl ?_)
      | (refine WH.free 3 rfl (by kernel_rfl) (by kernel_rfl) (by kernel_rfl) rfl (fun _ => (fun _ h => h)) (OV.fieldAddr (off := 1) rfl T.u80 rfl) rfl (listed' := [true, true, true, true, false, false, false]) rfl ?_)
      refine WH.take 4 rfl (by kernel_rfl) (by kernel_rfl) (by kernel_rfl) (by kernel_rfl) (fun _ h => h) (OV.load1 (v := .int .i64 (e.part : Int)) rfl T.u3 rfl (fun _ hw => cell_own hw (.tail _ (List.mem_append_left _ (.tail _ (.tail _ (.tail _ (.tail _ (.tail _ (own_mem_ent he)))))))) rfl)) rfl (listed' := [true, true, true, true, true, false, false]) rfl ?_
      first
      | (refine WH.free 5 rfl (by kernel_rfl) (by kernel_rfl) (by kernel_rfl) rfl (fun _ => (fun _ h => h)) (OV.andW rfl rfl) rfl (listed' := [true, true, true, true, true, true, false]) rfl ?_)
      | (refine WH.free 5 rfl (by kernel_rfl) (by kernel_rfl) (by kernel_rfl) rfl (fun _ => (fun _ h => h)) (OV.andB rfl rfl) rfl (listed' := [true, true, true, true, true, true, false]) rfl ?_)
      | (refine WH.free 5 rfl (by kernel_rfl) (by kernel_rfl) (by kernel_rfl) rfl (fun _ => (fun _ h => h)) (OV.and rfl rfl) rfl (listed' := [true, true, true, true, true, true, false]) rfl ?_)
      refine WH.free 6 rfl (by kernel_rfl) (by kernel_rfl) (by kernel_rfl) rfl (fun _ => (fun _ h => h)) (OV.neq rfl rfl) rfl (listed' := [true, true, true, true, true, true, true]) rfl ?_
      refine WH.done (by kernel_rfl) ?_
      refine WX.next ?_
      refine WC.cond rfl (fun c34 => ?_) (fun c34 => ?_)
      · try simp only [decide_eq_true_eq, decide_eq_false_iff_not, Bool.not_eq_true', Bool.not_eq_false'] at c34
        refine WC.region ?_
        refine WL.val (OV.move rfl) rfl ?_
        refine WL.val (OV.move rfl) rfl ?_
        refine WL.val (OV.nilCheck rfl) rfl ?_
        first
        | (refine WL.val (OV.fieldAddr0 (off := 0) rfl T.u80 rfl) rfl ?_)
        | (refine WL.val (OV.fieldAddr (off := 0) rfl T.u80 rfl) rfl ?_)
        refine WL.val (OV.load1 (v := encE e) rfl T.u32 rfl (fun _ hw => cell_own hw (.tail _ (List.mem_append_left _ (.tail _ (.tail _ (.tail _ (.tail _ (.tail _ (own_mem_ent he)))))))) rfl)) rfl ?_
        refine WL.buildSlice1 T.u48 T.z32 T.zr32 rfl rfl rfl ?_
        intro b40
        refine WL.focus perm1 (WL.append (news := encs [e]) rfl rfl T.apR (fun _ _ => own_src (.tail _ (.head _)) rfl) (encs_one _) ⟨by have := ok1.el; omega, by have := ok1.el; unfold maxLen; omega⟩ rfl ?_)
        intro a41 c41
        refine WL.val (OV.assign rfl) rfl ?_
        refine WL.nil ?_
        refine WX.block_normal ?_
        refine WX.next ?_
        refine WC.region ?_
        first
        | (refine WL.val (OV.addI rfl rfl (by omega)) rfl ?_)
        | (refine WL.val (OV.add rfl rfl) rfl ?_)
        refine WL.val (OV.move rfl) rfl ?_
        refine WL.nil ?_
        rw [if_pos (by simpa [inP] using c34)] at hst
        have el : (fnd F.parts ES i).length + 1 = (fnd F.parts ES (i + 1)).length := by rw [hst, List.length_append]; rfl
        have en : encs (fnd F.parts ES i) ++ encs [e] = encs (fnd F.parts ES (i + 1)) := by rw [hst]; simp [encs]
        exact WX.round3 (i + 1) a41 c41 ⟨rfl, rfl, by rw [← el]; rfl, rfl, rfl, rfl, trivial⟩ (fun w' hw => ⟨by omega, by
          rw [← el, ← en]
          exact (hw.perm perm1).drop⟩) (by show ES.length - (i + 1) < ES.length - i; omega)
      · try simp only [decide_eq_true_eq, decide_eq_false_iff_not, Bool.not_eq_true', Bool.not_eq_false'] at c34
        refine WC.skip ?_
        refine WX.block_normal ?_
        refine WX.next ?_
        refine WC.region ?_
        first
        | (refine WL.val (OV.addI rfl rfl (by omega)) rfl ?_)
        | (refine WL.val (OV.add rfl rfl) rfl ?_)
        refine WL.val (OV.move rfl) rfl ?_
        refine WL.nil ?_
        rw [if_neg (by simpa [inP] using c34), List.append_nil] at hst
        exact WX.round3 (i + 1) fa fc ⟨rfl, rfl, by rw [hst]; rfl, rfl, rfl, rfl, trivial⟩ (fun w' hw => ⟨by omega, by
          rw [hst]
          exact hw⟩) (by show ES.length - (i + 1) < ES.length - i; omega)
    · try simp only [decide_eq_true_eq, decide_eq_false_iff_not, Bool.not_eq_true', Bool.not_eq_false'] at c25
      refine WC.exit ?_
      refine WX.then_exit ?_
      refine WX.then_exit ?_
      refine WX.block_hit ?_
      refine WX.next ?_
      refine WC.seq ?_
      have hi' : i = ES.length := by omega
      subst hi'
      have hFL : ∀ e ∈ fnd F.parts ES ES.length, e ∈ g1.es := fun e he => hEm e (List.mem_of_mem_take (List.mem_filter.1 he).1)
      obtain ⟨xs, hxs⟩ : ∃ xs : List {e // e ∈ g1.es}, xs.map (·.1) = fnd F.parts ES ES.length := ⟨_, List.attachWith_map_subtype_val hFL⟩
      have hxl2 : xs.length ≤ ES.length := by have := fnd_le F.parts ES ES.length; rw [← hxs, List.length_map] at this; exact this
      have hen : encs (xs.map (·.1)) = xs.map fun z => encE z.1 := by simp [encs]
      rw [← hxs, List.length_map, hen]
      refine WC.region ?_
      refine WL.val (OV.move rfl) rfl ?_
      refine WL.callT1 (ι := List {e // e ∈ g1.es}) (vv := fun _ => .tuple #[]) (pp := fun ys => ys.Perm xs ∧ ys.Pairwise (fun x y => Go.Proofs.ltOf (fun a b : {e // e ∈ g1.es} => cmpL a.1.row b.1.row) y x = false)) (jj := fun ys => row 32 1 fa ys.length fc (ys.map fun z => encE z.1)) (by kernel_rfl) rfl rfl (fun w' hw' hH => (sortFunc_calls Tryz.sortF (fun z : {e // e ∈ g1.es} => encE z.1) (fun _ => rfl) (fun a b => cmpL a.1.row b.1.row) (cmpL_swo _) 33 (by kernel_rfl) fa xs w' hH (fun q hq w3 hfr a b => ?_) (by have := ok1.el; omega)).mono (fun en w'' ⟨h1, ys, h2, h3, h4⟩ => ⟨ys, h1, ⟨h2, h3⟩, h4⟩)) ?_
      · have key : ∀ c : {e // e ∈ g1.es}, RI w3 c.1.a c.1.row.length c.1.row := fun c => by
          have hmem : row 3 1 c.1.a c.1.row.length c.1.c (ints c.1.row) ∈ (relA g1 ++ (boxA F ++ CC y0)) := (List.mem_append_left _ (.tail _ (.tail _ (.tail _ (.tail _ (.tail _ (row_mem_ent c.2)))))))
          refine (RI.of_row hw' (.tail _ hmem)).fr (fun b hb _ hbq => ?_) hfr
          exact hw'.apart hmem q.block ⟨q, hq, rfl⟩ ⟨b, hb, hbq⟩
        have hlen : ∀ c : {e // e ∈ g1.es}, c.1.row.length ≤ 9223372036854775807 := fun c => by have := ok1.rl c.1 c.2; omega
        exact compare_pure a.1.row b.1.row a.1.a b.1.a a.1.row.length a.1.c b.1.row.length b.1.c (hlen a) (hlen b) w3 (key a) (key b)
      rintro ys ⟨hp, hs⟩
      rw [← hp.length_eq]
      refine WL.nil ?_
      refine WX.next ?_
      refine WC.seq ?_
      refine WC.region ?_
      refine WL.val (OV.move rfl) rfl ?_
      first
      | (refine WL.val (OV.lenSlice rfl T.u48) rfl ?_)
      | (refine WL.val (OV.lenStr rfl T.u48) rfl ?_)
      refine WL.val (OV.move rfl) rfl ?_
      refine WL.nil ?_
      refine WX.next ?_
      refine WC.block ?_
      have hsel : ys.map (fun z => z.1.row) = selR (rp g0) F.parts cols key := by
        have hrp : rp g0 = rp g1 := by unfold rp; rw [hes]
        rw [hrp]
        refine sel_eq ok1 (x := x) (ks := F.ks) (b := F.b) (by rw [hxl, le1.width]; exact hq) c13 hES ?_ ?_
        · rw [← hxs, List.map_map]
          exact hp.map _
        · rw [List.pairwise_map]
          exact hs.imp (fun h => by simpa [Go.Proofs.ltOf] using h)
      have hsl : (selR (rp g0) F.parts cols key).length = ys.length := by rw [← hsel, List.length_map]
      have hyl : ys.length ≤ ES.length := by rw [hp.length_eq]; exact hxl2
      refine WC.weak (S' := fun w' => (0 < ys.length → ∃ q, fa = some ⟨q, 0, none⟩) ∧ Sat w1 (DD ((relA g0 ++ boxA F) ++ CC y0)) (fun b => b < w1.heap.size ∧ ¬ DD ((relA g0 ++ boxA F) ++ CC y0) b) w1 (row 32 1 fa ys.length fc (ys.map fun z => encE z.1) :: (relA g1 ++ (boxA F ++ CC y0))) w') (fun w' hw => ⟨fun hp => row_addr (hw.it _ (.head _)) hp, hw⟩) ?_
      refine WC.pure (fun hfa => ?_)
      refine WC.loop3 (fun (j : Nat) (gk : RelG) (y : β) => [(0, .func (.yield l) #[] #[]), (45, .slice fa ys.length fc), (46, .int .i64 (ys.length : Int)), (47, .int .i64 (j : Int))])
          (fun j gk y w' => (j ≤ ys.length ∧ J j gk y) ∧ Sat w1 (DD ((relA g0 ++ boxA F) ++ CC y0)) (fun b => b < w1.heap.size ∧ ¬ DD ((relA g0 ++ boxA F) ++ CC y0) b) w1 (row 32 1 fa ys.length fc (ys.map fun z => encE z.1) :: (relA gk ++ (boxA F ++ CC y))) w')
          (fun j _ _ => ys.length - j) 0 g1 y0 ⟨rfl, rfl, rfl, rfl, trivial⟩ (fun w' hw => ⟨⟨by omega, h0 g1 ⟨ok1, le1, hes⟩⟩, hw⟩) ?_
      intro j gk y
      refine WC.pure (fun hj => ?_)
      refine WC.seq ?_
      refine WC.region ?_
      refine WL.val (OV.lss rfl rfl) rfl ?_
      refine WL.nil ?_
      refine WX.next ?_
      refine WC.seq ?_
      refine WC.cond rfl (fun c48 => ?_) (fun c48 => ?_)
      · try simp only [decide_eq_true_eq, decide_eq_false_iff_not, Bool.not_eq_true', Bool.not_eq_false'] at c48
        refine WC.skip ?_
        refine WX.next ?_
        refine WC.seq ?_
        refine WC.block ?_
        refine WC.seq ?_
        refine WC.region ?_
        have hjl : j < ys.length := by omega
        obtain ⟨z, hz⟩ : ∃ z, ys[j]? = some z := ⟨_, List.getElem?_eq_getElem hjl⟩
        obtain ⟨q5, rfl⟩ := hfa (by omega)
        obtain ⟨hjj, hJ⟩ := hj
        refine WL.val (OV.indexSliceA (i := j) rfl rfl T.u48 T.z32 (by omega)) rfl ?_
        refine WL.val (OV.load1 (v := encE z.1) rfl T.u32 rfl (fun _ hw => row_cells hw (.head _) j _ (by simp [hz]))) rfl ?_
        refine WL.val (OV.assign rfl) rfl ?_
        refine WL.nil ?_
        refine WX.next ?_
        refine WC.seq ?_
        refine WC.region ?_
        refine WL.val (OV.move rfl) rfl ?_
        refine WL.val (OV.move rfl) rfl ?_
        obtain ⟨e', he', hp', ha', hc', hr'⟩ := (hm j gk y hJ).es z.1 (hes ▸ z.2)
        have hzl : z.1.row.length ≤ 1099511627776 := ok1.rl z.1 z.2
        refine WL.callF (ι := Option Addr × Nat) (vv := fun q => .slice q.1 z.1.row.length q.2) (pp := fun _ => True) (it := fun q => row 3 1 q.1 z.1.row.length q.2 (ints z.1.row)) (by kernel_rfl) rfl rfl (fun w' hw => (clone_calls z.1.row z.1.a z.1.row.length z.1.c hzl w' (by rw [← ha', ← hr']; exact RI.of_row hw (.tail _ (List.mem_append_left _ (.tail _ (.tail _ (.tail _ (.tail _ (.tail _ (row_mem_ent he')))))))))).mono (fun en w'' ⟨a', c', q1, q2, q3⟩ => ⟨(a', c'), q1, trivial, q2, q3⟩)) ?_
        rintro ⟨a53, c53⟩ _
        refine WL.focus (ow' := (row 3 1 a53 z.1.row.length c53 (ints z.1.row) :: (relA gk ++ (boxA F ++ CC y))) ++ [row 32 1 (some ⟨q5, 0, none⟩) ys.length fc (ys.map fun z => encE z.1)]) (List.Perm.cons _ List.perm_append_comm) (WL.yieldT (AA := fun b A' => ∃ g2 y2, A' = relA g2 ++ (boxA F ++ CC y2) ∧ (b = true → J (j + 1) g2 y2) ∧ (b = false → Jx (j + 1) g2 y2)) rfl rfl rfl (fun w' hw' => ?_) ?_)
        · have ht := hw'.turnedL
          refine (hy j gk y (a53, c53) w' z.1.row (by rw [← hsel]; simp [hz]) hJ (by simp only [List.append_assoc] at ht ⊢; exact ht)).mono (fun b W' ⟨g2, y2, t1, t2, t3⟩ => ⟨_, ⟨g2, y2, rfl, t1, t2⟩, by simp only [List.append_assoc] at t3 ⊢; exact t3⟩)
        rintro b A' ⟨g2, y2, rfl, hJt, hJf⟩
        refine WL.val (OV.not rfl) rfl ?_
        refine WL.nil ?_
        refine WX.next ?_
        refine WC.cond rfl (fun c55 => ?_) (fun c55 => ?_)
        · try simp only [decide_eq_true_eq, decide_eq_false_iff_not, Bool.not_eq_true', Bool.not_eq_false'] at c55
          refine WC.ret ?_
          refine WX.block_ret ?_
          refine WX.then_ret ?_
          refine WX.then_ret ?_
          refine WX.block_ret ?_
          exact WX.ret0 rfl rfl (fun w' hw => ⟨rfl, g2, y2, j + 1, .inr ⟨by omega, by omega, hJf c55⟩, by simpa only [List.append_assoc] using hw.turnedL⟩)
        · try simp only [decide_eq_true_eq, decide_eq_false_iff_not, Bool.not_eq_true', Bool.not_eq_false'] at c55
          refine WC.skip ?_
          refine WX.block_normal ?_
          refine WX.next ?_
          refine WC.region ?_
          first
          | (refine WL.val (OV.addI rfl rfl (by omega)) rfl ?_)
          | (refine WL.val (OV.add rfl rfl) rfl ?_)
          refine WL.val (OV.move rfl) rfl ?_
          refine WL.nil ?_
          exact WX.round3 (j + 1) g2 y2 ⟨rfl, rfl, rfl, rfl, trivial⟩ (fun w' hw => ⟨⟨by omega, hJt c55⟩, hw.perm (List.perm_append_comm (l₁ := [_]))⟩) (by show ys.length - (j + 1) < ys.length - j; omega)
      · try simp only [decide_eq_true_eq, decide_eq_false_iff_not, Bool.not_eq_true', Bool.not_eq_false'] at c48
        refine WC.exit ?_
        refine WX.then_exit ?_
        refine WX.then_exit ?_
        refine WX.block_hit ?_
        obtain ⟨hjj, hJ⟩ := hj
        have hje : j = ys.length := by omega
        subst hje
        exact WX.ret0 rfl rfl (fun w' hw => ⟨rfl, gk, y, ys.length, .inl ⟨hsl.symm, hJ⟩, by simpa only [List.append_assoc] using hw.drop.turned⟩)

theorem find1_iter (F : FB) (g0 : RelG) (ok : RelOK g0) (cols key : List Int) (hq : QR g0.width cols key F.ls F.ks F.b) (hr : F.r = g0.r) (hcol : F.col ∈ g0.cols) (w : World) :
    IterSpec Tryz.prog 29 F.caps (fun g => relA g ++ boxA F) g0 (fun g1 => RelOK g1 ∧ RelLe g0 g1 ∧ g1.es = g0.es) (fun g1 => RelLe g0 g1) EIr argr (selR (rp g0) F.parts cols key) w := by
  intro β CC J Jx y0 l w1 ht h0 hm hy
  exact find1_calls F g0 ok cols key hq hr hcol CC J Jx y0 l w1 ht.holds h0 hm hy

end Go.Proofs.YtijplknkpkmblaaGreatDoor
