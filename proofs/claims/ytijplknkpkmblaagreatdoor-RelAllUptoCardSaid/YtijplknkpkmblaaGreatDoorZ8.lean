/- Contracts of functions of the program: what each returns and leaves in memory. Printed by gen.py and walk.py. -/
import Derived.Test.YtijplknkpkmblaaGreatDoorZ7
namespace Go.Proofs.YtijplknkpkmblaaGreatDoor
open Go Go.Hw
set_option linter.unusedSimpArgs false
set_option linter.unusedVariables false
theorem _root_.Go.Hw.WX.known {Q : Post} {n : Nat} {ds : DS} {e : Env} {S : World → Prop} {x : Exit} {t : Nat} {b b' : Bool} (h : Hw.look e t = some (.bool b')) (hb : b' = b) (k : WX Q n ds ((t, .bool b) :: e) S x) : WX Q n ds e S x := fun a w ha hw => k a w (by subst hb; exact ha.known h) hw
theorem Tie.mem {g : RelG} {q : RefG} (h : Tie g q) (l : List Int) : l ∈ refR q ↔ l ∈ (rp g).map (·.1) := by
  rw [← (h.same.map (·.1)).mem_iff, refL, List.map_fst_zip (by rw [refR, List.length_map, h.qok.li]; omega)]
theorem Tie.addV {g : RelG} {q : RefG} (h : Tie g q) (l : List Int) : addV g.width (rp g) l = decide (l.length = q.width ∧ l ∉ refR q) := by
  simp only [Go.Proofs.YtijplknkpkmblaaGreatDoor.addV, h.mem, h.wd]

set_option maxRecDepth 10000 in
set_option maxHeartbeats 1000000 in
theorem plays_calls (g : RelG) (q : RefG) (t : Tie g q) (kind parts stop : Int) (two : Bool) (rr : List Int) (ra : Option Addr) (rm rc : Nat) (cols key : List Int) (a1 : Option Addr) (m1 c1 : Nat) (a2 : Option Addr) (m2 c2 : Nat) (hi : i64s rr) (hc : i64s cols) (hk : i64s key) (hm0 : rm ≤ 1048576) (hm1 : m1 ≤ 1048576) (hm2 : m2 ≤ 1048576) (hlen : g.es.length < 1099511627776) (hcl : q.cols.length < 1099511627776) (w : World) (hr0 : RI w ra rm rr) (hr1 : RI w a1 m1 cols) (hr2 : RI w a2 m2 key) (hne0 : ∀ b, ra = some b → 0 < rm → ¬ DD (relA g ++ refA q) b.block) (hne1 : ∀ b, a1 = some b → 0 < m1 → ¬ DD (relA g ++ refA q) b.block) (hne2 : ∀ b, a2 = some b → 0 < m2 → ¬ DD (relA g ++ refA q) b.block) (hA : Holds (relA g ++ refA q) w) :
  Calls Tryz.prog 9 #[.agg #[ptr g.r, ptr q.p], .agg (opC kind parts stop two ra rm rc a1 m1 c1 a2 m2 c2).toArray] w fun e w' => e = .returned (.bool true) ∧ ∃ g' q', Tie g' q' ∧ g'.r = g.r ∧ q'.p = q.p ∧ g'.es.length ≤ g.es.length + 1 ∧ q'.cols.length ≤ q.cols.length + 1 ∧ Turns (relA g ++ refA q) (relA g' ++ refA q') w w' := by
  refine enterA hA (args := [.agg #[ptr g.r, ptr q.p], .agg (opC kind parts stop two ra rm rc a1 m1 c1 a2 m2 c2).toArray]) Tryz.func9 rfl Tryz.ntmps9 rfl rfl ?_
  refine WC.seq ?_
  refine WC.region ?_
  refine WL.box rfl rfl rfl ?_
  intro b2
  refine WL.box rfl rfl rfl ?_
  intro b3
  refine WL.val (OV.assign rfl) rfl ?_
  refine WL.nil ?_
  refine WX.next ?_
  refine WC.seq ?_
  refine WC.region ?_
  first
  | (refine WL.val (OV.fieldAddr0 (off := 4) rfl T.u34 rfl) rfl ?_)
  | (refine WL.val (OV.fieldAddr (off := 4) rfl T.u34 rfl) rfl ?_)
  first
  | (refine WL.val (OV.load1 rfl T.u32 rfl (fun _ hw => cell_own hw (.head _) rfl)) rfl ?_)
  | (refine WL.val (OV.load1 rfl T.u32 rfl (fun _ hw => cell_own hw (.tail _ (.head _)) rfl)) rfl ?_)
  | (refine WL.val (OV.load1 rfl T.u32 rfl (fun _ hw => cell_own hw (.tail _ (.tail _ (.head _))) rfl)) rfl ?_)
  | (refine WL.val (OV.load1 rfl T.u32 rfl (fun _ hw => cell_own hw (.tail _ (.tail _ (.tail _ (.head _)))) rfl)) rfl ?_)
  | (refine WL.val (OV.load1 rfl T.u32 rfl (fun _ hw => cell_own hw (.tail _ (.tail _ (.tail _ (.tail _ (.head _))))) rfl)) rfl ?_)
  refine WL.callTA (ι := Col) (vs := [.slice ra rm rc]) (vv := encC) (pp := fun y => y.l = rr ++ [71, 72, 73]) [] (AA := fun y => [row 3 1 y.a y.l.length y.c (ints y.l)]) rfl (by kernel_rfl) rfl rfl (fun w' hw' _ => (roomy_calls rr ra rm rc (by omega) w' (hr0.satA hne0 hw')).mono (fun en w'' ⟨y, h1, h2, h3⟩ => ⟨y, h1, h2, h3⟩)) ?_
  intro yr hyr
  have hyr : yr.l = rr ++ [71, 72, 73] := hyr
  refine WL.val (OV.assign rfl) rfl ?_
  refine WL.nil ?_
  refine WX.next ?_
  refine WC.seq ?_
  refine WC.region ?_
  refine WL.val (OV.assign rfl) rfl ?_
  refine WL.nil ?_
  refine WX.next ?_
  refine WC.seq ?_
  refine WC.seq ?_
  have hyl : yr.l.length = rr.length + 3 := by rw [hyr]; simp
  have hr00 := hr0.1
  refine WC.know (fun w' hw => (⟨row_addr (hw.it _ (.head _)) (by omega), row_cap (hw.it _ (.head _))⟩ : (∃ b, yr.a = some ⟨b, 0, none⟩) ∧ yr.l.length ≤ yr.c)) (fun hq => ?_)
  obtain ⟨⟨br, hbr⟩, hrc⟩ := hq
  refine WC.region ?_
  first
  | (refine WL.val (OV.fieldAddr0 (off := 0) rfl T.u34 rfl) rfl ?_)
  | (refine WL.val (OV.fieldAddr (off := 0) rfl T.u34 rfl) rfl ?_)
  refine WL.val (OV.load1 (v := .int .i64 kind) rfl T.u3 rfl (fun _ hw => (cell_at (hw.it _ (.tail _ (.head _))) (o := 0) rfl).1)) rfl ?_
  refine WL.nil ?_
  refine WX.next ?_
  refine WC.block ?_
  refine WC.seq ?_
  refine WC.region ?_
  refine WL.val (OV.eql rfl rfl) rfl ?_
  refine WL.val (OV.assign rfl) rfl ?_
  refine WL.nil ?_
  refine WX.next ?_
  refine WC.cond rfl (fun c17 => ?_) (fun c17 => ?_)
  · try simp only [decide_eq_true_eq, decide_eq_false_iff_not, Bool.not_eq_true', Bool.not_eq_false'] at c17
    refine WC.seq ?_
    refine WC.drawn (fun w' => w'.heap[b2]? = some (.cells [ptr g.r, ptr q.p].toArray 28 (0, 0)) ∧ w'.heap[b3]? = some (.cells (opC kind parts stop two ra rm rc a1 m1 c1 a2 m2 c2).toArray 34 (0, 0))) [] (by kernel_rfl) (by kernel_rfl) (m := 13) rfl ?_
    first
    | (refine WH.free 0 rfl (by kernel_rfl) (by kernel_rfl) (by kernel_rfl) rfl (fun _ => (fun _ hw => ⟨hw.it _ (.tail _ (.tail _ (.head _))), hw.it _ (.tail _ (.head _))⟩)) (OV.fieldAddr0 (off := 0) rfl T.u28 rfl) rfl (listed' := [true, false, false, false, false, false, false, false, false, false, false, false, false]) rfl ?_)
    | (refine WH.free 0 rfl (by kernel_rfl) (by kernel_rfl) (by kernel_rfl) rfl (fun _ => (fun _ hw => ⟨hw.it _ (.tail _ (.tail _ (.head _))), hw.it _ (.tail _ (.head _))⟩)) (OV.fieldAddr (off := 0) rfl T.u28 rfl) rfl (listed' := [true, false, false, false, false, false, false, false, false, false, false, false, false]) rfl ?_)
    refine WH.take 1 rfl (by kernel_rfl) (by kernel_rfl) (by kernel_rfl) (by kernel_rfl) (fun _ hw => ⟨hw.it _ (.tail _ (.tail _ (.head _))), hw.it _ (.tail _ (.head _))⟩) (OV.load1 (v := ptr g.r) rfl T.u25 rfl (fun _ hw => (cell_at hw.1 (o := 0) rfl).1)) rfl (listed' := [true, true, false, false, false, false, false, false, false, false, false, false, false]) rfl ?_
    refine WH.free 2 rfl (by kernel_rfl) (by kernel_rfl) (by kernel_rfl) rfl (fun _ => (fun _ hw => ⟨hw.it _ (.tail _ (.tail _ (.head _))), hw.it _ (.tail _ (.head _))⟩)) (OV.move rfl) rfl (listed' := [true, true, true, false, false, false, false, false, false, false, false, false, false]) rfl ?_
    first
    | (refine WH.free 3 rfl (by kernel_rfl) (by kernel_rfl) (by kernel_rfl) rfl (fun _ => (fun _ hw => ⟨hw.it _ (.tail _ (.tail _ (.head _))), hw.it _ (.tail _ (.head _))⟩)) (OV.fieldAddr0 (off := 4) rfl T.u34 rfl) rfl (listed' := [true, true, true, true, false, false, false, false, false, false, false, false, false]) rfl ?_)
    | (refine WH.free 3 rfl (by kernel_rfl) (by kernel_rfl) (by kernel_rfl) rfl (fun _ => (fun _ hw => ⟨hw.it _ (.tail _ (.tail _ (.head _))), hw.it _ (.tail _ (.head _))⟩)) (OV.fieldAddr (off := 4) rfl T.u34 rfl) rfl (listed' := [true, true, true, true, false, false, false, false, false, false, false, false, false]) rfl ?_)
    refine WH.take 4 rfl (by kernel_rfl) (by kernel_rfl) (by kernel_rfl) (by kernel_rfl) (fun _ hw => ⟨hw.it _ (.tail _ (.tail _ (.head _))), hw.it _ (.tail _ (.head _))⟩) (OV.load1 (v := .slice ra rm rc) rfl T.u32 rfl (fun _ hw => (cell_at hw.2 (o := 4) rfl).1)) rfl (listed' := [true, true, true, true, true, false, false, false, false, false, false, false, false]) rfl ?_
    first
    | (refine WH.free 5 rfl (by kernel_rfl) (by kernel_rfl) (by kernel_rfl) rfl (fun _ => (fun _ hw => ⟨hw.it _ (.tail _ (.tail _ (.head _))), hw.it _ (.tail _ (.head _))⟩)) (OV.lenSlice rfl T.u32) rfl (listed' := [true, true, true, true, true, true, false, false, false, false, false, false, false]) rfl ?_)
    | (refine WH.free 5 rfl (by kernel_rfl) (by kernel_rfl) (by kernel_rfl) rfl (fun _ => (fun _ hw => ⟨hw.it _ (.tail _ (.tail _ (.head _))), hw.it _ (.tail _ (.head _))⟩)) (OV.lenStr rfl T.u32) rfl (listed' := [true, true, true, true, true, true, false, false, false, false, false, false, false]) rfl ?_)
    refine WH.free 6 rfl (by kernel_rfl) (by kernel_rfl) (by kernel_rfl) rfl (fun _ => (fun _ hw => ⟨hw.it _ (.tail _ (.tail _ (.head _))), hw.it _ (.tail _ (.head _))⟩)) (OV.sliceTo (h := rm) rfl T.u32 T.z3 rfl (by omega)) rfl (listed' := [true, true, true, true, true, true, true, false, false, false, false, false, false]) rfl ?_
    refine WH.only 7 rfl (by kernel_rfl) (listed' := [true, true, true, true, true, true, true, true, false, false, false, false, false]) rfl (fl' := false) rfl ?_
    refine WL.focus (ow' := relA g ++ ([row 3 1 yr.a yr.l.length yr.c (ints yr.l), own b3 (.cells (opC kind parts stop two ra rm rc a1 m1 c1 a2 m2 c2).toArray 34 (0, 0)), own b2 (.cells [ptr g.r, ptr q.p].toArray 28 (0, 0))] ++ (refA q))) (perm_cat [[row 3 1 yr.a yr.l.length yr.c (ints yr.l), own b3 (.cells (opC kind parts stop two ra rm rc a1 m1 c1 a2 m2 c2).toArray 34 (0, 0)), own b2 (.cells [ptr g.r, ptr q.p].toArray 28 (0, 0))], relA g, refA q] [1, 0, 2] (by decide) rfl) ?_
    refine WL.callTA (ι := RelG) (vs := [ptr g.r, .slice yr.a rm yr.c]) (vv := fun _ => .tuple #[.bool (addV g.width (rp g) rr), .int .i64 (addE g.width rr)]) (pp := fun qq => rp qq = addRP g.width (rp g) rr ∧ RelOK qq ∧ RelLe g qq) (relA g) (AA := fun qq => relA qq) rfl (by kernel_rfl) rfl rfl (fun w' hw' hH => (add_calls g t.ok rr yr.a rm yr.c hi (by omega) hlen w' ((hyr ▸ RI.of_row (c := yr.c) hw' (List.mem_append_right _ (List.mem_append_left _ (.head _)))).pre hr0.1) (fun b hb _ => Sat.sepO hw' (i := row 3 1 yr.a yr.l.length yr.c (ints yr.l)) (List.mem_append_left _ (.head _)) ⟨b, hb, rfl⟩) hH).mono (fun en w'' ⟨h1, g', h2, h3, h4, h5⟩ => ⟨g', h1, ⟨h2, h3, h4⟩, h5⟩)) ?_
    rintro g27 hpp
    obtain ⟨hrp27, ok27, le27⟩ : rp g27 = addRP g.width (rp g) rr ∧ RelOK g27 ∧ RelLe g g27 := hpp
    refine WL.focus (ow' := [row 3 1 yr.a yr.l.length yr.c (ints yr.l), own b3 (.cells (opC kind parts stop two ra rm rc a1 m1 c1 a2 m2 c2).toArray 34 (0, 0)), own b2 (.cells [ptr g.r, ptr q.p].toArray 28 (0, 0))] ++ (relA g27 ++ (refA q))) (perm_cat [relA g27, [row 3 1 yr.a yr.l.length yr.c (ints yr.l), own b3 (.cells (opC kind parts stop two ra rm rc a1 m1 c1 a2 m2 c2).toArray 34 (0, 0)), own b2 (.cells [ptr g.r, ptr q.p].toArray 28 (0, 0))], refA q] [1, 0, 2] (by decide) rfl) ?_
    refine WL.nil ?_
    refine WX.contD (by kernel_rfl) (fun _ => (fun _ hw => ⟨hw.it _ (.tail _ (.tail _ (.head _))), hw.it _ (.tail _ (.head _))⟩)) ?_
    refine WH.free 8 rfl (by kernel_rfl) (by kernel_rfl) (by kernel_rfl) rfl (fun _ => (fun _ hw => ⟨hw.it _ (.tail _ (.tail _ (.head _))), hw.it _ (.tail _ (.head _))⟩)) (OV.move rfl) rfl (listed' := [true, true, true, true, true, true, true, true, true, false, false, false, false]) rfl ?_
    refine WH.free 9 rfl (by kernel_rfl) (by kernel_rfl) (by kernel_rfl) rfl (fun _ => (fun _ hw => ⟨hw.it _ (.tail _ (.tail _ (.head _))), hw.it _ (.tail _ (.head _))⟩)) (OV.extract rfl rfl) rfl (listed' := [true, true, true, true, true, true, true, true, true, true, false, false, false]) rfl ?_
    refine WH.free 10 rfl (by kernel_rfl) (by kernel_rfl) (by kernel_rfl) rfl (fun _ => (fun _ hw => ⟨hw.it _ (.tail _ (.tail _ (.head _))), hw.it _ (.tail _ (.head _))⟩)) (OV.extract rfl rfl) rfl (listed' := [true, true, true, true, true, true, true, true, true, true, true, false, false]) rfl ?_
    refine WH.free 11 rfl (by kernel_rfl) (by kernel_rfl) (by kernel_rfl) rfl (fun _ => (fun _ hw => ⟨hw.it _ (.tail _ (.tail _ (.head _))), hw.it _ (.tail _ (.head _))⟩)) (OV.assign rfl) rfl (listed' := [true, true, true, true, true, true, true, true, true, true, true, true, false]) rfl ?_
    refine WH.free 12 rfl (by kernel_rfl) (by kernel_rfl) (by kernel_rfl) rfl (fun _ => (fun _ hw => ⟨hw.it _ (.tail _ (.tail _ (.head _))), hw.it _ (.tail _ (.head _))⟩)) (OV.assign rfl) rfl (listed' := [true, true, true, true, true, true, true, true, true, true, true, true, true]) rfl ?_
    refine WH.done (by kernel_rfl) ?_
    refine WX.next ?_
    refine WC.seq ?_
    refine WC.region ?_
    first
    | (refine WL.val (OV.fieldAddr0 (off := 1) rfl T.u28 rfl) rfl ?_)
    | (refine WL.val (OV.fieldAddr (off := 1) rfl T.u28 rfl) rfl ?_)
    refine WL.val (OV.load1 (v := ptr q.p) rfl T.u26 rfl (fun _ hw => (cell_at (hw.it _ (.tail _ (.tail _ (.head _)))) (o := 1) rfl).1)) rfl ?_
    first
    | (refine WL.val (OV.fieldAddr0 (off := 4) rfl T.u34 rfl) rfl ?_)
    | (refine WL.val (OV.fieldAddr (off := 4) rfl T.u34 rfl) rfl ?_)
    refine WL.val (OV.load1 (v := .slice ra rm rc) rfl T.u32 rfl (fun _ hw => (cell_at (hw.it _ (.tail _ (.head _))) (o := 4) rfl).1)) rfl ?_
    refine WL.focus (ow' := refA q ++ ([row 3 1 yr.a yr.l.length yr.c (ints yr.l), own b3 (.cells (opC kind parts stop two ra rm rc a1 m1 c1 a2 m2 c2).toArray 34 (0, 0)), own b2 (.cells [ptr g.r, ptr q.p].toArray 28 (0, 0))] ++ (relA g27))) (perm_cat [[row 3 1 yr.a yr.l.length yr.c (ints yr.l), own b3 (.cells (opC kind parts stop two ra rm rc a1 m1 c1 a2 m2 c2).toArray 34 (0, 0)), own b2 (.cells [ptr g.r, ptr q.p].toArray 28 (0, 0))], relA g27, refA q] [2, 0, 1] (by decide) rfl) ?_
    refine WL.callTA (ι := RefG) (vs := [ptr q.p, .slice ra rm rc]) (vv := fun _ => .tuple #[.bool (decide (rr.length = q.width ∧ rr ∉ refR q)), .int .i64 (addE q.width rr)]) (pp := fun qq => RefOK qq ∧ qq.p = q.p ∧ qq.width = q.width ∧ qq.cols.length ≤ q.cols.length + 1 ∧ (∀ p, p ∈ refL qq ↔ p ∈ refL q ∨ ((rr.length = q.width ∧ rr ∉ refR q) ∧ p = (rr, 4)))) (refA q) (AA := fun qq => refA qq) rfl (by kernel_rfl) rfl rfl (fun w' hw' hH => (refAdd_calls q t.qok rr ra rm rc hi (by omega) hcl w' (hr0.satA hne0 hw') (fun b hb hm h => hne0 b hb hm (DD_append.2 (.inr h))) hH).mono (fun en w'' ⟨h1, q', h2, h3, h4, h5, h6, h7⟩ => ⟨q', h1, ⟨h2, h3, h4, h5, h6⟩, h7⟩)) ?_
    rintro q35 hpp
    obtain ⟨qok35, hqp, hqw, hql, hqm⟩ : RefOK q35 ∧ q35.p = q.p ∧ q35.width = q.width ∧ q35.cols.length ≤ q.cols.length + 1 ∧ (∀ p, p ∈ refL q35 ↔ p ∈ refL q ∨ ((rr.length = q.width ∧ rr ∉ refR q) ∧ p = (rr, 4))) := hpp
    have tA : Tie g27 q35 := t.add ok27 qok35 le27.width hqw hrp27 hqm
    have hel27 : g27.es.length ≤ g.es.length + 1 := by
      have h1 := es_len hrp27
      have h2 := addRP_len g.width (rp g) rr
      rw [rp_len] at h2
      omega
    refine WL.focus (ow' := [row 3 1 yr.a yr.l.length yr.c (ints yr.l), own b3 (.cells (opC kind parts stop two ra rm rc a1 m1 c1 a2 m2 c2).toArray 34 (0, 0)), own b2 (.cells [ptr g.r, ptr q.p].toArray 28 (0, 0))] ++ (relA g27 ++ (refA q35))) (perm_cat [refA q35, [row 3 1 yr.a yr.l.length yr.c (ints yr.l), own b3 (.cells (opC kind parts stop two ra rm rc a1 m1 c1 a2 m2 c2).toArray 34 (0, 0)), own b2 (.cells [ptr g.r, ptr q.p].toArray 28 (0, 0))], relA g27] [1, 2, 0] (by decide) rfl) ?_
    refine WL.val (OV.move rfl) rfl ?_
    refine WL.val (OV.extract rfl rfl) rfl ?_
    refine WL.val (OV.extract rfl rfl) rfl ?_
    refine WL.val (OV.assign rfl) rfl ?_
    refine WL.val (OV.assign rfl) rfl ?_
    refine WL.nil ?_
    refine WX.next ?_
    refine WC.region ?_
    refine WL.val (OV.move rfl) rfl ?_
    refine WL.val (OV.move rfl) rfl ?_
    refine WL.val (OV.eqlB T.u4 rfl rfl) rfl ?_
    refine WL.val (OV.move rfl) rfl ?_
    refine WL.known (t := 41) (b := true) rfl (by exact decide_eq_true (t.addV rr)) ?_
    refine WL.go (b := true) rfl rfl rfl ?_
    refine WL.val (OV.move rfl) rfl ?_
    refine WL.go (b := true) rfl rfl rfl ?_
    refine WL.val (OV.move rfl) rfl ?_
    refine WL.go (b := true) rfl rfl rfl ?_
    refine WL.val (OV.eql rfl rfl) rfl ?_
    refine WL.val (OV.pickT rfl rfl) rfl ?_
    refine WL.val (OV.assign rfl) rfl ?_
    refine WL.nil ?_
    refine WX.known (t := 6) (b := true) rfl ?_ ?_
    · exact decide_eq_true (by rw [t.wd])
    refine WX.block_normal ?_
    refine WX.next ?_
    refine WC.seq ?_
    refine WC.seq ?_
    refine WC.region ?_
    refine WL.val (OV.move rfl) rfl ?_
    refine WL.val (OV.not rfl) rfl ?_
    refine WL.val (OV.move rfl) rfl ?_
    refine WL.known (t := 104) (b := false) rfl (by rfl) ?_
    refine WL.go (b := false) rfl rfl rfl ?_
    refine WL.val (OV.move rfl) rfl ?_
    refine WL.go (b := false) rfl rfl rfl ?_
    first
    | (refine WL.val (OV.fieldAddr0 (off := 4) rfl T.u34 rfl) rfl ?_)
    | (refine WL.val (OV.fieldAddr (off := 4) rfl T.u34 rfl) rfl ?_)
    refine WL.go (b := false) rfl rfl rfl ?_
    refine WL.val (OV.load1 (v := .slice ra rm rc) rfl T.u32 rfl (fun _ hw => (cell_at (hw.it _ (.tail _ (.head _))) (o := 4) rfl).1)) rfl ?_
    refine WL.go (b := false) rfl rfl rfl ?_
    refine WL.callTA (ι := Col) (vs := [.slice ra rm rc]) (vv := encC) (pp := fun y => y.l = rr ++ [71, 72, 73]) [] (AA := fun y => [row 3 1 y.a y.l.length y.c (ints y.l)]) rfl (by kernel_rfl) rfl rfl (fun w' hw' _ => (roomy_calls rr ra rm rc (by omega) w' (hr0.satA hne0 hw')).mono (fun en w'' ⟨y, h1, h2, h3⟩ => ⟨y, h1, h2, h3⟩)) ?_
    intro yd hyd
    have hyd : yd.l = rr ++ [71, 72, 73] := hyd
    have hdl : yd.l.length = rr.length + 3 := by rw [hyd]; simp
    refine WL.go (b := false) rfl rfl rfl ?_
    refine WL.call0 (v := .bool true) (vs := [encC yr, encC yd]) (by kernel_rfl) rfl rfl (fun w' hw' => (same_calls yr.l yd.l yr.a yd.a yr.l.length yr.c yd.l.length yd.c (by omega) (by omega) w' (RI.of_row (c := yr.c) hw' (.tail _ (.head _))) (RI.of_row (c := yd.c) hw' (.head _))).mono (fun en w'' ⟨h1, h2⟩ => ⟨h1.trans (by rw [decide_eq_true (hyr.trans hyd.symm)]), h2⟩)) ?_
    refine WL.go (b := false) rfl rfl rfl ?_
    refine WL.val (OV.not rfl) rfl ?_
    refine WL.val (OV.pickF rfl rfl) rfl ?_
    refine WL.nil ?_
    refine WX.next ?_
    refine WC.condF (show _ = some (Value.bool false) from by rfl) ?_
    refine WC.skip ?_
    refine WX.next ?_
    refine WC.seq ?_
    refine WC.seq ?_
    refine WC.region ?_
    refine WL.val (OV.assign rfl) rfl ?_
    refine WL.nil ?_
    refine WX.next ?_
    refine WC.block ?_
    refine WC.loop2 (fun (i : Nat) (xs : List Value) => [(5, .slice yr.a yr.l.length yr.c), (11, .int .i64 (i : Int))])
        (fun i xs w' => (i ≤ yr.l.length ∧ xs.length = yr.l.length) ∧ Sat w (DD (relA g ++ refA q)) (fun b => b < w.heap.size ∧ ¬ DD (relA g ++ refA q) b) w (row 3 1 yr.a yr.l.length yr.c xs :: own b3 (.cells (opC kind parts stop two ra rm rc a1 m1 c1 a2 m2 c2).toArray 34 (0, 0)) :: own b2 (.cells [ptr g.r, ptr q.p].toArray 28 (0, 0)) :: (relA g27 ++ refA q35)) w')
        (fun i _ => yr.l.length - i) 0 (ints yr.l) ⟨rfl, rfl, trivial⟩ (fun w' hw => ⟨⟨by omega, ints_length _⟩, hw.drop⟩) ?_
    intro i xs
    refine WC.pure (fun hi => ?_)
    obtain ⟨hi, hxl⟩ := hi
    refine WC.seq ?_
    refine WC.seq ?_
    refine WC.region ?_
    refine WL.val (OV.move rfl) rfl ?_
    refine WL.val (OV.move rfl) rfl ?_
    first
    | (refine WL.val (OV.lenSlice rfl T.u32) rfl ?_)
    | (refine WL.val (OV.lenStr rfl T.u32) rfl ?_)
    refine WL.val (OV.lss rfl rfl) rfl ?_
    refine WL.nil ?_
    refine WX.next ?_
    refine WC.cond rfl (fun c115 => ?_) (fun c115 => ?_)
    · try simp only [decide_eq_true_eq, decide_eq_false_iff_not, Bool.not_eq_true', Bool.not_eq_false'] at c115
      refine WC.skip ?_
      refine WX.next ?_
      refine WC.seq ?_
      refine WC.block ?_
      refine WC.region ?_
      refine WL.val (OV.move rfl) rfl ?_
      refine WL.val (OV.move rfl) rfl ?_
      refine WL.val ((OV.indexSliceA (a := ⟨br, 0, none⟩) (i := i) (show _ = some (Value.slice (some ⟨br, 0, none⟩) yr.l.length yr.c) by rw [← hbr]; rfl) rfl T.u32 T.z3 (by omega)).cast (u := .pointer (some ⟨br, i, none⟩)) (by rw [add_off, Nat.zero_add])) rfl ?_
      refine WL.storeRow (o := i) rfl hbr rfl rfl T.z3 (by omega) ?_
      refine WL.nil ?_
      refine WX.block_normal ?_
      refine WX.next ?_
      refine WC.region ?_
      refine WL.val (OV.move rfl) rfl ?_
      refine WL.val (OV.addN (j := 1) rfl rfl (by omega)) rfl ?_
      refine WL.val (OV.assign rfl) rfl ?_
      refine WL.nil ?_
      exact WX.round2 (i + 1) (xs.set i (.int .i64 99)) ⟨rfl, rfl, trivial⟩ (fun w' hw => ⟨⟨by omega, by simpa using hxl⟩, hw⟩) (by show yr.l.length - (i + 1) < yr.l.length - i; omega)
    · try simp only [decide_eq_true_eq, decide_eq_false_iff_not, Bool.not_eq_true', Bool.not_eq_false'] at c115
      refine WC.exit ?_
      refine WX.then_exit ?_
      refine WX.then_exit ?_
      refine WX.block_hit ?_
      refine WX.next ?_
      refine WC.seq ?_
      refine WC.region ?_
      refine WL.val (OV.assign rfl) rfl ?_
      refine WL.nil ?_
      refine WX.next ?_
      refine WC.ret ?_
      exact WX.ret1 rfl rfl rfl (fun w' hw => ⟨rfl, g27, q35, tA, le27.r, hqp, by omega, hql, hw.drop.drop.drop.turned⟩)
  · try simp only [decide_eq_true_eq, decide_eq_false_iff_not, Bool.not_eq_true', Bool.not_eq_false'] at c17
    refine WC.seq ?_
    refine WC.region ?_
    refine WL.val (OV.eql rfl rfl) rfl ?_
    refine WL.val (OV.assign rfl) rfl ?_
    refine WL.nil ?_
    refine WX.next ?_
    refine WC.cond rfl (fun c46 => ?_) (fun c46 => ?_)
    · try simp only [decide_eq_true_eq, decide_eq_false_iff_not, Bool.not_eq_true', Bool.not_eq_false'] at c46
      refine WC.drawn (fun w' => w'.heap[b2]? = some (.cells [ptr g.r, ptr q.p].toArray 28 (0, 0)) ∧ w'.heap[b3]? = some (.cells (opC kind parts stop two ra rm rc a1 m1 c1 a2 m2 c2).toArray 34 (0, 0))) [] (by kernel_rfl) (by kernel_rfl) (m := 8) rfl ?_
      first
      | (refine WH.free 0 rfl (by kernel_rfl) (by kernel_rfl) (by kernel_rfl) rfl (fun _ => (fun _ hw => ⟨hw.it _ (.tail _ (.tail _ (.head _))), hw.it _ (.tail _ (.head _))⟩)) (OV.fieldAddr0 (off := 0) rfl T.u28 rfl) rfl (listed' := [true, false, false, false, false, false, false, false]) rfl ?_)
      | (refine WH.free 0 rfl (by kernel_rfl) (by kernel_rfl) (by kernel_rfl) rfl (fun _ => (fun _ hw => ⟨hw.it _ (.tail _ (.tail _ (.head _))), hw.it _ (.tail _ (.head _))⟩)) (OV.fieldAddr (off := 0) rfl T.u28 rfl) rfl (listed' := [true, false, false, false, false, false, false, false]) rfl ?_)
      refine WH.take 1 rfl (by kernel_rfl) (by kernel_rfl) (by kernel_rfl) (by kernel_rfl) (fun _ hw => ⟨hw.it _ (.tail _ (.tail _ (.head _))), hw.it _ (.tail _ (.head _))⟩) (OV.load1 (v := ptr g.r) rfl T.u25 rfl (fun _ hw => (cell_at hw.1 (o := 0) rfl).1)) rfl (listed' := [true, true, false, false, false, false, false, false]) rfl ?_
      first
      | (refine WH.free 3 rfl (by kernel_rfl) (by kernel_rfl) (by kernel_rfl) rfl (fun _ => (fun _ hw => ⟨hw.it _ (.tail _ (.tail _ (.head _))), hw.it _ (.tail _ (.head _))⟩)) (OV.fieldAddr0 (off := 1) rfl T.u28 rfl) rfl (listed' := [true, true, false, true, false, false, false, false]) rfl ?_)
      | (refine WH.free 3 rfl (by kernel_rfl) (by kernel_rfl) (by kernel_rfl) rfl (fun _ => (fun _ hw => ⟨hw.it _ (.tail _ (.tail _ (.head _))), hw.it _ (.tail _ (.head _))⟩)) (OV.fieldAddr (off := 1) rfl T.u28 rfl) rfl (listed' := [true, true, false, true, false, false, false, false]) rfl ?_)
      refine WH.take 4 rfl (by kernel_rfl) (by kernel_rfl) (by kernel_rfl) (by kernel_rfl) (fun _ hw => ⟨hw.it _ (.tail _ (.tail _ (.head _))), hw.it _ (.tail _ (.head _))⟩) (OV.load1 (v := ptr q.p) rfl T.u26 rfl (fun _ hw => (cell_at hw.1 (o := 1) rfl).1)) rfl (listed' := [true, true, false, true, true, false, false, false]) rfl ?_
      refine WH.only 2 rfl (by kernel_rfl) (listed' := [true, true, true, true, true, false, false, false]) rfl (fl' := false) rfl ?_
      refine WL.focus (ow' := relA g ++ ([row 3 1 yr.a yr.l.length yr.c (ints yr.l), own b3 (.cells (opC kind parts stop two ra rm rc a1 m1 c1 a2 m2 c2).toArray 34 (0, 0)), own b2 (.cells [ptr g.r, ptr q.p].toArray 28 (0, 0))] ++ (refA q))) (perm_cat [[row 3 1 yr.a yr.l.length yr.c (ints yr.l), own b3 (.cells (opC kind parts stop two ra rm rc a1 m1 c1 a2 m2 c2).toArray 34 (0, 0)), own b2 (.cells [ptr g.r, ptr q.p].toArray 28 (0, 0))], relA g, refA q] [1, 0, 2] (by decide) rfl) ?_
      refine WL.callTA (ι := Unit) (vs := [ptr g.r]) (vv := fun _ => .int .i64 (g.ns.length : Int)) (pp := fun _ => True) (relA g) (AA := fun _ => relA (turnG g)) rfl (by kernel_rfl) rfl rfl (fun w' hw' hH => (turn_calls g t.ok w' hH).mono (fun en w'' ⟨h1, h2⟩ => ⟨(), h1, trivial, h2⟩)) ?_
      rintro _ _
      refine WL.focus (ow' := [row 3 1 yr.a yr.l.length yr.c (ints yr.l), own b3 (.cells (opC kind parts stop two ra rm rc a1 m1 c1 a2 m2 c2).toArray 34 (0, 0)), own b2 (.cells [ptr g.r, ptr q.p].toArray 28 (0, 0))] ++ (relA (turnG g) ++ (refA q))) (perm_cat [relA (turnG g), [row 3 1 yr.a yr.l.length yr.c (ints yr.l), own b3 (.cells (opC kind parts stop two ra rm rc a1 m1 c1 a2 m2 c2).toArray 34 (0, 0)), own b2 (.cells [ptr g.r, ptr q.p].toArray 28 (0, 0))], refA q] [1, 0, 2] (by decide) rfl) ?_
      refine WL.nil ?_
      refine WX.contD (by kernel_rfl) (fun _ => (fun _ hw => ⟨hw.it _ (.tail _ (.tail _ (.head _))), hw.it _ (.tail _ (.head _))⟩)) ?_
      refine WH.only 5 rfl (by kernel_rfl) (listed' := [true, true, true, true, true, true, false, false]) rfl (fl' := false) rfl ?_
      refine WL.focus (ow' := refA q ++ ([row 3 1 yr.a yr.l.length yr.c (ints yr.l), own b3 (.cells (opC kind parts stop two ra rm rc a1 m1 c1 a2 m2 c2).toArray 34 (0, 0)), own b2 (.cells [ptr g.r, ptr q.p].toArray 28 (0, 0))] ++ (relA (turnG g)))) (perm_cat [[row 3 1 yr.a yr.l.length yr.c (ints yr.l), own b3 (.cells (opC kind parts stop two ra rm rc a1 m1 c1 a2 m2 c2).toArray 34 (0, 0)), own b2 (.cells [ptr g.r, ptr q.p].toArray 28 (0, 0))], relA (turnG g), refA q] [2, 0, 1] (by decide) rfl) ?_
      refine WL.callTA (ι := Unit) (vs := [ptr q.p]) (vv := fun _ => .int .i64 (n4 q.ins : Int)) (pp := fun _ => True) (refA q) (AA := fun _ => refA (turnQ q)) rfl (by kernel_rfl) rfl rfl (fun w' hw' hH => (refTurn_calls q t.qok w' hH).mono (fun en w'' ⟨h1, h2⟩ => ⟨(), h1, trivial, h2⟩)) ?_
      rintro _ _
      refine WL.focus (ow' := [row 3 1 yr.a yr.l.length yr.c (ints yr.l), own b3 (.cells (opC kind parts stop two ra rm rc a1 m1 c1 a2 m2 c2).toArray 34 (0, 0)), own b2 (.cells [ptr g.r, ptr q.p].toArray 28 (0, 0))] ++ (relA (turnG g) ++ (refA (turnQ q)))) (perm_cat [refA (turnQ q), [row 3 1 yr.a yr.l.length yr.c (ints yr.l), own b3 (.cells (opC kind parts stop two ra rm rc a1 m1 c1 a2 m2 c2).toArray 34 (0, 0)), own b2 (.cells [ptr g.r, ptr q.p].toArray 28 (0, 0))], relA (turnG g)] [1, 2, 0] (by decide) rfl) ?_
      refine WL.nil ?_
      refine WX.contD (by kernel_rfl) (fun _ => (fun _ hw => ⟨hw.it _ (.tail _ (.tail _ (.head _))), hw.it _ (.tail _ (.head _))⟩)) ?_
      refine WH.free 6 rfl (by kernel_rfl) (by kernel_rfl) (by kernel_rfl) rfl (fun _ => (fun _ hw => ⟨hw.it _ (.tail _ (.tail _ (.head _))), hw.it _ (.tail _ (.head _))⟩)) (OV.eql rfl rfl) rfl (listed' := [true, true, true, true, true, true, true, false]) rfl ?_
      refine WH.free 7 rfl (by kernel_rfl) (by kernel_rfl) (by kernel_rfl) rfl (fun _ => (fun _ hw => ⟨hw.it _ (.tail _ (.tail _ (.head _))), hw.it _ (.tail _ (.head _))⟩)) (OV.assign rfl) rfl (listed' := [true, true, true, true, true, true, true, true]) rfl ?_
      refine WH.done (by kernel_rfl) ?_
      refine WX.known (t := 6) (b := true) rfl ?_ ?_
      · exact decide_eq_true (by rw [t.ns])
      refine WX.block_normal ?_
      refine WX.next ?_
      refine WC.seq ?_
      refine WC.seq ?_
      refine WC.region ?_
      refine WL.val (OV.move rfl) rfl ?_
      refine WL.val (OV.not rfl) rfl ?_
      refine WL.val (OV.move rfl) rfl ?_
      refine WL.known (t := 104) (b := false) rfl (by rfl) ?_
      refine WL.go (b := false) rfl rfl rfl ?_
      refine WL.val (OV.move rfl) rfl ?_
      refine WL.go (b := false) rfl rfl rfl ?_
      first
      | (refine WL.val (OV.fieldAddr0 (off := 4) rfl T.u34 rfl) rfl ?_)
      | (refine WL.val (OV.fieldAddr (off := 4) rfl T.u34 rfl) rfl ?_)
      refine WL.go (b := false) rfl rfl rfl ?_
      refine WL.val (OV.load1 (v := .slice ra rm rc) rfl T.u32 rfl (fun _ hw => (cell_at (hw.it _ (.tail _ (.head _))) (o := 4) rfl).1)) rfl ?_
      refine WL.go (b := false) rfl rfl rfl ?_
      refine WL.callTA (ι := Col) (vs := [.slice ra rm rc]) (vv := encC) (pp := fun y => y.l = rr ++ [71, 72, 73]) [] (AA := fun y => [row 3 1 y.a y.l.length y.c (ints y.l)]) rfl (by kernel_rfl) rfl rfl (fun w' hw' _ => (roomy_calls rr ra rm rc (by omega) w' (hr0.satA hne0 hw')).mono (fun en w'' ⟨y, h1, h2, h3⟩ => ⟨y, h1, h2, h3⟩)) ?_
      intro yd hyd
      have hyd : yd.l = rr ++ [71, 72, 73] := hyd
      have hdl : yd.l.length = rr.length + 3 := by rw [hyd]; simp
      refine WL.go (b := false) rfl rfl rfl ?_
      refine WL.call0 (v := .bool true) (vs := [encC yr, encC yd]) (by kernel_rfl) rfl rfl (fun w' hw' => (same_calls yr.l yd.l yr.a yd.a yr.l.length yr.c yd.l.length yd.c (by omega) (by omega) w' (RI.of_row (c := yr.c) hw' (.tail _ (.head _))) (RI.of_row (c := yd.c) hw' (.head _))).mono (fun en w'' ⟨h1, h2⟩ => ⟨h1.trans (by rw [decide_eq_true (hyr.trans hyd.symm)]), h2⟩)) ?_
      refine WL.go (b := false) rfl rfl rfl ?_
      refine WL.val (OV.not rfl) rfl ?_
      refine WL.val (OV.pickF rfl rfl) rfl ?_
      refine WL.nil ?_
      refine WX.next ?_
      refine WC.condF (show _ = some (Value.bool false) from by rfl) ?_
      refine WC.skip ?_
      refine WX.next ?_
      refine WC.seq ?_
      refine WC.seq ?_
      refine WC.region ?_
      refine WL.val (OV.assign rfl) rfl ?_
      refine WL.nil ?_
      refine WX.next ?_
      refine WC.block ?_
      refine WC.loop2 (fun (i : Nat) (xs : List Value) => [(5, .slice yr.a yr.l.length yr.c), (11, .int .i64 (i : Int))])
          (fun i xs w' => (i ≤ yr.l.length ∧ xs.length = yr.l.length) ∧ Sat w (DD (relA g ++ refA q)) (fun b => b < w.heap.size ∧ ¬ DD (relA g ++ refA q) b) w (row 3 1 yr.a yr.l.length yr.c xs :: own b3 (.cells (opC kind parts stop two ra rm rc a1 m1 c1 a2 m2 c2).toArray 34 (0, 0)) :: own b2 (.cells [ptr g.r, ptr q.p].toArray 28 (0, 0)) :: (relA (turnG g) ++ refA (turnQ q))) w')
          (fun i _ => yr.l.length - i) 0 (ints yr.l) ⟨rfl, rfl, trivial⟩ (fun w' hw => ⟨⟨by omega, ints_length _⟩, hw.drop⟩) ?_
      intro i xs
      refine WC.pure (fun hi => ?_)
      obtain ⟨hi, hxl⟩ := hi
      refine WC.seq ?_
      refine WC.seq ?_
      refine WC.region ?_
      refine WL.val (OV.move rfl) rfl ?_
      refine WL.val (OV.move rfl) rfl ?_
      first
      | (refine WL.val (OV.lenSlice rfl T.u32) rfl ?_)
      | (refine WL.val (OV.lenStr rfl T.u32) rfl ?_)
      refine WL.val (OV.lss rfl rfl) rfl ?_
      refine WL.nil ?_
      refine WX.next ?_
      refine WC.cond rfl (fun c115 => ?_) (fun c115 => ?_)
      · try simp only [decide_eq_true_eq, decide_eq_false_iff_not, Bool.not_eq_true', Bool.not_eq_false'] at c115
        refine WC.skip ?_
        refine WX.next ?_
        refine WC.seq ?_
        refine WC.block ?_
        refine WC.region ?_
        refine WL.val (OV.move rfl) rfl ?_
        refine WL.val (OV.move rfl) rfl ?_
        refine WL.val ((OV.indexSliceA (a := ⟨br, 0, none⟩) (i := i) (show _ = some (Value.slice (some ⟨br, 0, none⟩) yr.l.length yr.c) by rw [← hbr]; rfl) rfl T.u32 T.z3 (by omega)).cast (u := .pointer (some ⟨br, i, none⟩)) (by rw [add_off, Nat.zero_add])) rfl ?_
        refine WL.storeRow (o := i) rfl hbr rfl rfl T.z3 (by omega) ?_
        refine WL.nil ?_
        refine WX.block_normal ?_
        refine WX.next ?_
        refine WC.region ?_
        refine WL.val (OV.move rfl) rfl ?_
        refine WL.val (OV.addN (j := 1) rfl rfl (by omega)) rfl ?_
        refine WL.val (OV.assign rfl) rfl ?_
        refine WL.nil ?_
        exact WX.round2 (i + 1) (xs.set i (.int .i64 99)) ⟨rfl, rfl, trivial⟩ (fun w' hw => ⟨⟨by omega, by simpa using hxl⟩, hw⟩) (by show yr.l.length - (i + 1) < yr.l.length - i; omega)
      · try simp only [decide_eq_true_eq, decide_eq_false_iff_not, Bool.not_eq_true', Bool.not_eq_false'] at c115
        refine WC.exit ?_
        refine WX.then_exit ?_
        refine WX.then_exit ?_
        refine WX.block_hit ?_
        refine WX.next ?_
        refine WC.seq ?_
        refine WC.region ?_
        refine WL.val (OV.assign rfl) rfl ?_
        refine WL.nil ?_
        refine WX.next ?_
        refine WC.ret ?_
        exact WX.ret1 rfl rfl rfl (fun w' hw => ⟨rfl, (turnG g), (turnQ q), t.turn, rfl, rfl, by simp [turnG], by show q.cols.length ≤ _; omega, hw.drop.drop.drop.turned⟩)
    · try simp only [decide_eq_true_eq, decide_eq_false_iff_not, Bool.not_eq_true', Bool.not_eq_false'] at c46
      refine WC.seq ?_
      refine WC.region ?_
      refine WL.val (OV.eql rfl rfl) rfl ?_
      refine WL.val (OV.assign rfl) rfl ?_
      refine WL.nil ?_
      refine WX.next ?_
      refine WC.cond rfl (fun c55 => ?_) (fun c55 => ?_)
      · try simp only [decide_eq_true_eq, decide_eq_false_iff_not, Bool.not_eq_true', Bool.not_eq_false'] at c55
        refine WC.drawn (fun w' => w'.heap[b2]? = some (.cells [ptr g.r, ptr q.p].toArray 28 (0, 0)) ∧ w'.heap[b3]? = some (.cells (opC kind parts stop two ra rm rc a1 m1 c1 a2 m2 c2).toArray 34 (0, 0))) [] (by kernel_rfl) (by kernel_rfl) (m := 15) rfl ?_
        first
        | (refine WH.free 0 rfl (by kernel_rfl) (by kernel_rfl) (by kernel_rfl) rfl (fun _ => (fun _ hw => ⟨hw.it _ (.tail _ (.tail _ (.head _))), hw.it _ (.tail _ (.head _))⟩)) (OV.fieldAddr0 (off := 0) rfl T.u28 rfl) rfl (listed' := [true, false, false, false, false, false, false, false, false, false, false, false, false, false, false]) rfl ?_)
        | (refine WH.free 0 rfl (by kernel_rfl) (by kernel_rfl) (by kernel_rfl) rfl (fun _ => (fun _ hw => ⟨hw.it _ (.tail _ (.tail _ (.head _))), hw.it _ (.tail _ (.head _))⟩)) (OV.fieldAddr (off := 0) rfl T.u28 rfl) rfl (listed' := [true, false, false, false, false, false, false, false, false, false, false, false, false, false, false]) rfl ?_)
        refine WH.take 1 rfl (by kernel_rfl) (by kernel_rfl) (by kernel_rfl) (by kernel_rfl) (fun _ hw => ⟨hw.it _ (.tail _ (.tail _ (.head _))), hw.it _ (.tail _ (.head _))⟩) (OV.load1 (v := ptr g.r) rfl T.u25 rfl (fun _ hw => (cell_at hw.1 (o := 0) rfl).1)) rfl (listed' := [true, true, false, false, false, false, false, false, false, false, false, false, false, false, false]) rfl ?_
        refine WH.free 2 rfl (by kernel_rfl) (by kernel_rfl) (by kernel_rfl) rfl (fun _ => (fun _ hw => ⟨hw.it _ (.tail _ (.tail _ (.head _))), hw.it _ (.tail _ (.head _))⟩)) (OV.move rfl) rfl (listed' := [true, true, true, false, false, false, false, false, false, false, false, false, false, false, false]) rfl ?_
        first
        | (refine WH.free 3 rfl (by kernel_rfl) (by kernel_rfl) (by kernel_rfl) rfl (fun _ => (fun _ hw => ⟨hw.it _ (.tail _ (.tail _ (.head _))), hw.it _ (.tail _ (.head _))⟩)) (OV.fieldAddr0 (off := 4) rfl T.u34 rfl) rfl (listed' := [true, true, true, true, false, false, false, false, false, false, false, false, false, false, false]) rfl ?_)
        | (refine WH.free 3 rfl (by kernel_rfl) (by kernel_rfl) (by kernel_rfl) rfl (fun _ => (fun _ hw => ⟨hw.it _ (.tail _ (.tail _ (.head _))), hw.it _ (.tail _ (.head _))⟩)) (OV.fieldAddr (off := 4) rfl T.u34 rfl) rfl (listed' := [true, true, true, true, false, false, false, false, false, false, false, false, false, false, false]) rfl ?_)
        refine WH.take 4 rfl (by kernel_rfl) (by kernel_rfl) (by kernel_rfl) (by kernel_rfl) (fun _ hw => ⟨hw.it _ (.tail _ (.tail _ (.head _))), hw.it _ (.tail _ (.head _))⟩) (OV.load1 (v := .slice ra rm rc) rfl T.u32 rfl (fun _ hw => (cell_at hw.2 (o := 4) rfl).1)) rfl (listed' := [true, true, true, true, true, false, false, false, false, false, false, false, false, false, false]) rfl ?_
        first
        | (refine WH.free 5 rfl (by kernel_rfl) (by kernel_rfl) (by kernel_rfl) rfl (fun _ => (fun _ hw => ⟨hw.it _ (.tail _ (.tail _ (.head _))), hw.it _ (.tail _ (.head _))⟩)) (OV.lenSlice rfl T.u32) rfl (listed' := [true, true, true, true, true, true, false, false, false, false, false, false, false, false, false]) rfl ?_)
        | (refine WH.free 5 rfl (by kernel_rfl) (by kernel_rfl) (by kernel_rfl) rfl (fun _ => (fun _ hw => ⟨hw.it _ (.tail _ (.tail _ (.head _))), hw.it _ (.tail _ (.head _))⟩)) (OV.lenStr rfl T.u32) rfl (listed' := [true, true, true, true, true, true, false, false, false, false, false, false, false, false, false]) rfl ?_)
        refine WH.free 6 rfl (by kernel_rfl) (by kernel_rfl) (by kernel_rfl) rfl (fun _ => (fun _ hw => ⟨hw.it _ (.tail _ (.tail _ (.head _))), hw.it _ (.tail _ (.head _))⟩)) (OV.sliceTo (h := rm) rfl T.u32 T.z3 rfl (by omega)) rfl (listed' := [true, true, true, true, true, true, true, false, false, false, false, false, false, false, false]) rfl ?_
        first
        | (refine WH.free 8 rfl (by kernel_rfl) (by kernel_rfl) (by kernel_rfl) rfl (fun _ => (fun _ hw => ⟨hw.it _ (.tail _ (.tail _ (.head _))), hw.it _ (.tail _ (.head _))⟩)) (OV.fieldAddr0 (off := 1) rfl T.u28 rfl) rfl (listed' := [true, true, true, true, true, true, true, false, true, false, false, false, false, false, false]) rfl ?_)
        | (refine WH.free 8 rfl (by kernel_rfl) (by kernel_rfl) (by kernel_rfl) rfl (fun _ => (fun _ hw => ⟨hw.it _ (.tail _ (.tail _ (.head _))), hw.it _ (.tail _ (.head _))⟩)) (OV.fieldAddr (off := 1) rfl T.u28 rfl) rfl (listed' := [true, true, true, true, true, true, true, false, true, false, false, false, false, false, false]) rfl ?_)
        refine WH.take 9 rfl (by kernel_rfl) (by kernel_rfl) (by kernel_rfl) (by kernel_rfl) (fun _ hw => ⟨hw.it _ (.tail _ (.tail _ (.head _))), hw.it _ (.tail _ (.head _))⟩) (OV.load1 (v := ptr q.p) rfl T.u26 rfl (fun _ hw => (cell_at hw.1 (o := 1) rfl).1)) rfl (listed' := [true, true, true, true, true, true, true, false, true, true, false, false, false, false, false]) rfl ?_
        first
        | (refine WH.free 10 rfl (by kernel_rfl) (by kernel_rfl) (by kernel_rfl) rfl (fun _ => (fun _ hw => ⟨hw.it _ (.tail _ (.tail _ (.head _))), hw.it _ (.tail _ (.head _))⟩)) (OV.fieldAddr0 (off := 4) rfl T.u34 rfl) rfl (listed' := [true, true, true, true, true, true, true, false, true, true, true, false, false, false, false]) rfl ?_)
        | (refine WH.free 10 rfl (by kernel_rfl) (by kernel_rfl) (by kernel_rfl) rfl (fun _ => (fun _ hw => ⟨hw.it _ (.tail _ (.tail _ (.head _))), hw.it _ (.tail _ (.head _))⟩)) (OV.fieldAddr (off := 4) rfl T.u34 rfl) rfl (listed' := [true, true, true, true, true, true, true, false, true, true, true, false, false, false, false]) rfl ?_)
        refine WH.take 11 rfl (by kernel_rfl) (by kernel_rfl) (by kernel_rfl) (by kernel_rfl) (fun _ hw => ⟨hw.it _ (.tail _ (.tail _ (.head _))), hw.it _ (.tail _ (.head _))⟩) (OV.load1 (v := .slice ra rm rc) rfl T.u32 rfl (fun _ hw => (cell_at hw.2 (o := 4) rfl).1)) rfl (listed' := [true, true, true, true, true, true, true, false, true, true, true, true, false, false, false]) rfl ?_
        refine WH.only 7 rfl (by kernel_rfl) (listed' := [true, true, true, true, true, true, true, true, true, true, true, true, false, false, false]) rfl (fl' := false) rfl ?_
        refine WL.call0 (vs := [ptr g.r, .slice yr.a rm yr.c]) (v := .int .i64 (partOf g.es rr : Int)) (by kernel_rfl) rfl rfl (fun w' hw' => part_calls g t.ok rr yr.a rm yr.c hi (by omega) w' ((hyr ▸ RI.of_row (c := yr.c) hw' (.head _)).pre hr0.1) (Hw.Sat.holds (A := relA g) hw'.drop.drop.drop)) ?_
        refine WL.nil ?_
        refine WX.contD (by kernel_rfl) (fun _ => (fun _ hw => ⟨hw.it _ (.tail _ (.tail _ (.head _))), hw.it _ (.tail _ (.head _))⟩)) ?_
        refine WH.only 12 rfl (by kernel_rfl) (listed' := [true, true, true, true, true, true, true, true, true, true, true, true, true, false, false]) rfl (fl' := false) rfl ?_
        refine WL.call0 (vs := [ptr q.p, .slice ra rm rc]) (v := .int .i64 (partL (refL q) rr : Int)) (by kernel_rfl) rfl rfl (fun w' hw' => refPart_calls q t.qok rr ra rm rc (by omega) w' (hr0.satA hne0 hw') (Hw.Sat.part (List.sublist_append_right _ _) hw'.drop.drop.drop).holdsAll) ?_
        refine WL.nil ?_
        refine WX.contD (by kernel_rfl) (fun _ => (fun _ hw => ⟨hw.it _ (.tail _ (.tail _ (.head _))), hw.it _ (.tail _ (.head _))⟩)) ?_
        refine WH.free 13 rfl (by kernel_rfl) (by kernel_rfl) (by kernel_rfl) rfl (fun _ => (fun _ hw => ⟨hw.it _ (.tail _ (.tail _ (.head _))), hw.it _ (.tail _ (.head _))⟩)) (OV.eql rfl rfl) rfl (listed' := [true, true, true, true, true, true, true, true, true, true, true, true, true, true, false]) rfl ?_
        refine WH.free 14 rfl (by kernel_rfl) (by kernel_rfl) (by kernel_rfl) rfl (fun _ => (fun _ hw => ⟨hw.it _ (.tail _ (.tail _ (.head _))), hw.it _ (.tail _ (.head _))⟩)) (OV.assign rfl) rfl (listed' := [true, true, true, true, true, true, true, true, true, true, true, true, true, true, true]) rfl ?_
        refine WH.done (by kernel_rfl) ?_
        refine WX.known (t := 6) (b := true) rfl ?_ ?_
        · exact decide_eq_true (by rw [t.part])
        refine WX.block_normal ?_
        refine WX.next ?_
        refine WC.seq ?_
        refine WC.seq ?_
        refine WC.region ?_
        refine WL.val (OV.move rfl) rfl ?_
        refine WL.val (OV.not rfl) rfl ?_
        refine WL.val (OV.move rfl) rfl ?_
        refine WL.known (t := 104) (b := false) rfl (by rfl) ?_
        refine WL.go (b := false) rfl rfl rfl ?_
        refine WL.val (OV.move rfl) rfl ?_
        refine WL.go (b := false) rfl rfl rfl ?_
        first
        | (refine WL.val (OV.fieldAddr0 (off := 4) rfl T.u34 rfl) rfl ?_)
        | (refine WL.val (OV.fieldAddr (off := 4) rfl T.u34 rfl) rfl ?_)
        refine WL.go (b := false) rfl rfl rfl ?_
        refine WL.val (OV.load1 (v := .slice ra rm rc) rfl T.u32 rfl (fun _ hw => (cell_at (hw.it _ (.tail _ (.head _))) (o := 4) rfl).1)) rfl ?_
        refine WL.go (b := false) rfl rfl rfl ?_
        refine WL.callTA (ι := Col) (vs := [.slice ra rm rc]) (vv := encC) (pp := fun y => y.l = rr ++ [71, 72, 73]) [] (AA := fun y => [row 3 1 y.a y.l.length y.c (ints y.l)]) rfl (by kernel_rfl) rfl rfl (fun w' hw' _ => (roomy_calls rr ra rm rc (by omega) w' (hr0.satA hne0 hw')).mono (fun en w'' ⟨y, h1, h2, h3⟩ => ⟨y, h1, h2, h3⟩)) ?_
        intro yd hyd
        have hyd : yd.l = rr ++ [71, 72, 73] := hyd
        have hdl : yd.l.length = rr.length + 3 := by rw [hyd]; simp
        refine WL.go (b := false) rfl rfl rfl ?_
        refine WL.call0 (v := .bool true) (vs := [encC yr, encC yd]) (by kernel_rfl) rfl rfl (fun w' hw' => (same_calls yr.l yd.l yr.a yd.a yr.l.length yr.c yd.l.length yd.c (by omega) (by omega) w' (RI.of_row (c := yr.c) hw' (.tail _ (.head _))) (RI.of_row (c := yd.c) hw' (.head _))).mono (fun en w'' ⟨h1, h2⟩ => ⟨h1.trans (by rw [decide_eq_true (hyr.trans hyd.symm)]), h2⟩)) ?_
        refine WL.go (b := false) rfl rfl rfl ?_
        refine WL.val (OV.not rfl) rfl ?_
        refine WL.val (OV.pickF rfl rfl) rfl ?_
        refine WL.nil ?_
        refine WX.next ?_
        refine WC.condF (show _ = some (Value.bool false) from by rfl) ?_
        refine WC.skip ?_
        refine WX.next ?_
        refine WC.seq ?_
        refine WC.seq ?_
        refine WC.region ?_
        refine WL.val (OV.assign rfl) rfl ?_
        refine WL.nil ?_
        refine WX.next ?_
        refine WC.block ?_
        refine WC.loop2 (fun (i : Nat) (xs : List Value) => [(5, .slice yr.a yr.l.length yr.c), (11, .int .i64 (i : Int))])
            (fun i xs w' => (i ≤ yr.l.length ∧ xs.length = yr.l.length) ∧ Sat w (DD (relA g ++ refA q)) (fun b => b < w.heap.size ∧ ¬ DD (relA g ++ refA q) b) w (row 3 1 yr.a yr.l.length yr.c xs :: own b3 (.cells (opC kind parts stop two ra rm rc a1 m1 c1 a2 m2 c2).toArray 34 (0, 0)) :: own b2 (.cells [ptr g.r, ptr q.p].toArray 28 (0, 0)) :: (relA g ++ refA q)) w')
            (fun i _ => yr.l.length - i) 0 (ints yr.l) ⟨rfl, rfl, trivial⟩ (fun w' hw => ⟨⟨by omega, ints_length _⟩, hw.drop⟩) ?_
        intro i xs
        refine WC.pure (fun hi => ?_)
        obtain ⟨hi, hxl⟩ := hi
        refine WC.seq ?_
        refine WC.seq ?_
        refine WC.region ?_
        refine WL.val (OV.move rfl) rfl ?_
        refine WL.val (OV.move rfl) rfl ?_
        first
        | (refine WL.val (OV.lenSlice rfl T.u32) rfl ?_)
        | (refine WL.val (OV.lenStr rfl T.u32) rfl ?_)
        refine WL.val (OV.lss rfl rfl) rfl ?_
        refine WL.nil ?_
        refine WX.next ?_
        refine WC.cond rfl (fun c115 => ?_) (fun c115 => ?_)
        · try simp only [decide_eq_true_eq, decide_eq_false_iff_not, Bool.not_eq_true', Bool.not_eq_false'] at c115
          refine WC.skip ?_
          refine WX.next ?_
          refine WC.seq ?_
          refine WC.block ?_
          refine WC.region ?_
          refine WL.val (OV.move rfl) rfl ?_
          refine WL.val (OV.move rfl) rfl ?_
          refine WL.val ((OV.indexSliceA (a := ⟨br, 0, none⟩) (i := i) (show _ = some (Value.slice (some ⟨br, 0, none⟩) yr.l.length yr.c) by rw [← hbr]; rfl) rfl T.u32 T.z3 (by omega)).cast (u := .pointer (some ⟨br, i, none⟩)) (by rw [add_off, Nat.zero_add])) rfl ?_
          refine WL.storeRow (o := i) rfl hbr rfl rfl T.z3 (by omega) ?_
          refine WL.nil ?_
          refine WX.block_normal ?_
          refine WX.next ?_
          refine WC.region ?_
          refine WL.val (OV.move rfl) rfl ?_
          refine WL.val (OV.addN (j := 1) rfl rfl (by omega)) rfl ?_
          refine WL.val (OV.assign rfl) rfl ?_
          refine WL.nil ?_
          exact WX.round2 (i + 1) (xs.set i (.int .i64 99)) ⟨rfl, rfl, trivial⟩ (fun w' hw => ⟨⟨by omega, by simpa using hxl⟩, hw⟩) (by show yr.l.length - (i + 1) < yr.l.length - i; omega)
        · try simp only [decide_eq_true_eq, decide_eq_false_iff_not, Bool.not_eq_true', Bool.not_eq_false'] at c115
          refine WC.exit ?_
          refine WX.then_exit ?_
          refine WX.then_exit ?_
          refine WX.block_hit ?_
          refine WX.next ?_
          refine WC.seq ?_
          refine WC.region ?_
          refine WL.val (OV.assign rfl) rfl ?_
          refine WL.nil ?_
          refine WX.next ?_
          refine WC.ret ?_
          exact WX.ret1 rfl rfl rfl (fun w' hw => ⟨rfl, g, q, t, rfl, rfl, by omega, by omega, hw.drop.drop.drop.turned⟩)
      · try simp only [decide_eq_true_eq, decide_eq_false_iff_not, Bool.not_eq_true', Bool.not_eq_false'] at c55
        refine WC.seq ?_
        refine WC.region ?_
        refine WL.val (OV.eql rfl rfl) rfl ?_
        refine WL.val (OV.assign rfl) rfl ?_
        refine WL.nil ?_
        refine WX.next ?_
        refine WC.cond rfl (fun c71 => ?_) (fun c71 => ?_)
        · try simp only [decide_eq_true_eq, decide_eq_false_iff_not, Bool.not_eq_true', Bool.not_eq_false'] at c71
          refine WC.drawn (fun w' => w'.heap[b2]? = some (.cells [ptr g.r, ptr q.p].toArray 28 (0, 0)) ∧ w'.heap[b3]? = some (.cells (opC kind parts stop two ra rm rc a1 m1 c1 a2 m2 c2).toArray 34 (0, 0))) [] (by kernel_rfl) (by kernel_rfl) (m := 12) rfl ?_
          first
          | (refine WH.free 0 rfl (by kernel_rfl) (by kernel_rfl) (by kernel_rfl) rfl (fun _ => (fun _ hw => ⟨hw.it _ (.tail _ (.tail _ (.head _))), hw.it _ (.tail _ (.head _))⟩)) (OV.fieldAddr0 (off := 0) rfl T.u28 rfl) rfl (listed' := [true, false, false, false, false, false, false, false, false, false, false, false]) rfl ?_)
          | (refine WH.free 0 rfl (by kernel_rfl) (by kernel_rfl) (by kernel_rfl) rfl (fun _ => (fun _ hw => ⟨hw.it _ (.tail _ (.tail _ (.head _))), hw.it _ (.tail _ (.head _))⟩)) (OV.fieldAddr (off := 0) rfl T.u28 rfl) rfl (listed' := [true, false, false, false, false, false, false, false, false, false, false, false]) rfl ?_)
          refine WH.take 1 rfl (by kernel_rfl) (by kernel_rfl) (by kernel_rfl) (by kernel_rfl) (fun _ hw => ⟨hw.it _ (.tail _ (.tail _ (.head _))), hw.it _ (.tail _ (.head _))⟩) (OV.load1 (v := ptr g.r) rfl T.u25 rfl (fun _ hw => (cell_at hw.1 (o := 0) rfl).1)) rfl (listed' := [true, true, false, false, false, false, false, false, false, false, false, false]) rfl ?_
          first
          | (refine WH.free 2 rfl (by kernel_rfl) (by kernel_rfl) (by kernel_rfl) rfl (fun _ => (fun _ hw => ⟨hw.it _ (.tail _ (.tail _ (.head _))), hw.it _ (.tail _ (.head _))⟩)) (OV.fieldAddr0 (off := 1) rfl T.u34 rfl) rfl (listed' := [true, true, true, false, false, false, false, false, false, false, false, false]) rfl ?_)
          | (refine WH.free 2 rfl (by kernel_rfl) (by kernel_rfl) (by kernel_rfl) rfl (fun _ => (fun _ hw => ⟨hw.it _ (.tail _ (.tail _ (.head _))), hw.it _ (.tail _ (.head _))⟩)) (OV.fieldAddr (off := 1) rfl T.u34 rfl) rfl (listed' := [true, true, true, false, false, false, false, false, false, false, false, false]) rfl ?_)
          refine WH.take 3 rfl (by kernel_rfl) (by kernel_rfl) (by kernel_rfl) (by kernel_rfl) (fun _ hw => ⟨hw.it _ (.tail _ (.tail _ (.head _))), hw.it _ (.tail _ (.head _))⟩) (OV.load1 (v := .int .i64 parts) rfl T.u3 rfl (fun _ hw => (cell_at hw.2 (o := 1) rfl).1)) rfl (listed' := [true, true, true, true, false, false, false, false, false, false, false, false]) rfl ?_
          first
          | (refine WH.free 5 rfl (by kernel_rfl) (by kernel_rfl) (by kernel_rfl) rfl (fun _ => (fun _ hw => ⟨hw.it _ (.tail _ (.tail _ (.head _))), hw.it _ (.tail _ (.head _))⟩)) (OV.fieldAddr0 (off := 1) rfl T.u28 rfl) rfl (listed' := [true, true, true, true, false, true, false, false, false, false, false, false]) rfl ?_)
          | (refine WH.free 5 rfl (by kernel_rfl) (by kernel_rfl) (by kernel_rfl) rfl (fun _ => (fun _ hw => ⟨hw.it _ (.tail _ (.tail _ (.head _))), hw.it _ (.tail _ (.head _))⟩)) (OV.fieldAddr (off := 1) rfl T.u28 rfl) rfl (listed' := [true, true, true, true, false, true, false, false, false, false, false, false]) rfl ?_)
          refine WH.take 6 rfl (by kernel_rfl) (by kernel_rfl) (by kernel_rfl) (by kernel_rfl) (fun _ hw => ⟨hw.it _ (.tail _ (.tail _ (.head _))), hw.it _ (.tail _ (.head _))⟩) (OV.load1 (v := ptr q.p) rfl T.u26 rfl (fun _ hw => (cell_at hw.1 (o := 1) rfl).1)) rfl (listed' := [true, true, true, true, false, true, true, false, false, false, false, false]) rfl ?_
          first
          | (refine WH.free 7 rfl (by kernel_rfl) (by kernel_rfl) (by kernel_rfl) rfl (fun _ => (fun _ hw => ⟨hw.it _ (.tail _ (.tail _ (.head _))), hw.it _ (.tail _ (.head _))⟩)) (OV.fieldAddr0 (off := 1) rfl T.u34 rfl) rfl (listed' := [true, true, true, true, false, true, true, true, false, false, false, false]) rfl ?_)
          | (refine WH.free 7 rfl (by kernel_rfl) (by kernel_rfl) (by kernel_rfl) rfl (fun _ => (fun _ hw => ⟨hw.it _ (.tail _ (.tail _ (.head _))), hw.it _ (.tail _ (.head _))⟩)) (OV.fieldAddr (off := 1) rfl T.u34 rfl) rfl (listed' := [true, true, true, true, false, true, true, true, false, false, false, false]) rfl ?_)
          refine WH.take 8 rfl (by kernel_rfl) (by kernel_rfl) (by kernel_rfl) (by kernel_rfl) (fun _ hw => ⟨hw.it _ (.tail _ (.tail _ (.head _))), hw.it _ (.tail _ (.head _))⟩) (OV.load1 (v := .int .i64 parts) rfl T.u3 rfl (fun _ hw => (cell_at hw.2 (o := 1) rfl).1)) rfl (listed' := [true, true, true, true, false, true, true, true, true, false, false, false]) rfl ?_
          refine WH.only 4 rfl (by kernel_rfl) (listed' := [true, true, true, true, true, true, true, true, true, false, false, false]) rfl (fl' := false) rfl ?_
          refine WL.call0 (vs := [ptr g.r, .int .i64 parts]) (v := .int .i64 (lenOf g.es parts : Int)) (by kernel_rfl) rfl rfl (fun w' hw' => len_calls g t.ok parts w' (Hw.Sat.holds (A := relA g) hw'.drop.drop.drop)) ?_
          refine WL.nil ?_
          refine WX.contD (by kernel_rfl) (fun _ => (fun _ hw => ⟨hw.it _ (.tail _ (.tail _ (.head _))), hw.it _ (.tail _ (.head _))⟩)) ?_
          refine WH.only 9 rfl (by kernel_rfl) (listed' := [true, true, true, true, true, true, true, true, true, true, false, false]) rfl (fl' := false) rfl ?_
          refine WL.call0 (v := .int .i64 ((rowsQ q parts).length : Int)) (by kernel_rfl) rfl rfl (fun w' hw' => refLen_calls q t.qok parts w' (Hw.Sat.part (List.sublist_append_right _ _) hw'.drop.drop.drop).holdsAll) ?_
          refine WL.nil ?_
          refine WX.contD (by kernel_rfl) (fun _ => (fun _ hw => ⟨hw.it _ (.tail _ (.tail _ (.head _))), hw.it _ (.tail _ (.head _))⟩)) ?_
          refine WH.free 10 rfl (by kernel_rfl) (by kernel_rfl) (by kernel_rfl) rfl (fun _ => (fun _ hw => ⟨hw.it _ (.tail _ (.tail _ (.head _))), hw.it _ (.tail _ (.head _))⟩)) (OV.eql rfl rfl) rfl (listed' := [true, true, true, true, true, true, true, true, true, true, true, false]) rfl ?_
          refine WH.free 11 rfl (by kernel_rfl) (by kernel_rfl) (by kernel_rfl) rfl (fun _ => (fun _ hw => ⟨hw.it _ (.tail _ (.tail _ (.head _))), hw.it _ (.tail _ (.head _))⟩)) (OV.assign rfl) rfl (listed' := [true, true, true, true, true, true, true, true, true, true, true, true]) rfl ?_
          refine WH.done (by kernel_rfl) ?_
          refine WX.known (t := 6) (b := true) rfl ?_ ?_
          · exact decide_eq_true (by rw [t.len])
          refine WX.block_normal ?_
          refine WX.next ?_
          refine WC.seq ?_
          refine WC.seq ?_
          refine WC.region ?_
          refine WL.val (OV.move rfl) rfl ?_
          refine WL.val (OV.not rfl) rfl ?_
          refine WL.val (OV.move rfl) rfl ?_
          refine WL.known (t := 104) (b := false) rfl (by rfl) ?_
          refine WL.go (b := false) rfl rfl rfl ?_
          refine WL.val (OV.move rfl) rfl ?_
          refine WL.go (b := false) rfl rfl rfl ?_
          first
          | (refine WL.val (OV.fieldAddr0 (off := 4) rfl T.u34 rfl) rfl ?_)
          | (refine WL.val (OV.fieldAddr (off := 4) rfl T.u34 rfl) rfl ?_)
          refine WL.go (b := false) rfl rfl rfl ?_
          refine WL.val (OV.load1 (v := .slice ra rm rc) rfl T.u32 rfl (fun _ hw => (cell_at (hw.it _ (.tail _ (.head _))) (o := 4) rfl).1)) rfl ?_
          refine WL.go (b := false) rfl rfl rfl ?_
          refine WL.callTA (ι := Col) (vs := [.slice ra rm rc]) (vv := encC) (pp := fun y => y.l = rr ++ [71, 72, 73]) [] (AA := fun y => [row 3 1 y.a y.l.length y.c (ints y.l)]) rfl (by kernel_rfl) rfl rfl (fun w' hw' _ => (roomy_calls rr ra rm rc (by omega) w' (hr0.satA hne0 hw')).mono (fun en w'' ⟨y, h1, h2, h3⟩ => ⟨y, h1, h2, h3⟩)) ?_
          intro yd hyd
          have hyd : yd.l = rr ++ [71, 72, 73] := hyd
          have hdl : yd.l.length = rr.length + 3 := by rw [hyd]; simp
          refine WL.go (b := false) rfl rfl rfl ?_
          refine WL.call0 (v := .bool true) (vs := [encC yr, encC yd]) (by kernel_rfl) rfl rfl (fun w' hw' => (same_calls yr.l yd.l yr.a yd.a yr.l.length yr.c yd.l.length yd.c (by omega) (by omega) w' (RI.of_row (c := yr.c) hw' (.tail _ (.head _))) (RI.of_row (c := yd.c) hw' (.head _))).mono (fun en w'' ⟨h1, h2⟩ => ⟨h1.trans (by rw [decide_eq_true (hyr.trans hyd.symm)]), h2⟩)) ?_
          refine WL.go (b := false) rfl rfl rfl ?_
          refine WL.val (OV.not rfl) rfl ?_
          refine WL.val (OV.pickF rfl rfl) rfl ?_
          refine WL.nil ?_
          refine WX.next ?_
          refine WC.condF (show _ = some (Value.bool false) from by rfl) ?_
          refine WC.skip ?_
          refine WX.next ?_
          refine WC.seq ?_
          refine WC.seq ?_
          refine WC.region ?_
          refine WL.val (OV.assign rfl) rfl ?_
          refine WL.nil ?_
          refine WX.next ?_
          refine WC.block ?_
          refine WC.loop2 (fun (i : Nat) (xs : List Value) => [(5, .slice yr.a yr.l.length yr.c), (11, .int .i64 (i : Int))])
              (fun i xs w' => (i ≤ yr.l.length ∧ xs.length = yr.l.length) ∧ Sat w (DD (relA g ++ refA q)) (fun b => b < w.heap.size ∧ ¬ DD (relA g ++ refA q) b) w (row 3 1 yr.a yr.l.length yr.c xs :: own b3 (.cells (opC kind parts stop two ra rm rc a1 m1 c1 a2 m2 c2).toArray 34 (0, 0)) :: own b2 (.cells [ptr g.r, ptr q.p].toArray 28 (0, 0)) :: (relA g ++ refA q)) w')
              (fun i _ => yr.l.length - i) 0 (ints yr.l) ⟨rfl, rfl, trivial⟩ (fun w' hw => ⟨⟨by omega, ints_length _⟩, hw.drop⟩) ?_
          intro i xs
          refine WC.pure (fun hi => ?_)
          obtain ⟨hi, hxl⟩ := hi
          refine WC.seq ?_
          refine WC.seq ?_
          refine WC.region ?_
          refine WL.val (OV.move rfl) rfl ?_
          refine WL.val (OV.move rfl) rfl ?_
          first
          | (refine WL.val (OV.lenSlice rfl T.u32) rfl ?_)
          | (refine WL.val (OV.lenStr rfl T.u32) rfl ?_)
          refine WL.val (OV.lss rfl rfl) rfl ?_
          refine WL.nil ?_
          refine WX.next ?_
          refine WC.cond rfl (fun c115 => ?_) (fun c115 => ?_)
          · try simp only [decide_eq_true_eq, decide_eq_false_iff_not, Bool.not_eq_true', Bool.not_eq_false'] at c115
            refine WC.skip ?_
            refine WX.next ?_
            refine WC.seq ?_
            refine WC.block ?_
            refine WC.region ?_
            refine WL.val (OV.move rfl) rfl ?_
            refine WL.val (OV.move rfl) rfl ?_
            refine WL.val ((OV.indexSliceA (a := ⟨br, 0, none⟩) (i := i) (show _ = some (Value.slice (some ⟨br, 0, none⟩) yr.l.length yr.c) by rw [← hbr]; rfl) rfl T.u32 T.z3 (by omega)).cast (u := .pointer (some ⟨br, i, none⟩)) (by rw [add_off, Nat.zero_add])) rfl ?_
            refine WL.storeRow (o := i) rfl hbr rfl rfl T.z3 (by omega) ?_
            refine WL.nil ?_
            refine WX.block_normal ?_
            refine WX.next ?_
            refine WC.region ?_
            refine WL.val (OV.move rfl) rfl ?_
            refine WL.val (OV.addN (j := 1) rfl rfl (by omega)) rfl ?_
            refine WL.val (OV.assign rfl) rfl ?_
            refine WL.nil ?_
            exact WX.round2 (i + 1) (xs.set i (.int .i64 99)) ⟨rfl, rfl, trivial⟩ (fun w' hw => ⟨⟨by omega, by simpa using hxl⟩, hw⟩) (by show yr.l.length - (i + 1) < yr.l.length - i; omega)
          · try simp only [decide_eq_true_eq, decide_eq_false_iff_not, Bool.not_eq_true', Bool.not_eq_false'] at c115
            refine WC.exit ?_
            refine WX.then_exit ?_
            refine WX.then_exit ?_
            refine WX.block_hit ?_
            refine WX.next ?_
            refine WC.seq ?_
            refine WC.region ?_
            refine WL.val (OV.assign rfl) rfl ?_
            refine WL.nil ?_
            refine WX.next ?_
            refine WC.ret ?_
            exact WX.ret1 rfl rfl rfl (fun w' hw => ⟨rfl, g, q, t, rfl, rfl, by omega, by omega, hw.drop.drop.drop.turned⟩)
        · try simp only [decide_eq_true_eq, decide_eq_false_iff_not, Bool.not_eq_true', Bool.not_eq_false'] at c71
          refine WC.seq ?_
          refine WC.region ?_
          refine WL.val (OV.eql rfl rfl) rfl ?_
          refine WL.val (OV.assign rfl) rfl ?_
          refine WL.nil ?_
          refine WX.next ?_
          refine WC.cond rfl (fun c84 => ?_) (fun c84 => ?_)
          · try simp only [decide_eq_true_eq, decide_eq_false_iff_not, Bool.not_eq_true', Bool.not_eq_false'] at c84
            refine WC.drawn (fun w' => w'.heap[b2]? = some (.cells [ptr g.r, ptr q.p].toArray 28 (0, 0)) ∧ w'.heap[b3]? = some (.cells (opC kind parts stop two ra rm rc a1 m1 c1 a2 m2 c2).toArray 34 (0, 0))) [] (by kernel_rfl) (by kernel_rfl) (m := 12) rfl ?_
            first
            | (refine WH.free 0 rfl (by kernel_rfl) (by kernel_rfl) (by kernel_rfl) rfl (fun _ => (fun _ hw => ⟨hw.it _ (.tail _ (.tail _ (.head _))), hw.it _ (.tail _ (.head _))⟩)) (OV.fieldAddr0 (off := 0) rfl T.u28 rfl) rfl (listed' := [true, false, false, false, false, false, false, false, false, false, false, false]) rfl ?_)
            | (refine WH.free 0 rfl (by kernel_rfl) (by kernel_rfl) (by kernel_rfl) rfl (fun _ => (fun _ hw => ⟨hw.it _ (.tail _ (.tail _ (.head _))), hw.it _ (.tail _ (.head _))⟩)) (OV.fieldAddr (off := 0) rfl T.u28 rfl) rfl (listed' := [true, false, false, false, false, false, false, false, false, false, false, false]) rfl ?_)
            refine WH.take 1 rfl (by kernel_rfl) (by kernel_rfl) (by kernel_rfl) (by kernel_rfl) (fun _ hw => ⟨hw.it _ (.tail _ (.tail _ (.head _))), hw.it _ (.tail _ (.head _))⟩) (OV.load1 (v := ptr g.r) rfl T.u25 rfl (fun _ hw => (cell_at hw.1 (o := 0) rfl).1)) rfl (listed' := [true, true, false, false, false, false, false, false, false, false, false, false]) rfl ?_
            first
            | (refine WH.free 2 rfl (by kernel_rfl) (by kernel_rfl) (by kernel_rfl) rfl (fun _ => (fun _ hw => ⟨hw.it _ (.tail _ (.tail _ (.head _))), hw.it _ (.tail _ (.head _))⟩)) (OV.fieldAddr0 (off := 1) rfl T.u34 rfl) rfl (listed' := [true, true, true, false, false, false, false, false, false, false, false, false]) rfl ?_)
            | (refine WH.free 2 rfl (by kernel_rfl) (by kernel_rfl) (by kernel_rfl) rfl (fun _ => (fun _ hw => ⟨hw.it _ (.tail _ (.tail _ (.head _))), hw.it _ (.tail _ (.head _))⟩)) (OV.fieldAddr (off := 1) rfl T.u34 rfl) rfl (listed' := [true, true, true, false, false, false, false, false, false, false, false, false]) rfl ?_)
            refine WH.take 3 rfl (by kernel_rfl) (by kernel_rfl) (by kernel_rfl) (by kernel_rfl) (fun _ hw => ⟨hw.it _ (.tail _ (.tail _ (.head _))), hw.it _ (.tail _ (.head _))⟩) (OV.load1 (v := .int .i64 parts) rfl T.u3 rfl (fun _ hw => (cell_at hw.2 (o := 1) rfl).1)) rfl (listed' := [true, true, true, true, false, false, false, false, false, false, false, false]) rfl ?_
            first
            | (refine WH.free 5 rfl (by kernel_rfl) (by kernel_rfl) (by kernel_rfl) rfl (fun _ => (fun _ hw => ⟨hw.it _ (.tail _ (.tail _ (.head _))), hw.it _ (.tail _ (.head _))⟩)) (OV.fieldAddr0 (off := 1) rfl T.u28 rfl) rfl (listed' := [true, true, true, true, false, true, false, false, false, false, false, false]) rfl ?_)
            | (refine WH.free 5 rfl (by kernel_rfl) (by kernel_rfl) (by kernel_rfl) rfl (fun _ => (fun _ hw => ⟨hw.it _ (.tail _ (.tail _ (.head _))), hw.it _ (.tail _ (.head _))⟩)) (OV.fieldAddr (off := 1) rfl T.u28 rfl) rfl (listed' := [true, true, true, true, false, true, false, false, false, false, false, false]) rfl ?_)
            refine WH.take 6 rfl (by kernel_rfl) (by kernel_rfl) (by kernel_rfl) (by kernel_rfl) (fun _ hw => ⟨hw.it _ (.tail _ (.tail _ (.head _))), hw.it _ (.tail _ (.head _))⟩) (OV.load1 (v := ptr q.p) rfl T.u26 rfl (fun _ hw => (cell_at hw.1 (o := 1) rfl).1)) rfl (listed' := [true, true, true, true, false, true, true, false, false, false, false, false]) rfl ?_
            first
            | (refine WH.free 7 rfl (by kernel_rfl) (by kernel_rfl) (by kernel_rfl) rfl (fun _ => (fun _ hw => ⟨hw.it _ (.tail _ (.tail _ (.head _))), hw.it _ (.tail _ (.head _))⟩)) (OV.fieldAddr0 (off := 1) rfl T.u34 rfl) rfl (listed' := [true, true, true, true, false, true, true, true, false, false, false, false]) rfl ?_)
            | (refine WH.free 7 rfl (by kernel_rfl) (by kernel_rfl) (by kernel_rfl) rfl (fun _ => (fun _ hw => ⟨hw.it _ (.tail _ (.tail _ (.head _))), hw.it _ (.tail _ (.head _))⟩)) (OV.fieldAddr (off := 1) rfl T.u34 rfl) rfl (listed' := [true, true, true, true, false, true, true, true, false, false, false, false]) rfl ?_)
            refine WH.take 8 rfl (by kernel_rfl) (by kernel_rfl) (by kernel_rfl) (by kernel_rfl) (fun _ hw => ⟨hw.it _ (.tail _ (.tail _ (.head _))), hw.it _ (.tail _ (.head _))⟩) (OV.load1 (v := .int .i64 parts) rfl T.u3 rfl (fun _ hw => (cell_at hw.2 (o := 1) rfl).1)) rfl (listed' := [true, true, true, true, false, true, true, true, true, false, false, false]) rfl ?_
            refine WH.only 4 rfl (by kernel_rfl) (listed' := [true, true, true, true, true, true, true, true, true, false, false, false]) rfl (fl' := false) rfl ?_
            refine WL.focus (ow' := relA g ++ ([row 3 1 yr.a yr.l.length yr.c (ints yr.l), own b3 (.cells (opC kind parts stop two ra rm rc a1 m1 c1 a2 m2 c2).toArray 34 (0, 0)), own b2 (.cells [ptr g.r, ptr q.p].toArray 28 (0, 0))] ++ (refA q))) (perm_cat [[row 3 1 yr.a yr.l.length yr.c (ints yr.l), own b3 (.cells (opC kind parts stop two ra rm rc a1 m1 c1 a2 m2 c2).toArray 34 (0, 0)), own b2 (.cells [ptr g.r, ptr q.p].toArray 28 (0, 0))], relA g, refA q] [1, 0, 2] (by decide) rfl) ?_
            refine WL.callTA (ι := RelG × Option Addr × Nat × List Col) (vs := [ptr g.r, .int .i64 parts]) (vv := fun z => .slice z.2.1 z.2.2.2.length z.2.2.1) (pp := fun z => z.2.2.2.map Col.l = rowsQ q parts ∧ RelOK z.1 ∧ RelLe g z.1 ∧ z.1.es = g.es) (relA g) (AA := fun z => relA z.1 ++ lstA z.2.1 z.2.2.1 z.2.2.2) rfl (by kernel_rfl) rfl rfl (fun w' hw' hH => (rows_calls g t.ok parts w' hH).mono (fun en w'' ⟨g', la, lc, ys, h1, h2, h3, h4, h5, h6⟩ => ⟨(g', la, lc, ys), h1, ⟨h2.trans (t.rows _).symm, h3, h4, h5⟩, h6⟩)) ?_
            rintro ⟨g90, la, lc, ys⟩ hpp
            obtain ⟨hys, ok90, le90, es90⟩ : ys.map Col.l = rowsQ q parts ∧ RelOK g90 ∧ RelLe g g90 ∧ g90.es = g.es := hpp
            have tR : Tie g90 q := ⟨ok90, t.qok, by rw [le90.width, t.wd], by rw [rp, es90]; exact t.same⟩
            refine WL.focus (ow' := relA g90 ++ (lstA la lc ys ++ ([row 3 1 yr.a yr.l.length yr.c (ints yr.l), own b3 (.cells (opC kind parts stop two ra rm rc a1 m1 c1 a2 m2 c2).toArray 34 (0, 0)), own b2 (.cells [ptr g.r, ptr q.p].toArray 28 (0, 0))] ++ refA q))) (List.Perm.of_eq (List.append_assoc _ _ _).symm) ?_
            refine WL.focus (ow' := [row 3 1 yr.a yr.l.length yr.c (ints yr.l), own b3 (.cells (opC kind parts stop two ra rm rc a1 m1 c1 a2 m2 c2).toArray 34 (0, 0)), own b2 (.cells [ptr g.r, ptr q.p].toArray 28 (0, 0))] ++ (relA g90 ++ (refA q ++ (lstA la lc ys)))) (perm_cat [relA g90, lstA la lc ys, [row 3 1 yr.a yr.l.length yr.c (ints yr.l), own b3 (.cells (opC kind parts stop two ra rm rc a1 m1 c1 a2 m2 c2).toArray 34 (0, 0)), own b2 (.cells [ptr g.r, ptr q.p].toArray 28 (0, 0))], refA q] [2, 0, 3, 1] (by decide) rfl) ?_
            refine WL.nil ?_
            refine WX.contD (by kernel_rfl) (fun _ => (fun _ hw => ⟨hw.it _ (.tail _ (.tail _ (.head _))), hw.it _ (.tail _ (.head _))⟩)) ?_
            refine WH.only 9 rfl (by kernel_rfl) (listed' := [true, true, true, true, true, true, true, true, true, true, false, false]) rfl (fl' := false) rfl ?_
            refine WL.callTA (ι := Option Addr × Nat × List Col) (vs := [ptr q.p, .int .i64 parts]) (vv := fun z => .slice z.1 z.2.2.length z.2.1) (pp := fun z => z.2.2.map Col.l = rowsQ q parts) [] (AA := fun z => lstA z.1 z.2.1 z.2.2) rfl (by kernel_rfl) rfl rfl (fun w' hw' _ => (refRows_calls q t.qok parts w' (Hw.Sat.part ((List.sublist_append_left (refA q) (lstA la lc ys)).trans (List.sublist_append_right (relA g90) _)) hw'.drop.drop.drop).holdsAll).mono (fun en w'' ⟨la, lc, ys, h1, h2, h3⟩ => ⟨(la, lc, ys), h1, h2, h3⟩)) ?_
            rintro ⟨ma, mc, zs⟩ hzs
            have hzs : zs.map Col.l = rowsQ q parts := hzs
            refine WL.focus (ow' := [row 3 1 yr.a yr.l.length yr.c (ints yr.l), own b3 (.cells (opC kind parts stop two ra rm rc a1 m1 c1 a2 m2 c2).toArray 34 (0, 0)), own b2 (.cells [ptr g.r, ptr q.p].toArray 28 (0, 0))] ++ (relA g90 ++ (refA q ++ (lstA la lc ys ++ (lstA ma mc zs))))) (perm_cat [lstA ma mc zs, [row 3 1 yr.a yr.l.length yr.c (ints yr.l), own b3 (.cells (opC kind parts stop two ra rm rc a1 m1 c1 a2 m2 c2).toArray 34 (0, 0)), own b2 (.cells [ptr g.r, ptr q.p].toArray 28 (0, 0))], relA g90, refA q, lstA la lc ys] [1, 2, 3, 4, 0] (by decide) rfl) ?_
            refine WL.nil ?_
            refine WX.contD (by kernel_rfl) (fun _ => (fun _ hw => ⟨hw.it _ (.tail _ (.tail _ (.head _))), hw.it _ (.tail _ (.head _))⟩)) ?_
            refine WH.only 10 rfl (by kernel_rfl) (listed' := [true, true, true, true, true, true, true, true, true, true, true, false]) rfl (fl' := false) rfl ?_
            refine WL.call0 (v := .bool true) (vs := [.slice la ys.length lc, .slice ma zs.length mc]) (by kernel_rfl) rfl rfl (fun w' hw' => (sameRows_calls (ys.map Col.l) (zs.map Col.l) la ma ys.length lc zs.length mc w' (RLi.of_rowsQ (c := lc) t.qok hw' (fun i hi => List.mem_append_right _ (List.mem_append_right _ (List.mem_append_right _ (List.mem_append_left _ hi)))) hys) (RLi.of_rowsQ (c := mc) t.qok hw' (fun i hi => List.mem_append_right _ (List.mem_append_right _ (List.mem_append_right _ (List.mem_append_right _ hi)))) hzs)).mono (fun en w'' ⟨h1, h2⟩ => ⟨h1.trans (by rw [hys, hzs, decide_eq_true rfl]), h2⟩)) ?_
            refine WL.weak (S' := Sat w (DD (relA g ++ refA q)) (fun b => b < w.heap.size ∧ ¬ DD (relA g ++ refA q) b) w (row 3 1 yr.a yr.l.length yr.c (ints yr.l) :: own b3 (.cells (opC kind parts stop two ra rm rc a1 m1 c1 a2 m2 c2).toArray 34 (0, 0)) :: own b2 (.cells [ptr g.r, ptr q.p].toArray 28 (0, 0)) :: (relA g90 ++ refA q))) (fun w' hw => hw.pick [[row 3 1 yr.a yr.l.length yr.c (ints yr.l), own b3 (.cells (opC kind parts stop two ra rm rc a1 m1 c1 a2 m2 c2).toArray 34 (0, 0)), own b2 (.cells [ptr g.r, ptr q.p].toArray 28 (0, 0))], relA g90, refA q, lstA la lc ys, lstA ma mc zs] [0, 1, 2] 5 rfl (by decide) (by decide)) ?_
            refine WL.nil ?_
            refine WX.contD (by kernel_rfl) (fun _ => (fun _ hw => ⟨hw.it _ (.tail _ (.tail _ (.head _))), hw.it _ (.tail _ (.head _))⟩)) ?_
            refine WH.free 11 rfl (by kernel_rfl) (by kernel_rfl) (by kernel_rfl) rfl (fun _ => (fun _ hw => ⟨hw.it _ (.tail _ (.tail _ (.head _))), hw.it _ (.tail _ (.head _))⟩)) (OV.assign rfl) rfl (listed' := [true, true, true, true, true, true, true, true, true, true, true, true]) rfl ?_
            refine WH.done (by kernel_rfl) ?_
            refine WX.block_normal ?_
            refine WX.next ?_
            refine WC.seq ?_
            refine WC.seq ?_
            refine WC.region ?_
            refine WL.val (OV.move rfl) rfl ?_
            refine WL.val (OV.not rfl) rfl ?_
            refine WL.val (OV.move rfl) rfl ?_
            refine WL.known (t := 104) (b := false) rfl (by rfl) ?_
            refine WL.go (b := false) rfl rfl rfl ?_
            refine WL.val (OV.move rfl) rfl ?_
            refine WL.go (b := false) rfl rfl rfl ?_
            first
            | (refine WL.val (OV.fieldAddr0 (off := 4) rfl T.u34 rfl) rfl ?_)
            | (refine WL.val (OV.fieldAddr (off := 4) rfl T.u34 rfl) rfl ?_)
            refine WL.go (b := false) rfl rfl rfl ?_
            refine WL.val (OV.load1 (v := .slice ra rm rc) rfl T.u32 rfl (fun _ hw => (cell_at (hw.it _ (.tail _ (.head _))) (o := 4) rfl).1)) rfl ?_
            refine WL.go (b := false) rfl rfl rfl ?_
            refine WL.callTA (ι := Col) (vs := [.slice ra rm rc]) (vv := encC) (pp := fun y => y.l = rr ++ [71, 72, 73]) [] (AA := fun y => [row 3 1 y.a y.l.length y.c (ints y.l)]) rfl (by kernel_rfl) rfl rfl (fun w' hw' _ => (roomy_calls rr ra rm rc (by omega) w' (hr0.satA hne0 hw')).mono (fun en w'' ⟨y, h1, h2, h3⟩ => ⟨y, h1, h2, h3⟩)) ?_
            intro yd hyd
            have hyd : yd.l = rr ++ [71, 72, 73] := hyd
            have hdl : yd.l.length = rr.length + 3 := by rw [hyd]; simp
            refine WL.go (b := false) rfl rfl rfl ?_
            refine WL.call0 (v := .bool true) (vs := [encC yr, encC yd]) (by kernel_rfl) rfl rfl (fun w' hw' => (same_calls yr.l yd.l yr.a yd.a yr.l.length yr.c yd.l.length yd.c (by omega) (by omega) w' (RI.of_row (c := yr.c) hw' (.tail _ (.head _))) (RI.of_row (c := yd.c) hw' (.head _))).mono (fun en w'' ⟨h1, h2⟩ => ⟨h1.trans (by rw [decide_eq_true (hyr.trans hyd.symm)]), h2⟩)) ?_
            refine WL.go (b := false) rfl rfl rfl ?_
            refine WL.val (OV.not rfl) rfl ?_
            refine WL.val (OV.pickF rfl rfl) rfl ?_
            refine WL.nil ?_
            refine WX.next ?_
            refine WC.condF (show _ = some (Value.bool false) from by rfl) ?_
            refine WC.skip ?_
            refine WX.next ?_
            refine WC.seq ?_
            refine WC.seq ?_
            refine WC.region ?_
            refine WL.val (OV.assign rfl) rfl ?_
            refine WL.nil ?_
            refine WX.next ?_
            refine WC.block ?_
            refine WC.loop2 (fun (i : Nat) (xs : List Value) => [(5, .slice yr.a yr.l.length yr.c), (11, .int .i64 (i : Int))])
                (fun i xs w' => (i ≤ yr.l.length ∧ xs.length = yr.l.length) ∧ Sat w (DD (relA g ++ refA q)) (fun b => b < w.heap.size ∧ ¬ DD (relA g ++ refA q) b) w (row 3 1 yr.a yr.l.length yr.c xs :: own b3 (.cells (opC kind parts stop two ra rm rc a1 m1 c1 a2 m2 c2).toArray 34 (0, 0)) :: own b2 (.cells [ptr g.r, ptr q.p].toArray 28 (0, 0)) :: (relA g90 ++ refA q)) w')
                (fun i _ => yr.l.length - i) 0 (ints yr.l) ⟨rfl, rfl, trivial⟩ (fun w' hw => ⟨⟨by omega, ints_length _⟩, hw.drop⟩) ?_
            intro i xs
            refine WC.pure (fun hi => ?_)
            obtain ⟨hi, hxl⟩ := hi
            refine WC.seq ?_
            refine WC.seq ?_
            refine WC.region ?_
            refine WL.val (OV.move rfl) rfl ?_
            refine WL.val (OV.move rfl) rfl ?_
            first
            | (refine WL.val (OV.lenSlice rfl T.u32) rfl ?_)
            | (refine WL.val (OV.lenStr rfl T.u32) rfl ?_)
            refine WL.val (OV.lss rfl rfl) rfl ?_
            refine WL.nil ?_
            refine WX.next ?_
            refine WC.cond rfl (fun c115 => ?_) (fun c115 => ?_)
            · try simp only [decide_eq_true_eq, decide_eq_false_iff_not, Bool.not_eq_true', Bool.not_eq_false'] at c115
              refine WC.skip ?_
              refine WX.next ?_
              refine WC.seq ?_
              refine WC.block ?_
              refine WC.region ?_
              refine WL.val (OV.move rfl) rfl ?_
              refine WL.val (OV.move rfl) rfl ?_
              refine WL.val ((OV.indexSliceA (a := ⟨br, 0, none⟩) (i := i) (show _ = some (Value.slice (some ⟨br, 0, none⟩) yr.l.length yr.c) by rw [← hbr]; rfl) rfl T.u32 T.z3 (by omega)).cast (u := .pointer (some ⟨br, i, none⟩)) (by rw [add_off, Nat.zero_add])) rfl ?_
              refine WL.storeRow (o := i) rfl hbr rfl rfl T.z3 (by omega) ?_
              refine WL.nil ?_
              refine WX.block_normal ?_
              refine WX.next ?_
              refine WC.region ?_
              refine WL.val (OV.move rfl) rfl ?_
              refine WL.val (OV.addN (j := 1) rfl rfl (by omega)) rfl ?_
              refine WL.val (OV.assign rfl) rfl ?_
              refine WL.nil ?_
              exact WX.round2 (i + 1) (xs.set i (.int .i64 99)) ⟨rfl, rfl, trivial⟩ (fun w' hw => ⟨⟨by omega, by simpa using hxl⟩, hw⟩) (by show yr.l.length - (i + 1) < yr.l.length - i; omega)
            · try simp only [decide_eq_true_eq, decide_eq_false_iff_not, Bool.not_eq_true', Bool.not_eq_false'] at c115
              refine WC.exit ?_
              refine WX.then_exit ?_
              refine WX.then_exit ?_
              refine WX.block_hit ?_
              refine WX.next ?_
              refine WC.seq ?_
              refine WC.region ?_
              refine WL.val (OV.assign rfl) rfl ?_
              refine WL.nil ?_
              refine WX.next ?_
              refine WC.ret ?_
              exact WX.ret1 rfl rfl rfl (fun w' hw => ⟨rfl, g90, q, tR, le90.r, rfl, by rw [es90]; omega, by omega, hw.drop.drop.drop.turned⟩)
          · try simp only [decide_eq_true_eq, decide_eq_false_iff_not, Bool.not_eq_true', Bool.not_eq_false'] at c84
            refine WC.seq ?_
            refine WC.region ?_
            refine WL.val (OV.eql rfl rfl) rfl ?_
            refine WL.val (OV.assign rfl) rfl ?_
            refine WL.nil ?_
            refine WX.next ?_
            refine WC.cond rfl (fun c97 => ?_) (fun c97 => ?_)
            · try simp only [decide_eq_true_eq, decide_eq_false_iff_not, Bool.not_eq_true', Bool.not_eq_false'] at c97
              refine WC.region ?_
              refine WL.val (OV.loadN (cs := [ptr g.r, ptr q.p]) rfl T.u28 rfl T.z28 (fun _ hw j v hj => by rw [add_off, Nat.zero_add]; exact own_cells hw (.tail _ (.tail _ (.head _))) j v hj)) rfl ?_
              refine WL.val (OV.loadN (cs := (opC kind parts stop two ra rm rc a1 m1 c1 a2 m2 c2)) rfl T.u34 rfl T.z34 (fun _ hw j v hj => by rw [add_off, Nat.zero_add]; exact own_cells hw (.tail _ (.head _)) j v hj)) rfl ?_
              refine WL.focus (ow' := relA g ++ (refA q ++ ([row 3 1 yr.a yr.l.length yr.c (ints yr.l), own b3 (.cells (opC kind parts stop two ra rm rc a1 m1 c1 a2 m2 c2).toArray 34 (0, 0)), own b2 (.cells [ptr g.r, ptr q.p].toArray 28 (0, 0))]))) (perm_cat [[row 3 1 yr.a yr.l.length yr.c (ints yr.l), own b3 (.cells (opC kind parts stop two ra rm rc a1 m1 c1 a2 m2 c2).toArray 34 (0, 0)), own b2 (.cells [ptr g.r, ptr q.p].toArray 28 (0, 0))], relA g, refA q] [1, 2, 0] (by decide) rfl) ?_
              refine WL.focus (ow' := (relA g ++ refA q) ++ [row 3 1 yr.a yr.l.length yr.c (ints yr.l), own b3 (.cells (opC kind parts stop two ra rm rc a1 m1 c1 a2 m2 c2).toArray 34 (0, 0)), own b2 (.cells [ptr g.r, ptr q.p].toArray 28 (0, 0))]) (List.Perm.of_eq (List.append_assoc _ _ _)) ?_
              refine WL.callTA (ι := RelG) (vs := [.agg #[ptr g.r, ptr q.p], .agg (opC kind parts stop two ra rm rc a1 m1 c1 a2 m2 c2).toArray]) (vv := fun _ => .bool true) (pp := fun z => Tie z q ∧ RelLe g z ∧ z.es = g.es) (relA g ++ refA q) (AA := fun z => relA z ++ refA q) rfl (by kernel_rfl) rfl rfl (fun w' hw' hH => (finds_calls g q t kind parts stop two ra rm rc cols key a1 m1 c1 a2 m2 c2 hc hk hm1 hm2 w' (hr1.satA hne1 hw') (hr2.satA hne2 hw') hne1 hne2 hH).mono (fun en w'' ⟨h1, g', h2, h3, h4, h5⟩ => ⟨g', h1, ⟨h2, h3, h4⟩, h5⟩)) ?_
              rintro g101 hpp
              obtain ⟨tF, le101, es101⟩ : Tie g101 q ∧ RelLe g g101 ∧ g101.es = g.es := hpp
              refine WL.focus (ow' := row 3 1 yr.a yr.l.length yr.c (ints yr.l) :: own b3 (.cells (opC kind parts stop two ra rm rc a1 m1 c1 a2 m2 c2).toArray 34 (0, 0)) :: own b2 (.cells [ptr g.r, ptr q.p].toArray 28 (0, 0)) :: (relA g101 ++ refA q)) (List.perm_append_comm (l₁ := [row 3 1 yr.a yr.l.length yr.c (ints yr.l), own b3 (.cells (opC kind parts stop two ra rm rc a1 m1 c1 a2 m2 c2).toArray 34 (0, 0)), own b2 (.cells [ptr g.r, ptr q.p].toArray 28 (0, 0))])) ?_
              refine WL.val (OV.assign rfl) rfl ?_
              refine WL.nil ?_
              refine WX.block_normal ?_
              refine WX.next ?_
              refine WC.seq ?_
              refine WC.seq ?_
              refine WC.region ?_
              refine WL.val (OV.move rfl) rfl ?_
              refine WL.val (OV.not rfl) rfl ?_
              refine WL.val (OV.move rfl) rfl ?_
              refine WL.known (t := 104) (b := false) rfl (by rfl) ?_
              refine WL.go (b := false) rfl rfl rfl ?_
              refine WL.val (OV.move rfl) rfl ?_
              refine WL.go (b := false) rfl rfl rfl ?_
              first
              | (refine WL.val (OV.fieldAddr0 (off := 4) rfl T.u34 rfl) rfl ?_)
              | (refine WL.val (OV.fieldAddr (off := 4) rfl T.u34 rfl) rfl ?_)
              refine WL.go (b := false) rfl rfl rfl ?_
              refine WL.val (OV.load1 (v := .slice ra rm rc) rfl T.u32 rfl (fun _ hw => (cell_at (hw.it _ (.tail _ (.head _))) (o := 4) rfl).1)) rfl ?_
              refine WL.go (b := false) rfl rfl rfl ?_
              refine WL.callTA (ι := Col) (vs := [.slice ra rm rc]) (vv := encC) (pp := fun y => y.l = rr ++ [71, 72, 73]) [] (AA := fun y => [row 3 1 y.a y.l.length y.c (ints y.l)]) rfl (by kernel_rfl) rfl rfl (fun w' hw' _ => (roomy_calls rr ra rm rc (by omega) w' (hr0.satA hne0 hw')).mono (fun en w'' ⟨y, h1, h2, h3⟩ => ⟨y, h1, h2, h3⟩)) ?_
              intro yd hyd
              have hyd : yd.l = rr ++ [71, 72, 73] := hyd
              have hdl : yd.l.length = rr.length + 3 := by rw [hyd]; simp
              refine WL.go (b := false) rfl rfl rfl ?_
              refine WL.call0 (v := .bool true) (vs := [encC yr, encC yd]) (by kernel_rfl) rfl rfl (fun w' hw' => (same_calls yr.l yd.l yr.a yd.a yr.l.length yr.c yd.l.length yd.c (by omega) (by omega) w' (RI.of_row (c := yr.c) hw' (.tail _ (.head _))) (RI.of_row (c := yd.c) hw' (.head _))).mono (fun en w'' ⟨h1, h2⟩ => ⟨h1.trans (by rw [decide_eq_true (hyr.trans hyd.symm)]), h2⟩)) ?_
              refine WL.go (b := false) rfl rfl rfl ?_
              refine WL.val (OV.not rfl) rfl ?_
              refine WL.val (OV.pickF rfl rfl) rfl ?_
              refine WL.nil ?_
              refine WX.next ?_
              refine WC.condF (show _ = some (Value.bool false) from by rfl) ?_
              refine WC.skip ?_
              refine WX.next ?_
              refine WC.seq ?_
              refine WC.seq ?_
              refine WC.region ?_
              refine WL.val (OV.assign rfl) rfl ?_
              refine WL.nil ?_
              refine WX.next ?_
              refine WC.block ?_
              refine WC.loop2 (fun (i : Nat) (xs : List Value) => [(5, .slice yr.a yr.l.length yr.c), (11, .int .i64 (i : Int))])
                  (fun i xs w' => (i ≤ yr.l.length ∧ xs.length = yr.l.length) ∧ Sat w (DD (relA g ++ refA q)) (fun b => b < w.heap.size ∧ ¬ DD (relA g ++ refA q) b) w (row 3 1 yr.a yr.l.length yr.c xs :: own b3 (.cells (opC kind parts stop two ra rm rc a1 m1 c1 a2 m2 c2).toArray 34 (0, 0)) :: own b2 (.cells [ptr g.r, ptr q.p].toArray 28 (0, 0)) :: (relA g101 ++ refA q)) w')
                  (fun i _ => yr.l.length - i) 0 (ints yr.l) ⟨rfl, rfl, trivial⟩ (fun w' hw => ⟨⟨by omega, ints_length _⟩, hw.drop⟩) ?_
              intro i xs
              refine WC.pure (fun hi => ?_)
              obtain ⟨hi, hxl⟩ := hi
              refine WC.seq ?_
              refine WC.seq ?_
              refine WC.region ?_
              refine WL.val (OV.move rfl) rfl ?_
              refine WL.val (OV.move rfl) rfl ?_
              first
              | (refine WL.val (OV.lenSlice rfl T.u32) rfl ?_)
              | (refine WL.val (OV.lenStr rfl T.u32) rfl ?_)
              refine WL.val (OV.lss rfl rfl) rfl ?_
              refine WL.nil ?_
              refine WX.next ?_
              refine WC.cond rfl (fun c115 => ?_) (fun c115 => ?_)
              · try simp only [decide_eq_true_eq, decide_eq_false_iff_not, Bool.not_eq_true', Bool.not_eq_false'] at c115
                refine WC.skip ?_
                refine WX.next ?_
                refine WC.seq ?_
                refine WC.block ?_
                refine WC.region ?_
                refine WL.val (OV.move rfl) rfl ?_
                refine WL.val (OV.move rfl) rfl ?_
                refine WL.val ((OV.indexSliceA (a := ⟨br, 0, none⟩) (i := i) (show _ = some (Value.slice (some ⟨br, 0, none⟩) yr.l.length yr.c) by rw [← hbr]; rfl) rfl T.u32 T.z3 (by omega)).cast (u := .pointer (some ⟨br, i, none⟩)) (by rw [add_off, Nat.zero_add])) rfl ?_
                refine WL.storeRow (o := i) rfl hbr rfl rfl T.z3 (by omega) ?_
                refine WL.nil ?_
                refine WX.block_normal ?_
                refine WX.next ?_
                refine WC.region ?_
                refine WL.val (OV.move rfl) rfl ?_
                refine WL.val (OV.addN (j := 1) rfl rfl (by omega)) rfl ?_
                refine WL.val (OV.assign rfl) rfl ?_
                refine WL.nil ?_
                exact WX.round2 (i + 1) (xs.set i (.int .i64 99)) ⟨rfl, rfl, trivial⟩ (fun w' hw => ⟨⟨by omega, by simpa using hxl⟩, hw⟩) (by show yr.l.length - (i + 1) < yr.l.length - i; omega)
              · try simp only [decide_eq_true_eq, decide_eq_false_iff_not, Bool.not_eq_true', Bool.not_eq_false'] at c115
                refine WC.exit ?_
                refine WX.then_exit ?_
                refine WX.then_exit ?_
                refine WX.block_hit ?_
                refine WX.next ?_
                refine WC.seq ?_
                refine WC.region ?_
                refine WL.val (OV.assign rfl) rfl ?_
                refine WL.nil ?_
                refine WX.next ?_
                refine WC.ret ?_
                exact WX.ret1 rfl rfl rfl (fun w' hw => ⟨rfl, g101, q, tF, le101.r, rfl, by rw [es101]; omega, by omega, hw.drop.drop.drop.turned⟩)
            · try simp only [decide_eq_true_eq, decide_eq_false_iff_not, Bool.not_eq_true', Bool.not_eq_false'] at c97
              refine WC.skip ?_
              refine WX.block_normal ?_
              refine WX.next ?_
              refine WC.seq ?_
              refine WC.seq ?_
              refine WC.region ?_
              refine WL.val (OV.move rfl) rfl ?_
              refine WL.val (OV.not rfl) rfl ?_
              refine WL.val (OV.move rfl) rfl ?_
              refine WL.go (b := false) rfl rfl rfl ?_
              refine WL.val (OV.move rfl) rfl ?_
              refine WL.go (b := false) rfl rfl rfl ?_
              first
              | (refine WL.val (OV.fieldAddr0 (off := 4) rfl T.u34 rfl) rfl ?_)
              | (refine WL.val (OV.fieldAddr (off := 4) rfl T.u34 rfl) rfl ?_)
              refine WL.go (b := false) rfl rfl rfl ?_
              refine WL.val (OV.load1 (v := .slice ra rm rc) rfl T.u32 rfl (fun _ hw => (cell_at (hw.it _ (.tail _ (.head _))) (o := 4) rfl).1)) rfl ?_
              refine WL.go (b := false) rfl rfl rfl ?_
              refine WL.callTA (ι := Col) (vs := [.slice ra rm rc]) (vv := encC) (pp := fun y => y.l = rr ++ [71, 72, 73]) [] (AA := fun y => [row 3 1 y.a y.l.length y.c (ints y.l)]) rfl (by kernel_rfl) rfl rfl (fun w' hw' _ => (roomy_calls rr ra rm rc (by omega) w' (hr0.satA hne0 hw')).mono (fun en w'' ⟨y, h1, h2, h3⟩ => ⟨y, h1, h2, h3⟩)) ?_
              intro yd hyd
              have hyd : yd.l = rr ++ [71, 72, 73] := hyd
              have hdl : yd.l.length = rr.length + 3 := by rw [hyd]; simp
              refine WL.go (b := false) rfl rfl rfl ?_
              refine WL.call0 (v := .bool true) (vs := [encC yr, encC yd]) (by kernel_rfl) rfl rfl (fun w' hw' => (same_calls yr.l yd.l yr.a yd.a yr.l.length yr.c yd.l.length yd.c (by omega) (by omega) w' (RI.of_row (c := yr.c) hw' (.tail _ (.head _))) (RI.of_row (c := yd.c) hw' (.head _))).mono (fun en w'' ⟨h1, h2⟩ => ⟨h1.trans (by rw [decide_eq_true (hyr.trans hyd.symm)]), h2⟩)) ?_
              refine WL.go (b := false) rfl rfl rfl ?_
              refine WL.val (OV.not rfl) rfl ?_
              refine WL.val (OV.pickF rfl rfl) rfl ?_
              refine WL.nil ?_
              refine WX.next ?_
              refine WC.condF (show _ = some (Value.bool false) from by rfl) ?_
              refine WC.skip ?_
              refine WX.next ?_
              refine WC.seq ?_
              refine WC.seq ?_
              refine WC.region ?_
              refine WL.val (OV.assign rfl) rfl ?_
              refine WL.nil ?_
              refine WX.next ?_
              refine WC.block ?_
              refine WC.loop2 (fun (i : Nat) (xs : List Value) => [(5, .slice yr.a yr.l.length yr.c), (11, .int .i64 (i : Int))])
                  (fun i xs w' => (i ≤ yr.l.length ∧ xs.length = yr.l.length) ∧ Sat w (DD (relA g ++ refA q)) (fun b => b < w.heap.size ∧ ¬ DD (relA g ++ refA q) b) w (row 3 1 yr.a yr.l.length yr.c xs :: own b3 (.cells (opC kind parts stop two ra rm rc a1 m1 c1 a2 m2 c2).toArray 34 (0, 0)) :: own b2 (.cells [ptr g.r, ptr q.p].toArray 28 (0, 0)) :: (relA g ++ refA q)) w')
                  (fun i _ => yr.l.length - i) 0 (ints yr.l) ⟨rfl, rfl, trivial⟩ (fun w' hw => ⟨⟨by omega, ints_length _⟩, hw.drop⟩) ?_
              intro i xs
              refine WC.pure (fun hi => ?_)
              obtain ⟨hi, hxl⟩ := hi
              refine WC.seq ?_
              refine WC.seq ?_
              refine WC.region ?_
              refine WL.val (OV.move rfl) rfl ?_
              refine WL.val (OV.move rfl) rfl ?_
              first
              | (refine WL.val (OV.lenSlice rfl T.u32) rfl ?_)
              | (refine WL.val (OV.lenStr rfl T.u32) rfl ?_)
              refine WL.val (OV.lss rfl rfl) rfl ?_
              refine WL.nil ?_
              refine WX.next ?_
              refine WC.cond rfl (fun c115 => ?_) (fun c115 => ?_)
              · try simp only [decide_eq_true_eq, decide_eq_false_iff_not, Bool.not_eq_true', Bool.not_eq_false'] at c115
                refine WC.skip ?_
                refine WX.next ?_
                refine WC.seq ?_
                refine WC.block ?_
                refine WC.region ?_
                refine WL.val (OV.move rfl) rfl ?_
                refine WL.val (OV.move rfl) rfl ?_
                refine WL.val ((OV.indexSliceA (a := ⟨br, 0, none⟩) (i := i) (show _ = some (Value.slice (some ⟨br, 0, none⟩) yr.l.length yr.c) by rw [← hbr]; rfl) rfl T.u32 T.z3 (by omega)).cast (u := .pointer (some ⟨br, i, none⟩)) (by rw [add_off, Nat.zero_add])) rfl ?_
                refine WL.storeRow (o := i) rfl hbr rfl rfl T.z3 (by omega) ?_
                refine WL.nil ?_
                refine WX.block_normal ?_
                refine WX.next ?_
                refine WC.region ?_
                refine WL.val (OV.move rfl) rfl ?_
                refine WL.val (OV.addN (j := 1) rfl rfl (by omega)) rfl ?_
                refine WL.val (OV.assign rfl) rfl ?_
                refine WL.nil ?_
                exact WX.round2 (i + 1) (xs.set i (.int .i64 99)) ⟨rfl, rfl, trivial⟩ (fun w' hw => ⟨⟨by omega, by simpa using hxl⟩, hw⟩) (by show yr.l.length - (i + 1) < yr.l.length - i; omega)
              · try simp only [decide_eq_true_eq, decide_eq_false_iff_not, Bool.not_eq_true', Bool.not_eq_false'] at c115
                refine WC.exit ?_
                refine WX.then_exit ?_
                refine WX.then_exit ?_
                refine WX.block_hit ?_
                refine WX.next ?_
                refine WC.seq ?_
                refine WC.region ?_
                refine WL.val (OV.assign rfl) rfl ?_
                refine WL.nil ?_
                refine WX.next ?_
                refine WC.ret ?_
                exact WX.ret1 rfl rfl rfl (fun w' hw => ⟨rfl, g, q, t, rfl, rfl, by omega, by omega, hw.drop.drop.drop.turned⟩)

end Go.Proofs.YtijplknkpkmblaaGreatDoor
