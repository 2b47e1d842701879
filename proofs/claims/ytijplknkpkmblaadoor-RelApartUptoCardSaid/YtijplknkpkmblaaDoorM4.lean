/- Contracts of functions of the program: what each returns and leaves in memory. Printed by gen.py and walk.py. -/
import Derived.Test.YtijplknkpkmblaaDoorM3
namespace Go.Proofs.YtijplknkpkmblaaDoor
open Go Go.Hw
set_option linter.unusedSimpArgs false
set_option linter.unusedVariables false
/-! ### Rows in another order -/
theorem mem_addRP {wd : Nat} {L : List (List Int × Nat)} {r : List Int} (hr : r.length = wd) (p : List Int × Nat) : p ∈ addRP wd L r ↔ p ∈ L ∨ (p.2 = 4 ∧ p.1 ∉ L.map (·.1) ∧ p.1 = r) := by
  unfold addRP
  by_cases h : r ∈ L.map (·.1)
  · rw [if_neg (fun hh => hh.2 h)]
    constructor
    · exact .inl
    · rintro (h1 | ⟨_, h2, h3⟩)
      · exact h1
      · rw [h3] at h2; exact absurd h h2
  · rw [if_pos ⟨hr, h⟩, List.mem_append, List.mem_singleton]
    constructor
    · rintro (h1 | rfl)
      · exact .inl h1
      · exact .inr ⟨rfl, h, rfl⟩
    · rintro (h1 | ⟨h1, _, h3⟩)
      · exact .inl h1
      · right; obtain ⟨a, b⟩ := p; simp only at h1 h3; rw [h1, h3]
theorem fst_addRP {wd : Nat} {L : List (List Int × Nat)} {r : List Int} (hr : r.length = wd) (x : List Int) : x ∈ (addRP wd L r).map (·.1) ↔ x ∈ L.map (·.1) ∨ x = r := by
  constructor
  · intro h
    obtain ⟨p, hp, rfl⟩ := List.mem_map.1 h
    rcases (mem_addRP hr p).1 hp with h1 | ⟨_, _, h3⟩
    · exact .inl (List.mem_map.2 ⟨p, h1, rfl⟩)
    · exact .inr h3
  · rintro (h | rfl)
    · obtain ⟨p, hp, rfl⟩ := List.mem_map.1 h
      exact List.mem_map.2 ⟨p, (mem_addRP hr p).2 (.inl hp), rfl⟩
    · by_cases h : x ∈ L.map (·.1)
      · obtain ⟨p, hp, rfl⟩ := List.mem_map.1 h
        exact List.mem_map.2 ⟨p, (mem_addRP hr p).2 (.inl hp), rfl⟩
      · exact List.mem_map.2 ⟨(x, 4), (mem_addRP hr _).2 (.inr ⟨rfl, h, rfl⟩), rfl⟩
theorem mem_addsRP (wd : Nat) : ∀ (ls : List (List Int)) (L : List (List Int × Nat)) (p : List Int × Nat), p ∈ addsRP wd L ls ↔ p ∈ L ∨ (p.2 = 4 ∧ p.1 ∉ L.map (·.1) ∧ p.1 ∈ ls.map fun l => wideL l wd)
  | [], L, p => by simp [addsRP]
  | l :: ls, L, p => by
    have h := mem_addsRP wd ls (addRP wd L (wideL l wd)) p
    have e : addsRP wd L (l :: ls) = addsRP wd (addRP wd L (wideL l wd)) ls := rfl
    rw [e, h, mem_addRP (wideL_length l wd), fst_addRP (wideL_length l wd), List.map_cons, List.mem_cons]
    constructor
    · rintro ((h1 | ⟨h1, h2, h3⟩) | ⟨h1, h2, h3⟩)
      · exact .inl h1
      · exact .inr ⟨h1, h2, .inl h3⟩
      · exact .inr ⟨h1, fun h4 => h2 (.inl h4), .inr h3⟩
    · rintro (h1 | ⟨h1, h2, h3⟩)
      · exact .inl (.inl h1)
      · by_cases h4 : p.1 = wideL l wd
        · exact .inl (.inr ⟨h1, h2, h4⟩)
        · rcases h3 with h3 | h3
          · exact absurd h3 h4
          · exact .inr ⟨h1, fun h5 => h5.elim h2 h4, h3⟩
def SameM (A B : List (List Int × Nat)) : Prop := ∀ p, p ∈ A ↔ p ∈ B
theorem SameM.turn {A B : List (List Int × Nat)} (h : SameM A B) : SameM (turnRP A) (turnRP B) := fun p => by
  unfold turnRP
  rw [List.mem_map, List.mem_map]
  exact ⟨fun ⟨q, hq, e⟩ => ⟨q, (h q).1 hq, e⟩, fun ⟨q, hq, e⟩ => ⟨q, (h q).2 hq, e⟩⟩
theorem SameM.fst {A B : List (List Int × Nat)} (h : SameM A B) (x : List Int) : x ∈ A.map (·.1) ↔ x ∈ B.map (·.1) := by
  rw [List.mem_map, List.mem_map]
  exact ⟨fun ⟨q, hq, e⟩ => ⟨q, (h q).1 hq, e⟩, fun ⟨q, hq, e⟩ => ⟨q, (h q).2 hq, e⟩⟩
theorem SameM.perm {g s : RelG} (h : SameM (rp g) (rp s)) (okg : RelOK g) (oks : RelOK s) : (rp g).Perm (rp s) := by
  have nd : ∀ {q : RelG}, RelOK q → (rp q).Nodup := fun {q} ok => by
    have h1 : ((rp q).map (·.1)).Nodup := by have := ok.rows; simpa [rp, List.map_map, Function.comp_def] using this
    refine List.Pairwise.of_map (S := (· ≠ ·)) (·.1) (fun a b hab e => hab (by rw [e])) h1
  exact (List.perm_ext_iff_of_nodup (nd okg) (nd oks)).2 h
theorem selR_perm {L M : List (List Int × Nat)} (h : L.Perm M) (parts : Int) (cols key : List Int) : selR L parts cols key = selR M parts cols key :=
  sortR_eq ((sortR_perm _).trans ((h.filter _).map _)) (sortR_sorted _)
/-- In the midst of the adds, from the last one on. -/
structure Mid (L0 : List (List Int × Nat)) (rows : List (List Int)) (z : Int) (M : List (List Int × Nat)) : Prop where
  old : ∀ p ∈ L0, p ∈ M
  new : ∀ p ∈ M, p ∈ L0 ∨ (p.2 = 4 ∧ p.1 ∉ L0.map (·.1) ∧ p.1 ∈ rows)
  all : ∀ (j : Nat) (r : List Int), z < j → rows[j]? = some r → r ∈ M.map (·.1)
theorem Mid.start (L0 : List (List Int × Nat)) (rows : List (List Int)) : Mid L0 rows ((rows.length : Int) - 1) L0 :=
  ⟨fun p hp => hp, fun p hp => .inl hp, fun j r hj hr => by have := (List.getElem?_eq_some_iff.1 hr).1; omega⟩
theorem Mid.add {L0 M : List (List Int × Nat)} {rows : List (List Int)} {z : Int} (h : Mid L0 rows z M) {wd : Nat} {r : List Int} (hr : r.length = wd) (hm : r ∈ rows) : Mid L0 rows z (addRP wd M r) := by
  refine ⟨fun p hp => (mem_addRP hr p).2 (.inl (h.old p hp)), fun p hp => ?_, fun j x hj hx => (fst_addRP hr x).2 (.inl (h.all j x hj hx))⟩
  rcases (mem_addRP hr p).1 hp with h1 | ⟨h1, h2, h3⟩
  · exact h.new p h1
  · refine .inr ⟨h1, fun h4 => ?_, by rw [h3]; exact hm⟩
    obtain ⟨q, hq, e⟩ := List.mem_map.1 h4
    exact h2 (List.mem_map.2 ⟨q, h.old q hq, e⟩)
theorem Mid.step {L0 M : List (List Int × Nat)} {rows : List (List Int)} {k : Nat} (h : Mid L0 rows (k : Int) M) {wd : Nat} {r : List Int} (hr : r.length = wd) (hk : rows[k]? = some r) : Mid L0 rows ((k : Int) - 1) (addRP wd M r) := by
  have h1 := h.add hr (List.mem_of_getElem? hk)
  refine ⟨h1.old, h1.new, fun j x hj hx => ?_⟩
  by_cases hjk : j = k
  · subst hjk
    have : r = x := Option.some.inj (hk.symm.trans hx)
    subst this
    exact (fst_addRP hr r).2 (.inr rfl)
  · exact h1.all j x (by omega) hx
theorem Mid.done {L0 M : List (List Int × Nat)} {rows : List (List Int)} {z : Int} (h : Mid L0 rows z M) (hz : z < 0) (p : List Int × Nat) : p ∈ M ↔ p ∈ L0 ∨ (p.2 = 4 ∧ p.1 ∉ L0.map (·.1) ∧ p.1 ∈ rows) := by
  refine ⟨h.new p, ?_⟩
  rintro (h1 | ⟨h1, h2, h3⟩)
  · exact h.old p h1
  · obtain ⟨j, hj⟩ := List.mem_iff_getElem?.1 h3
    obtain ⟨q, hq, e⟩ := List.mem_map.1 (h.all j _ (by omega) hj)
    rcases h.new q hq with h4 | ⟨h4, _, _⟩
    · exact absurd (List.mem_map.2 ⟨q, h4, e⟩) h2
    · have : q = p := by obtain ⟨a, b⟩ := q; obtain ⟨c, d⟩ := p; simp only at h1 h4 e; rw [h1, h4, e]
      rwa [← this]
theorem Mid.grow {L0 M G : List (List Int × Nat)} {ls rows : List (List Int)} {wd : Nat} {z : Int} (h : Mid L0 rows z M) (hz : z < 0) (hL : SameM L0 G) (hrows : rows = ls.map fun l => wideL l wd) : SameM M (addsRP wd G ls) := fun p => by
  rw [h.done hz, mem_addsRP, hL p, hL.fst, hrows]
theorem col_wide {ys : List Col} {ls : List (List Int)} {wd : Nat} (hys : ys.map Col.l = ls.map fun l => wideL l wd) (hi : ∀ l ∈ ls, i64s l) {k : Nat} (hk : k < ys.length) : ∃ y, ys[k]? = some y ∧ y ∈ ys ∧ (ys.map Col.l)[k]? = some y.l ∧ i64s y.l ∧ y.l.length = wd := by
  obtain ⟨y, h1, h2, h3⟩ := col_at rfl hk
  have h4 : y.l ∈ ls.map fun l => wideL l wd := by rw [← hys]; exact List.mem_of_getElem? h3
  obtain ⟨l, hl, e⟩ := List.mem_map.1 h4
  exact ⟨y, h1, h2, h3, by rw [← e]; exact wideL_i64s (hi l hl) wd, by rw [← e]; exact wideL_length l wd⟩

set_option maxRecDepth 10000 in
theorem order_calls (n0 : Int) (bs : List (List (List Int))) (a : Option Addr) (n c : Nat) (how : List Int) (a2 : Option Addr) (m2 c2 : Nat) (hm2 : m2 ≤ 1099511627776) (w : World) (hr : BLi w a n bs) (hr2 : RI w a2 m2 how) :
  Calls Tryd.prog 4 #[.int .i64 n0, .slice a n c, .slice a2 m2 c2] w fun e w' => e = .returned (.bool true) ∧ Fr0 w w' := by
  refine enterS (args := [.int .i64 n0, .slice a n c, .slice a2 m2 c2]) (fun _ => False) Tryd.func4 rfl Tryd.ntmps4 rfl rfl ?_
  refine WC.seq ?_
  refine WC.region ?_
  refine WL.val (OV.assign rfl) rfl ?_
  refine WL.nil ?_
  refine WX.next ?_
  refine WC.seq ?_
  refine WC.region ?_
  refine WL.val (OV.move rfl) rfl ?_
  refine WL.call0 (v := .int .i64 (smallN n0 : Int)) (by kernel_rfl) rfl rfl (fun w' hw' => small_calls n0 w') ?_
  obtain ⟨wd, hwd⟩ : ∃ q, q = smallN n0 := ⟨_, rfl⟩
  have hw5 : wd ≤ 5 := by rw [hwd]; exact smallN_le n0
  rw [← hwd]
  refine WL.val (OV.assign rfl) rfl ?_
  refine WL.nil ?_
  refine WX.next ?_
  refine WC.seq ?_
  refine WC.region ?_
  refine WL.val (OV.move rfl) rfl ?_
  refine WL.val (OV.move rfl) rfl ?_
  refine WL.callTA (ι := RelG) (vv := fun g => .tuple #[ptr g.r, .bool true]) (pp := fun g => RelOK g ∧ g.width = wd ∧ rp g = growTo wd bs n ∧ g.es.length ≤ 1048576) [] (AA := fun g => relA g) rfl (by kernel_rfl) rfl rfl (fun w' hw' hH => (grown_calls wd hw5 bs a n c w' (hr.keeps hw'.keeps)).mono (fun en w'' ⟨g, h1, h2, h3, h4, h5, h6⟩ => ⟨g, h1, ⟨h2, h3, h4, h5⟩, h6⟩)) ?_
  rintro g0 hpp
  obtain ⟨g0ok, g0w, g0p, g0l⟩ : RelOK g0 ∧ g0.width = wd ∧ rp g0 = growTo wd bs n ∧ g0.es.length ≤ 1048576 := hpp
  refine WL.val (OV.move rfl) rfl ?_
  refine WL.val (OV.extract rfl rfl) rfl ?_
  refine WL.val (OV.extract rfl rfl) rfl ?_
  refine WL.val (OV.assign rfl) rfl ?_
  refine WL.val (OV.assign rfl) rfl ?_
  refine WL.nil ?_
  refine WX.next ?_
  refine WC.seq ?_
  refine WC.seq ?_
  refine WC.region ?_
  refine WL.val (OV.move rfl) rfl ?_
  refine WL.val (OV.not rfl) rfl ?_
  refine WL.val (OV.move rfl) rfl ?_
  refine WL.known (t := 27) (b := false) rfl (by rfl) ?_
  refine WL.go (b := false) rfl rfl rfl ?_
  refine WL.call0 (v := .bool true) (by kernel_rfl) rfl rfl (fun w' hw' => head_calls w') ?_
  refine WL.go (b := false) rfl rfl rfl ?_
  refine WL.val (OV.not rfl) rfl ?_
  refine WL.val (OV.pickF rfl rfl) rfl ?_
  refine WL.nil ?_
  refine WX.next ?_
  refine WC.condF rfl ?_
  refine WC.skip ?_
  refine WX.next ?_
  refine WC.seq ?_
  refine WC.region ?_
  refine WL.val (OV.move rfl) rfl ?_
  refine WL.callTA (ι := Nat × Nat × Nat) (vv := fun q => .tuple #[ptr q.1, .int .i64 0]) (pp := fun _ => True) [] (AA := fun q => relA (RelG.empty q.1 q.2.1 q.2.2 wd)) rfl (by kernel_rfl) rfl rfl (fun w' hw' hH => (new_calls wd w').mono (fun en w'' ⟨r, mb, ib, h1, h2⟩ => ⟨(r, mb, ib), h1, trivial, h2⟩)) ?_
  rintro ⟨r, mb, ib⟩ _
  refine WL.val (OV.move rfl) rfl ?_
  refine WL.val (OV.extract rfl rfl) rfl ?_
  refine WL.val (OV.extract rfl rfl) rfl ?_
  refine WL.val (OV.assign rfl) rfl ?_
  refine WL.val (OV.assign rfl) rfl ?_
  refine WL.nil ?_
  refine WX.next ?_
  refine WC.seq ?_
  refine WC.seq ?_
  refine WC.region ?_
  refine WL.val (OV.move rfl) rfl ?_
  refine WL.val (OV.eqlPN T.u25 rfl rfl) rfl ?_
  refine WL.val (OV.move rfl) rfl ?_
  refine WL.known (t := 38) (b := false) rfl (by rfl) ?_
  refine WL.go (b := false) rfl rfl rfl ?_
  refine WL.val (OV.move rfl) rfl ?_
  refine WL.go (b := false) rfl rfl rfl ?_
  refine WL.val (OV.neq rfl rfl) rfl ?_
  refine WL.val (OV.pickF rfl rfl) rfl ?_
  refine WL.nil ?_
  refine WX.next ?_
  refine WC.condF rfl ?_
  refine WC.skip ?_
  refine WX.next ?_
  refine WC.seq ?_
  refine WC.seq ?_
  refine WC.region ?_
  refine WL.val (OV.assign rfl) rfl ?_
  refine WL.nil ?_
  refine WX.next ?_
  refine WC.block ?_
  have e1 := hr.len
  have e2 := hr.sum
  refine WC.loop2 (fun (i : Nat) (s : RelG) => [(1, .slice a n c), (2, .slice a2 m2 c2), (7, .int .i64 (wd : Int)), (8, ptr g0.r), (10, ptr s.r), (12, .int .i64 (i : Int))])
      (fun i s w' => (i ≤ n ∧ RelOK s ∧ s.width = wd ∧ SameM (rp s) (growTo wd bs i) ∧ s.es.length ≤ 2 * ((bs.take i).map List.length).sum) ∧ Sat w (fun _ => False) (fun b => b < w.heap.size) w (relA s ++ relA g0) w')
      (fun i _ => n - i) 0 (RelG.empty r mb ib wd) ⟨rfl, rfl, rfl, rfl, rfl, rfl, trivial⟩ (fun w' hw => ⟨⟨by omega, RelOK.empty (by omega), rfl, fun p => Iff.rfl, by simp [RelG.empty]⟩, hw.pick [relA (RelG.empty r mb ib wd), relA g0, []] [0, 1] 3 rfl (by decide) (by decide)⟩) ?_
  intro i s
  refine WC.pure (fun hi => ?_)
  obtain ⟨hi, hok, hsw, hsame, hel⟩ := hi
  refine WC.seq ?_
  refine WC.seq ?_
  refine WC.region ?_
  refine WL.val (OV.move rfl) rfl ?_
  refine WL.val (OV.move rfl) rfl ?_
  first
  | (refine WL.val (OV.lenSlice rfl T.u22) rfl ?_)
  | (refine WL.val (OV.lenStr rfl T.u22) rfl ?_)
  refine WL.val (OV.lss rfl rfl) rfl ?_
  refine WL.val (OV.move rfl) rfl ?_
  refine WL.split (t := 46) rfl (fun g46 => ?_) (fun g46 => ?_)
  · try simp only [decide_eq_true_eq, decide_eq_false_iff_not, Bool.not_eq_true', Bool.not_eq_false'] at g46
    refine WL.go (b := true) rfl rfl rfl ?_
    refine WL.val (OV.move rfl) rfl ?_
    refine WL.go (b := true) rfl rfl rfl ?_
    refine WL.val (OV.lss rfl rfl) rfl ?_
    refine WL.val (OV.pickT rfl rfl) rfl ?_
    refine WL.nil ?_
    refine WX.next ?_
    refine WC.cond rfl (fun c49 => ?_) (fun c49 => ?_)
    · try simp only [decide_eq_true_eq, decide_eq_false_iff_not, Bool.not_eq_true', Bool.not_eq_false'] at c49
      refine WC.skip ?_
      refine WX.next ?_
      refine WC.seq ?_
      refine WC.block ?_
      refine WC.seq ?_
      refine WC.seq ?_
      refine WC.region ?_
      refine WL.val (OV.move rfl) rfl ?_
      refine WL.val (OV.gtr rfl rfl) rfl ?_
      refine WL.nil ?_
      refine WX.next ?_
      refine WC.cond rfl (fun c53 => ?_) (fun c53 => ?_)
      · try simp only [decide_eq_true_eq, decide_eq_false_iff_not, Bool.not_eq_true', Bool.not_eq_false'] at c53
        refine WC.region ?_
        refine WL.val (OV.move rfl) rfl ?_
        refine WL.callTA (ι := Unit) (vv := fun _ => .int .i64 (s.ns.length : Int)) (pp := fun _ => True) (relA s) (AA := fun _ => relA (turnG s)) rfl (by kernel_rfl) rfl rfl (fun w' hw' hH => (turn_calls s hok w' hH).mono (fun en w'' ⟨h1, h2⟩ => ⟨(), h1, trivial, h2⟩)) ?_
        rintro _ _
        refine WL.nil ?_
        refine WX.next ?_
        refine WC.seq ?_
        obtain ⟨sb, hsb, hbok, hbw, hbr, hbp, hbl⟩ : ∃ sb, sb = turnG s ∧ RelOK sb ∧ sb.width = wd ∧ sb.r = s.r ∧ SameM (rp sb) (if 0 < i then turnRP (growTo wd bs i) else growTo wd bs i) ∧ sb.es.length = s.es.length := ⟨_, rfl, turnG_ok hok, hsw, rfl, by rw [if_pos (by omega), rp_turn]; exact hsame.turn, by simp [turnG]⟩
        rw [show relA (turnG s) = relA sb from by rw [hsb]]
        refine WC.region ?_
        refine WL.val (OV.move rfl) rfl ?_
        refine WL.val (OV.move rfl) rfl ?_
        obtain ⟨q1, ls, a', c', rfl, hls, hgd, hcell, hrl, hsum, hsl⟩ := hr.get (i := i) (by omega)
        refine WL.val (OV.indexSliceA (i := i) rfl rfl T.u22 T.z45 (by omega)) rfl ?_
        refine WL.val (OV.loadN (cs := [.slice a' ls.length c']) rfl T.u45 rfl T.z45 (fun _ hw j v hj => ?_)) rfl ?_
        · have hj0 : j = 0 := by have := (List.getElem?_eq_some_iff.1 hj).1; simpa using this
          subst hj0
          simp only [List.getElem?_cons_zero, Option.some.injEq] at hj
          subst hj
          rw [addr_add0]
          exact hw.keeps _ _ hcell
        refine WL.val (OV.move rfl) rfl ?_
        refine WL.callTA (ι := Option Addr × Nat × List Col) (vv := fun q => .slice q.1 q.2.2.length q.2.1) (pp := fun q => q.2.2.map Col.l = ls.map (fun l => wideL l wd)) [] (AA := fun q => lstA q.1 q.2.1 q.2.2) rfl (by kernel_rfl) rfl rfl (fun w' hw' hH => (brought_calls ls a' ls.length c' wd (by omega) (by omega) w' (hrl.keeps hw'.keeps)).mono (fun en w'' ⟨la, lc, ys, h1, h2, h3⟩ => ⟨(la, lc, ys), h1, h2, h3⟩)) ?_
        rintro ⟨la, lc, ys⟩ hys
        have hys : ys.map Col.l = ls.map (fun l => wideL l wd) := hys
        have hyl0 : ys.length = ls.length := by have := congrArg List.length hys; simpa using this
        refine WL.val (OV.assign rfl) rfl ?_
        refine WL.nil ?_
        refine WX.next ?_
        refine WC.seq ?_
        refine WC.region ?_
        refine WL.val (OV.move rfl) rfl ?_
        first
        | (refine WL.val (OV.lenSlice rfl T.u29) rfl ?_)
        | (refine WL.val (OV.lenStr rfl T.u29) rfl ?_)
        refine WL.val (OV.subI (a := (ys.length : Int)) (b := 1) rfl rfl (by omega)) rfl ?_
        refine WL.val (OV.assign rfl) rfl ?_
        refine WL.nil ?_
        refine WX.next ?_
        refine WC.block ?_
        refine WC.focus (ow' := relA sb ++ (lstA la lc ys ++ relA g0)) (perm_cat [lstA la lc ys, relA sb, relA g0] [1, 0, 2] (by decide) rfl) ?_
        refine WC.weak (S' := fun w' => (0 < ys.length → ∃ q, la = some ⟨q, 0, none⟩) ∧ Sat w (fun _ => False) (fun b => b < w.heap.size) w (relA sb ++ (lstA la lc ys ++ relA g0)) w') (fun w' hw => ⟨lst_addr hw (List.mem_append_right _ (List.mem_append_left _ (.head _))), hw⟩) ?_
        refine WC.pure (fun hla => ?_)
        refine WC.loop2 (fun (z : Int) (sk : RelG) => [(1, .slice (some q1) n c), (2, .slice a2 m2 c2), (7, .int .i64 (wd : Int)), (8, ptr g0.r), (10, ptr s.r), (12, .int .i64 (i : Int)), (13, .slice la ys.length lc), (14, .int .i64 z)])
            (fun z sk w' => (-1 ≤ z ∧ z < (ys.length : Int) ∧ RelOK sk ∧ sk.width = wd ∧ sk.r = s.r ∧ Mid (rp sb) (ys.map Col.l) z (rp sk) ∧ (sk.es.length : Int) ≤ 2 * ((bs.take i).map List.length).sum + 2 * ((ys.length : Int) - 1 - z)) ∧ Sat w (fun _ => False) (fun b => b < w.heap.size) w (relA sk ++ (lstA la lc ys ++ relA g0)) w')
            (fun z _ => (z + 1).toNat) ((ys.length : Int) - 1) sb ⟨rfl, rfl, rfl, rfl, rfl, rfl, rfl, rfl, trivial⟩ (fun w' hw => ⟨⟨by omega, by omega, hbok, hbw, hbr, by have := Mid.start (rp sb) (ys.map Col.l); rwa [List.length_map] at this, by omega⟩, hw⟩) ?_
        intro z sk
        refine WC.pure (fun hk => ?_)
        obtain ⟨hz1, hz2, hokk, hkw, hkr, hmid, hekl⟩ := hk
        refine WC.seq ?_
        refine WC.seq ?_
        refine WC.region ?_
        refine WL.val (OV.move rfl) rfl ?_
        refine WL.val (OV.geq rfl rfl) rfl ?_
        refine WL.nil ?_
        refine WX.next ?_
        refine WC.cond rfl (fun c66 => ?_) (fun c66 => ?_)
        · try simp only [decide_eq_true_eq, decide_eq_false_iff_not, Bool.not_eq_true', Bool.not_eq_false'] at c66
          refine WC.skip ?_
          refine WX.next ?_
          refine WC.seq ?_
          refine WC.block ?_
          refine WC.seq ?_
          obtain ⟨k, rfl⟩ : ∃ k : Nat, z = (k : Int) := ⟨z.toNat, by omega⟩
          refine WC.region ?_
          refine WL.val (OV.move rfl) rfl ?_
          refine WL.val (OV.move rfl) rfl ?_
          refine WL.val (OV.move rfl) rfl ?_
          have hkl : k < ys.length := by omega
          obtain ⟨y, hy, hym, hyl, hyi, hyn2⟩ := col_wide hys hrl.i64 hkl
          have hyn : y.l.length ≤ 1099511627776 := by omega
          obtain ⟨q5, rfl⟩ := hla (by omega)
          refine WL.val (OV.indexSliceA (i := k) rfl rfl T.u29 T.z23 (by omega)) rfl ?_
          refine WL.val (OV.load1 (v := encC y) rfl T.u23 rfl (fun _ hw => row_cells hw (List.mem_append_right _ (List.mem_append_left _ (.head _))) k _ (by rw [List.getElem?_map, hy]; rfl))) rfl ?_
          have hi64 := hyi
          refine WL.callTA (ι := RelG) (vs := [ptr sk.r, encC y]) (vv := fun _ => .tuple #[.bool (addV sk.width (rp sk) y.l), .int .i64 (addE sk.width y.l)]) (pp := fun qq => rp qq = addRP sk.width (rp sk) y.l ∧ RelOK qq ∧ RelLe sk qq) (relA sk) (AA := fun qq => relA qq) rfl (by kernel_rfl) (by rw [hkr]; rfl) rfl (fun w' hw' hH => (add_calls sk hokk y.l y.a y.l.length y.c hi64 (by omega) (by omega) w' (RI.of_row (c := y.c) hw' (List.mem_append_right _ (List.mem_append_left _ (colmem hym)))) (fun b hb _ => Sat.sepO hw' (List.mem_append_left _ (colmem hym)) ⟨b, hb, rfl⟩) hH).mono (fun en w'' ⟨h1, g', h2, h3, h4, h5⟩ => ⟨g', h1, ⟨h2, h3, h4⟩, h5⟩)) ?_
          rintro g74 hpp
          obtain ⟨hrp74, ok74, le74⟩ : rp g74 = addRP sk.width (rp sk) y.l ∧ RelOK g74 ∧ RelLe sk g74 := hpp
          refine WL.nil ?_
          refine WX.next ?_
          refine WC.seq ?_
          refine WC.region ?_
          refine WL.val (OV.move rfl) rfl ?_
          refine WL.val (OV.move rfl) rfl ?_
          first
          | (refine WL.val (OV.lenSlice rfl T.u23) rfl ?_)
          | (refine WL.val (OV.lenStr rfl T.u23) rfl ?_)
          refine WL.val (OV.lss rfl rfl) rfl ?_
          refine WL.nil ?_
          refine WX.next ?_
          refine WC.cond rfl (fun c78 => ?_) (fun c78 => ?_)
          · try simp only [decide_eq_true_eq, decide_eq_false_iff_not, Bool.not_eq_true', Bool.not_eq_false'] at c78
            refine WC.seq ?_
            refine WC.region ?_
            refine WL.val (OV.move rfl) rfl ?_
            refine WL.val (OV.move rfl) rfl ?_
            obtain ⟨q6, rfl⟩ := hr2.some (by omega)
            have hkh : k < how.length := by have := hr2.1; omega
            refine WL.val (OV.indexSliceA (i := k) rfl rfl T.u23 T.z3 (by omega)) rfl ?_
            refine WL.val (OV.load1 (v := .int .i64 (how.getD k 0)) rfl T.u3 rfl (fun _ hw => (hr2.keeps hw.keeps).cell hkh)) rfl ?_
            refine WL.val (OV.move rfl) rfl ?_
            first
            | (refine WL.val (OV.lenSlice rfl T.u29) rfl ?_)
            | (refine WL.val (OV.lenStr rfl T.u29) rfl ?_)
            have hmod := Int.tmod_lt_of_pos (how.getD k 0) (show (0 : Int) < (ys.length : Int) by omega)
            have hmod2 := Int.tmod_lt_of_pos (-(how.getD k 0)) (show (0 : Int) < (ys.length : Int) by omega)
            rw [Int.neg_tmod] at hmod2
            refine WL.val (OV.rem rfl rfl (by simp; intro h0; subst h0; simp at hkl)) rfl ?_
            refine WL.val (OV.assign rfl) rfl ?_
            refine WL.nil ?_
            refine WX.next ?_
            refine WC.seq ?_
            refine WC.seq ?_
            refine WC.region ?_
            refine WL.val (OV.move rfl) rfl ?_
            refine WL.val (OV.lss rfl rfl) rfl ?_
            refine WL.nil ?_
            refine WX.next ?_
            refine WC.cond rfl (fun c87 => ?_) (fun c87 => ?_)
            · try simp only [decide_eq_true_eq, decide_eq_false_iff_not, Bool.not_eq_true', Bool.not_eq_false'] at c87
              refine WC.region ?_
              refine WL.val (OV.move rfl) rfl ?_
              refine WL.val ((OV.neg rfl).cast (u := .int .i64 (-((how.getD k 0).tmod (ys.length : Int)))) (by rw [wrap_i64 (by omega)])) rfl ?_
              refine WL.val (OV.assign rfl) rfl ?_
              refine WL.nil ?_
              refine WX.next ?_
              obtain ⟨u, hu⟩ : ∃ u : Nat, -((how.getD k 0).tmod (ys.length : Int)) = (u : Int) := ⟨(-((how.getD k 0).tmod (ys.length : Int))).toNat, by omega⟩
              have hul : u < ys.length := by omega
              
              refine WC.region ?_
              refine WL.val (OV.move rfl) rfl ?_
              refine WL.val (OV.move rfl) rfl ?_
              refine WL.val (OV.move rfl) rfl ?_
              obtain ⟨y2, hy2, hy2m, hy2l, hy2i, hy2n⟩ := col_wide hys hrl.i64 hul
              refine WL.val (OV.indexSliceA (i := u) rfl (by rw [← hu]; rfl) T.u29 T.z23 (by omega)) rfl ?_
              refine WL.val (OV.load1 (v := encC y2) rfl T.u23 rfl (fun _ hw => row_cells hw (List.mem_append_right _ (List.mem_append_left _ (.head _))) u _ (by rw [List.getElem?_map, hy2]; rfl))) rfl ?_
              have hi64 := hy2i
              refine WL.callTA (ι := RelG) (vs := [ptr g74.r, encC y2]) (vv := fun _ => .tuple #[.bool (addV g74.width (rp g74) y2.l), .int .i64 (addE g74.width y2.l)]) (pp := fun qq => rp qq = addRP g74.width (rp g74) y2.l ∧ RelOK qq ∧ RelLe g74 qq) (relA g74) (AA := fun qq => relA qq) rfl (by kernel_rfl) (by rw [le74.r, hkr]; rfl) rfl (fun w' hw' hH => (add_calls g74 ok74 y2.l y2.a y2.l.length y2.c hi64 (by omega) (by have q1 := es_len hrp74; have q2 := addRP_len sk.width (rp sk) y.l; rw [rp_len] at q2; omega) w' (RI.of_row (c := y2.c) hw' (List.mem_append_right _ (List.mem_append_left _ (colmem hy2m)))) (fun b hb _ => Sat.sepO hw' (List.mem_append_left _ (colmem hy2m)) ⟨b, hb, rfl⟩) hH).mono (fun en w'' ⟨h1, g', h2, h3, h4, h5⟩ => ⟨g', h1, ⟨h2, h3, h4⟩, h5⟩)) ?_
              rintro g95 hpp
              obtain ⟨hrp95, ok95, le95⟩ : rp g95 = addRP g74.width (rp g74) y2.l ∧ RelOK g95 ∧ RelLe g74 g95 := hpp
              refine WL.nil ?_
              refine WX.block_normal ?_
              refine WX.next ?_
              refine WC.region ?_
              refine WL.val (OV.move rfl) rfl ?_
              refine WL.val (OV.subI rfl rfl (by omega)) rfl ?_
              refine WL.val (OV.assign rfl) rfl ?_
              refine WL.nil ?_
              exact WX.round2 ((k : Int) - 1) g95 ⟨rfl, rfl, rfl, rfl, rfl, rfl, rfl, rfl, trivial⟩ (fun w' hw => ⟨⟨by omega, by omega, ok95, le95.width.trans (le74.width.trans hkw), le95.r.trans (le74.r.trans hkr), by rw [hrp95, hrp74, le74.width, hkw]; exact (hmid.step hyn2 hyl).add hy2n (List.mem_of_getElem? hy2l), by
                have q1 := es_len hrp74
                have q2 := addRP_len sk.width (rp sk) y.l
                rw [rp_len] at q2
                have q3 := es_len hrp95
                have q4 := addRP_len g74.width (rp g74) y2.l
                rw [rp_len] at q4
                omega⟩, hw⟩) (by show ((k : Int) - 1 + 1).toNat < ((k : Int) + 1).toNat; omega)
            · try simp only [decide_eq_true_eq, decide_eq_false_iff_not, Bool.not_eq_true', Bool.not_eq_false'] at c87
              refine WC.skip ?_
              refine WX.next ?_
              obtain ⟨u, hu⟩ : ∃ u : Nat, (how.getD k 0).tmod (ys.length : Int) = (u : Int) := ⟨((how.getD k 0).tmod (ys.length : Int)).toNat, by omega⟩
              have hul : u < ys.length := by omega
              
              refine WC.region ?_
              refine WL.val (OV.move rfl) rfl ?_
              refine WL.val (OV.move rfl) rfl ?_
              refine WL.val (OV.move rfl) rfl ?_
              obtain ⟨y2, hy2, hy2m, hy2l, hy2i, hy2n⟩ := col_wide hys hrl.i64 hul
              refine WL.val (OV.indexSliceA (i := u) rfl (by rw [← hu]; rfl) T.u29 T.z23 (by omega)) rfl ?_
              refine WL.val (OV.load1 (v := encC y2) rfl T.u23 rfl (fun _ hw => row_cells hw (List.mem_append_right _ (List.mem_append_left _ (.head _))) u _ (by rw [List.getElem?_map, hy2]; rfl))) rfl ?_
              have hi64 := hy2i
              refine WL.callTA (ι := RelG) (vs := [ptr g74.r, encC y2]) (vv := fun _ => .tuple #[.bool (addV g74.width (rp g74) y2.l), .int .i64 (addE g74.width y2.l)]) (pp := fun qq => rp qq = addRP g74.width (rp g74) y2.l ∧ RelOK qq ∧ RelLe g74 qq) (relA g74) (AA := fun qq => relA qq) rfl (by kernel_rfl) (by rw [le74.r, hkr]; rfl) rfl (fun w' hw' hH => (add_calls g74 ok74 y2.l y2.a y2.l.length y2.c hi64 (by omega) (by have q1 := es_len hrp74; have q2 := addRP_len sk.width (rp sk) y.l; rw [rp_len] at q2; omega) w' (RI.of_row (c := y2.c) hw' (List.mem_append_right _ (List.mem_append_left _ (colmem hy2m)))) (fun b hb _ => Sat.sepO hw' (List.mem_append_left _ (colmem hy2m)) ⟨b, hb, rfl⟩) hH).mono (fun en w'' ⟨h1, g', h2, h3, h4, h5⟩ => ⟨g', h1, ⟨h2, h3, h4⟩, h5⟩)) ?_
              rintro g95 hpp
              obtain ⟨hrp95, ok95, le95⟩ : rp g95 = addRP g74.width (rp g74) y2.l ∧ RelOK g95 ∧ RelLe g74 g95 := hpp
              refine WL.nil ?_
              refine WX.block_normal ?_
              refine WX.next ?_
              refine WC.region ?_
              refine WL.val (OV.move rfl) rfl ?_
              refine WL.val (OV.subI rfl rfl (by omega)) rfl ?_
              refine WL.val (OV.assign rfl) rfl ?_
              refine WL.nil ?_
              exact WX.round2 ((k : Int) - 1) g95 ⟨rfl, rfl, rfl, rfl, rfl, rfl, rfl, rfl, trivial⟩ (fun w' hw => ⟨⟨by omega, by omega, ok95, le95.width.trans (le74.width.trans hkw), le95.r.trans (le74.r.trans hkr), by rw [hrp95, hrp74, le74.width, hkw]; exact (hmid.step hyn2 hyl).add hy2n (List.mem_of_getElem? hy2l), by
                have q1 := es_len hrp74
                have q2 := addRP_len sk.width (rp sk) y.l
                rw [rp_len] at q2
                have q3 := es_len hrp95
                have q4 := addRP_len g74.width (rp g74) y2.l
                rw [rp_len] at q4
                omega⟩, hw⟩) (by show ((k : Int) - 1 + 1).toNat < ((k : Int) + 1).toNat; omega)
          · try simp only [decide_eq_true_eq, decide_eq_false_iff_not, Bool.not_eq_true', Bool.not_eq_false'] at c78
            refine WC.skip ?_
            refine WX.block_normal ?_
            refine WX.next ?_
            refine WC.region ?_
            refine WL.val (OV.move rfl) rfl ?_
            refine WL.val (OV.subI rfl rfl (by omega)) rfl ?_
            refine WL.val (OV.assign rfl) rfl ?_
            refine WL.nil ?_
            exact WX.round2 ((k : Int) - 1) g74 ⟨rfl, rfl, rfl, rfl, rfl, rfl, rfl, rfl, trivial⟩ (fun w' hw => ⟨⟨by omega, by omega, ok74, le74.width.trans hkw, le74.r.trans hkr, by rw [hrp74, hkw]; exact hmid.step hyn2 hyl, by
              have q1 := es_len hrp74
              have q2 := addRP_len sk.width (rp sk) y.l
              rw [rp_len] at q2
              skip
              omega⟩, hw⟩) (by show ((k : Int) - 1 + 1).toNat < ((k : Int) + 1).toNat; omega)
        · try simp only [decide_eq_true_eq, decide_eq_false_iff_not, Bool.not_eq_true', Bool.not_eq_false'] at c66
          refine WC.exit ?_
          refine WX.then_exit ?_
          refine WX.then_exit ?_
          refine WX.block_hit ?_
          refine WX.block_normal ?_
          refine WX.next ?_
          refine WC.region ?_
          refine WL.val (OV.move rfl) rfl ?_
          first
          | (refine WL.val (OV.addI rfl rfl (by omega)) rfl ?_)
          | (refine WL.val (OV.add rfl rfl) rfl ?_)
          refine WL.val (OV.assign rfl) rfl ?_
          refine WL.nil ?_
          have hlast := hmid.grow (by omega) hbp hys
          exact WX.round2 (i + 1) sk ⟨rfl, rfl, rfl, rfl, by rw [hkr]; rfl, rfl, trivial⟩ (fun w' hw => ⟨⟨by omega, hokk, hkw, by rw [growTo, hgd]; exact hlast, by omega⟩, hw.pick [relA sk, lstA la lc ys, relA g0] [0, 2] 3 rfl (by decide) (by decide)⟩) (by show n - (i + 1) < n - i; omega)
      · try simp only [decide_eq_true_eq, decide_eq_false_iff_not, Bool.not_eq_true', Bool.not_eq_false'] at c53
        refine WC.skip ?_
        refine WX.next ?_
        refine WC.seq ?_
        obtain ⟨sb, hsb, hbok, hbw, hbr, hbp, hbl⟩ : ∃ sb, sb = s ∧ RelOK sb ∧ sb.width = wd ∧ sb.r = s.r ∧ SameM (rp sb) (if 0 < i then turnRP (growTo wd bs i) else growTo wd bs i) ∧ sb.es.length = s.es.length := ⟨_, rfl, hok, hsw, rfl, by rw [if_neg (by omega)]; exact hsame, rfl⟩
        rw [show relA (s) = relA sb from by rw [hsb]]
        refine WC.region ?_
        refine WL.val (OV.move rfl) rfl ?_
        refine WL.val (OV.move rfl) rfl ?_
        obtain ⟨q1, ls, a', c', rfl, hls, hgd, hcell, hrl, hsum, hsl⟩ := hr.get (i := i) (by omega)
        refine WL.val (OV.indexSliceA (i := i) rfl rfl T.u22 T.z45 (by omega)) rfl ?_
        refine WL.val (OV.loadN (cs := [.slice a' ls.length c']) rfl T.u45 rfl T.z45 (fun _ hw j v hj => ?_)) rfl ?_
        · have hj0 : j = 0 := by have := (List.getElem?_eq_some_iff.1 hj).1; simpa using this
          subst hj0
          simp only [List.getElem?_cons_zero, Option.some.injEq] at hj
          subst hj
          rw [addr_add0]
          exact hw.keeps _ _ hcell
        refine WL.val (OV.move rfl) rfl ?_
        refine WL.callTA (ι := Option Addr × Nat × List Col) (vv := fun q => .slice q.1 q.2.2.length q.2.1) (pp := fun q => q.2.2.map Col.l = ls.map (fun l => wideL l wd)) [] (AA := fun q => lstA q.1 q.2.1 q.2.2) rfl (by kernel_rfl) rfl rfl (fun w' hw' hH => (brought_calls ls a' ls.length c' wd (by omega) (by omega) w' (hrl.keeps hw'.keeps)).mono (fun en w'' ⟨la, lc, ys, h1, h2, h3⟩ => ⟨(la, lc, ys), h1, h2, h3⟩)) ?_
        rintro ⟨la, lc, ys⟩ hys
        have hys : ys.map Col.l = ls.map (fun l => wideL l wd) := hys
        have hyl0 : ys.length = ls.length := by have := congrArg List.length hys; simpa using this
        refine WL.val (OV.assign rfl) rfl ?_
        refine WL.nil ?_
        refine WX.next ?_
        refine WC.seq ?_
        refine WC.region ?_
        refine WL.val (OV.move rfl) rfl ?_
        first
        | (refine WL.val (OV.lenSlice rfl T.u29) rfl ?_)
        | (refine WL.val (OV.lenStr rfl T.u29) rfl ?_)
        refine WL.val (OV.subI (a := (ys.length : Int)) (b := 1) rfl rfl (by omega)) rfl ?_
        refine WL.val (OV.assign rfl) rfl ?_
        refine WL.nil ?_
        refine WX.next ?_
        refine WC.block ?_
        refine WC.focus (ow' := relA sb ++ (lstA la lc ys ++ relA g0)) (perm_cat [lstA la lc ys, relA sb, relA g0] [1, 0, 2] (by decide) rfl) ?_
        refine WC.weak (S' := fun w' => (0 < ys.length → ∃ q, la = some ⟨q, 0, none⟩) ∧ Sat w (fun _ => False) (fun b => b < w.heap.size) w (relA sb ++ (lstA la lc ys ++ relA g0)) w') (fun w' hw => ⟨lst_addr hw (List.mem_append_right _ (List.mem_append_left _ (.head _))), hw⟩) ?_
        refine WC.pure (fun hla => ?_)
        refine WC.loop2 (fun (z : Int) (sk : RelG) => [(1, .slice (some q1) n c), (2, .slice a2 m2 c2), (7, .int .i64 (wd : Int)), (8, ptr g0.r), (10, ptr s.r), (12, .int .i64 (i : Int)), (13, .slice la ys.length lc), (14, .int .i64 z)])
            (fun z sk w' => (-1 ≤ z ∧ z < (ys.length : Int) ∧ RelOK sk ∧ sk.width = wd ∧ sk.r = s.r ∧ Mid (rp sb) (ys.map Col.l) z (rp sk) ∧ (sk.es.length : Int) ≤ 2 * ((bs.take i).map List.length).sum + 2 * ((ys.length : Int) - 1 - z)) ∧ Sat w (fun _ => False) (fun b => b < w.heap.size) w (relA sk ++ (lstA la lc ys ++ relA g0)) w')
            (fun z _ => (z + 1).toNat) ((ys.length : Int) - 1) sb ⟨rfl, rfl, rfl, rfl, rfl, rfl, rfl, rfl, trivial⟩ (fun w' hw => ⟨⟨by omega, by omega, hbok, hbw, hbr, by have := Mid.start (rp sb) (ys.map Col.l); rwa [List.length_map] at this, by omega⟩, hw⟩) ?_
        intro z sk
        refine WC.pure (fun hk => ?_)
        obtain ⟨hz1, hz2, hokk, hkw, hkr, hmid, hekl⟩ := hk
        refine WC.seq ?_
        refine WC.seq ?_
        refine WC.region ?_
        refine WL.val (OV.move rfl) rfl ?_
        refine WL.val (OV.geq rfl rfl) rfl ?_
        refine WL.nil ?_
        refine WX.next ?_
        refine WC.cond rfl (fun c66 => ?_) (fun c66 => ?_)
        · try simp only [decide_eq_true_eq, decide_eq_false_iff_not, Bool.not_eq_true', Bool.not_eq_false'] at c66
          refine WC.skip ?_
          refine WX.next ?_
          refine WC.seq ?_
          refine WC.block ?_
          refine WC.seq ?_
          obtain ⟨k, rfl⟩ : ∃ k : Nat, z = (k : Int) := ⟨z.toNat, by omega⟩
          refine WC.region ?_
          refine WL.val (OV.move rfl) rfl ?_
          refine WL.val (OV.move rfl) rfl ?_
          refine WL.val (OV.move rfl) rfl ?_
          have hkl : k < ys.length := by omega
          obtain ⟨y, hy, hym, hyl, hyi, hyn2⟩ := col_wide hys hrl.i64 hkl
          have hyn : y.l.length ≤ 1099511627776 := by omega
          obtain ⟨q5, rfl⟩ := hla (by omega)
          refine WL.val (OV.indexSliceA (i := k) rfl rfl T.u29 T.z23 (by omega)) rfl ?_
          refine WL.val (OV.load1 (v := encC y) rfl T.u23 rfl (fun _ hw => row_cells hw (List.mem_append_right _ (List.mem_append_left _ (.head _))) k _ (by rw [List.getElem?_map, hy]; rfl))) rfl ?_
          have hi64 := hyi
          refine WL.callTA (ι := RelG) (vs := [ptr sk.r, encC y]) (vv := fun _ => .tuple #[.bool (addV sk.width (rp sk) y.l), .int .i64 (addE sk.width y.l)]) (pp := fun qq => rp qq = addRP sk.width (rp sk) y.l ∧ RelOK qq ∧ RelLe sk qq) (relA sk) (AA := fun qq => relA qq) rfl (by kernel_rfl) (by rw [hkr]; rfl) rfl (fun w' hw' hH => (add_calls sk hokk y.l y.a y.l.length y.c hi64 (by omega) (by omega) w' (RI.of_row (c := y.c) hw' (List.mem_append_right _ (List.mem_append_left _ (colmem hym)))) (fun b hb _ => Sat.sepO hw' (List.mem_append_left _ (colmem hym)) ⟨b, hb, rfl⟩) hH).mono (fun en w'' ⟨h1, g', h2, h3, h4, h5⟩ => ⟨g', h1, ⟨h2, h3, h4⟩, h5⟩)) ?_
          rintro g74 hpp
          obtain ⟨hrp74, ok74, le74⟩ : rp g74 = addRP sk.width (rp sk) y.l ∧ RelOK g74 ∧ RelLe sk g74 := hpp
          refine WL.nil ?_
          refine WX.next ?_
          refine WC.seq ?_
          refine WC.region ?_
          refine WL.val (OV.move rfl) rfl ?_
          refine WL.val (OV.move rfl) rfl ?_
          first
          | (refine WL.val (OV.lenSlice rfl T.u23) rfl ?_)
          | (refine WL.val (OV.lenStr rfl T.u23) rfl ?_)
          refine WL.val (OV.lss rfl rfl) rfl ?_
          refine WL.nil ?_
          refine WX.next ?_
          refine WC.cond rfl (fun c78 => ?_) (fun c78 => ?_)
          · try simp only [decide_eq_true_eq, decide_eq_false_iff_not, Bool.not_eq_true', Bool.not_eq_false'] at c78
            refine WC.seq ?_
            refine WC.region ?_
            refine WL.val (OV.move rfl) rfl ?_
            refine WL.val (OV.move rfl) rfl ?_
            obtain ⟨q6, rfl⟩ := hr2.some (by omega)
            have hkh : k < how.length := by have := hr2.1; omega
            refine WL.val (OV.indexSliceA (i := k) rfl rfl T.u23 T.z3 (by omega)) rfl ?_
            refine WL.val (OV.load1 (v := .int .i64 (how.getD k 0)) rfl T.u3 rfl (fun _ hw => (hr2.keeps hw.keeps).cell hkh)) rfl ?_
            refine WL.val (OV.move rfl) rfl ?_
            first
            | (refine WL.val (OV.lenSlice rfl T.u29) rfl ?_)
            | (refine WL.val (OV.lenStr rfl T.u29) rfl ?_)
            have hmod := Int.tmod_lt_of_pos (how.getD k 0) (show (0 : Int) < (ys.length : Int) by omega)
            have hmod2 := Int.tmod_lt_of_pos (-(how.getD k 0)) (show (0 : Int) < (ys.length : Int) by omega)
            rw [Int.neg_tmod] at hmod2
            refine WL.val (OV.rem rfl rfl (by simp; intro h0; subst h0; simp at hkl)) rfl ?_
            refine WL.val (OV.assign rfl) rfl ?_
            refine WL.nil ?_
            refine WX.next ?_
            refine WC.seq ?_
            refine WC.seq ?_
            refine WC.region ?_
            refine WL.val (OV.move rfl) rfl ?_
            refine WL.val (OV.lss rfl rfl) rfl ?_
            refine WL.nil ?_
            refine WX.next ?_
            refine WC.cond rfl (fun c87 => ?_) (fun c87 => ?_)
            · try simp only [decide_eq_true_eq, decide_eq_false_iff_not, Bool.not_eq_true', Bool.not_eq_false'] at c87
              refine WC.region ?_
              refine WL.val (OV.move rfl) rfl ?_
              refine WL.val ((OV.neg rfl).cast (u := .int .i64 (-((how.getD k 0).tmod (ys.length : Int)))) (by rw [wrap_i64 (by omega)])) rfl ?_
              refine WL.val (OV.assign rfl) rfl ?_
              refine WL.nil ?_
              refine WX.next ?_
              obtain ⟨u, hu⟩ : ∃ u : Nat, -((how.getD k 0).tmod (ys.length : Int)) = (u : Int) := ⟨(-((how.getD k 0).tmod (ys.length : Int))).toNat, by omega⟩
              have hul : u < ys.length := by omega
              
              refine WC.region ?_
              refine WL.val (OV.move rfl) rfl ?_
              refine WL.val (OV.move rfl) rfl ?_
              refine WL.val (OV.move rfl) rfl ?_
              obtain ⟨y2, hy2, hy2m, hy2l, hy2i, hy2n⟩ := col_wide hys hrl.i64 hul
              refine WL.val (OV.indexSliceA (i := u) rfl (by rw [← hu]; rfl) T.u29 T.z23 (by omega)) rfl ?_
              refine WL.val (OV.load1 (v := encC y2) rfl T.u23 rfl (fun _ hw => row_cells hw (List.mem_append_right _ (List.mem_append_left _ (.head _))) u _ (by rw [List.getElem?_map, hy2]; rfl))) rfl ?_
              have hi64 := hy2i
              refine WL.callTA (ι := RelG) (vs := [ptr g74.r, encC y2]) (vv := fun _ => .tuple #[.bool (addV g74.width (rp g74) y2.l), .int .i64 (addE g74.width y2.l)]) (pp := fun qq => rp qq = addRP g74.width (rp g74) y2.l ∧ RelOK qq ∧ RelLe g74 qq) (relA g74) (AA := fun qq => relA qq) rfl (by kernel_rfl) (by rw [le74.r, hkr]; rfl) rfl (fun w' hw' hH => (add_calls g74 ok74 y2.l y2.a y2.l.length y2.c hi64 (by omega) (by have q1 := es_len hrp74; have q2 := addRP_len sk.width (rp sk) y.l; rw [rp_len] at q2; omega) w' (RI.of_row (c := y2.c) hw' (List.mem_append_right _ (List.mem_append_left _ (colmem hy2m)))) (fun b hb _ => Sat.sepO hw' (List.mem_append_left _ (colmem hy2m)) ⟨b, hb, rfl⟩) hH).mono (fun en w'' ⟨h1, g', h2, h3, h4, h5⟩ => ⟨g', h1, ⟨h2, h3, h4⟩, h5⟩)) ?_
              rintro g95 hpp
              obtain ⟨hrp95, ok95, le95⟩ : rp g95 = addRP g74.width (rp g74) y2.l ∧ RelOK g95 ∧ RelLe g74 g95 := hpp
              refine WL.nil ?_
              refine WX.block_normal ?_
              refine WX.next ?_
              refine WC.region ?_
              refine WL.val (OV.move rfl) rfl ?_
              refine WL.val (OV.subI rfl rfl (by omega)) rfl ?_
              refine WL.val (OV.assign rfl) rfl ?_
              refine WL.nil ?_
              exact WX.round2 ((k : Int) - 1) g95 ⟨rfl, rfl, rfl, rfl, rfl, rfl, rfl, rfl, trivial⟩ (fun w' hw => ⟨⟨by omega, by omega, ok95, le95.width.trans (le74.width.trans hkw), le95.r.trans (le74.r.trans hkr), by rw [hrp95, hrp74, le74.width, hkw]; exact (hmid.step hyn2 hyl).add hy2n (List.mem_of_getElem? hy2l), by
                have q1 := es_len hrp74
                have q2 := addRP_len sk.width (rp sk) y.l
                rw [rp_len] at q2
                have q3 := es_len hrp95
                have q4 := addRP_len g74.width (rp g74) y2.l
                rw [rp_len] at q4
                omega⟩, hw⟩) (by show ((k : Int) - 1 + 1).toNat < ((k : Int) + 1).toNat; omega)
            · try simp only [decide_eq_true_eq, decide_eq_false_iff_not, Bool.not_eq_true', Bool.not_eq_false'] at c87
              refine WC.skip ?_
              refine WX.next ?_
              obtain ⟨u, hu⟩ : ∃ u : Nat, (how.getD k 0).tmod (ys.length : Int) = (u : Int) := ⟨((how.getD k 0).tmod (ys.length : Int)).toNat, by omega⟩
              have hul : u < ys.length := by omega
              
              refine WC.region ?_
              refine WL.val (OV.move rfl) rfl ?_
              refine WL.val (OV.move rfl) rfl ?_
              refine WL.val (OV.move rfl) rfl ?_
              obtain ⟨y2, hy2, hy2m, hy2l, hy2i, hy2n⟩ := col_wide hys hrl.i64 hul
              refine WL.val (OV.indexSliceA (i := u) rfl (by rw [← hu]; rfl) T.u29 T.z23 (by omega)) rfl ?_
              refine WL.val (OV.load1 (v := encC y2) rfl T.u23 rfl (fun _ hw => row_cells hw (List.mem_append_right _ (List.mem_append_left _ (.head _))) u _ (by rw [List.getElem?_map, hy2]; rfl))) rfl ?_
              have hi64 := hy2i
              refine WL.callTA (ι := RelG) (vs := [ptr g74.r, encC y2]) (vv := fun _ => .tuple #[.bool (addV g74.width (rp g74) y2.l), .int .i64 (addE g74.width y2.l)]) (pp := fun qq => rp qq = addRP g74.width (rp g74) y2.l ∧ RelOK qq ∧ RelLe g74 qq) (relA g74) (AA := fun qq => relA qq) rfl (by kernel_rfl) (by rw [le74.r, hkr]; rfl) rfl (fun w' hw' hH => (add_calls g74 ok74 y2.l y2.a y2.l.length y2.c hi64 (by omega) (by have q1 := es_len hrp74; have q2 := addRP_len sk.width (rp sk) y.l; rw [rp_len] at q2; omega) w' (RI.of_row (c := y2.c) hw' (List.mem_append_right _ (List.mem_append_left _ (colmem hy2m)))) (fun b hb _ => Sat.sepO hw' (List.mem_append_left _ (colmem hy2m)) ⟨b, hb, rfl⟩) hH).mono (fun en w'' ⟨h1, g', h2, h3, h4, h5⟩ => ⟨g', h1, ⟨h2, h3, h4⟩, h5⟩)) ?_
              rintro g95 hpp
              obtain ⟨hrp95, ok95, le95⟩ : rp g95 = addRP g74.width (rp g74) y2.l ∧ RelOK g95 ∧ RelLe g74 g95 := hpp
              refine WL.nil ?_
              refine WX.block_normal ?_
              refine WX.next ?_
              refine WC.region ?_
              refine WL.val (OV.move rfl) rfl ?_
              refine WL.val (OV.subI rfl rfl (by omega)) rfl ?_
              refine WL.val (OV.assign rfl) rfl ?_
              refine WL.nil ?_
              exact WX.round2 ((k : Int) - 1) g95 ⟨rfl, rfl, rfl, rfl, rfl, rfl, rfl, rfl, trivial⟩ (fun w' hw => ⟨⟨by omega, by omega, ok95, le95.width.trans (le74.width.trans hkw), le95.r.trans (le74.r.trans hkr), by rw [hrp95, hrp74, le74.width, hkw]; exact (hmid.step hyn2 hyl).add hy2n (List.mem_of_getElem? hy2l), by
                have q1 := es_len hrp74
                have q2 := addRP_len sk.width (rp sk) y.l
                rw [rp_len] at q2
                have q3 := es_len hrp95
                have q4 := addRP_len g74.width (rp g74) y2.l
                rw [rp_len] at q4
                omega⟩, hw⟩) (by show ((k : Int) - 1 + 1).toNat < ((k : Int) + 1).toNat; omega)
          · try simp only [decide_eq_true_eq, decide_eq_false_iff_not, Bool.not_eq_true', Bool.not_eq_false'] at c78
            refine WC.skip ?_
            refine WX.block_normal ?_
            refine WX.next ?_
            refine WC.region ?_
            refine WL.val (OV.move rfl) rfl ?_
            refine WL.val (OV.subI rfl rfl (by omega)) rfl ?_
            refine WL.val (OV.assign rfl) rfl ?_
            refine WL.nil ?_
            exact WX.round2 ((k : Int) - 1) g74 ⟨rfl, rfl, rfl, rfl, rfl, rfl, rfl, rfl, trivial⟩ (fun w' hw => ⟨⟨by omega, by omega, ok74, le74.width.trans hkw, le74.r.trans hkr, by rw [hrp74, hkw]; exact hmid.step hyn2 hyl, by
              have q1 := es_len hrp74
              have q2 := addRP_len sk.width (rp sk) y.l
              rw [rp_len] at q2
              skip
              omega⟩, hw⟩) (by show ((k : Int) - 1 + 1).toNat < ((k : Int) + 1).toNat; omega)
        · try simp only [decide_eq_true_eq, decide_eq_false_iff_not, Bool.not_eq_true', Bool.not_eq_false'] at c66
          refine WC.exit ?_
          refine WX.then_exit ?_
          refine WX.then_exit ?_
          refine WX.block_hit ?_
          refine WX.block_normal ?_
          refine WX.next ?_
          refine WC.region ?_
          refine WL.val (OV.move rfl) rfl ?_
          first
          | (refine WL.val (OV.addI rfl rfl (by omega)) rfl ?_)
          | (refine WL.val (OV.add rfl rfl) rfl ?_)
          refine WL.val (OV.assign rfl) rfl ?_
          refine WL.nil ?_
          have hlast := hmid.grow (by omega) hbp hys
          exact WX.round2 (i + 1) sk ⟨rfl, rfl, rfl, rfl, by rw [hkr]; rfl, rfl, trivial⟩ (fun w' hw => ⟨⟨by omega, hokk, hkw, by rw [growTo, hgd]; exact hlast, by omega⟩, hw.pick [relA sk, lstA la lc ys, relA g0] [0, 2] 3 rfl (by decide) (by decide)⟩) (by show n - (i + 1) < n - i; omega)
    · try simp only [decide_eq_true_eq, decide_eq_false_iff_not, Bool.not_eq_true', Bool.not_eq_false'] at c49
      refine WC.exit ?_
      refine WX.then_exit ?_
      refine WX.then_exit ?_
      refine WX.block_hit ?_
      refine WX.next ?_
      refine WC.seq ?_
      refine WC.seq ?_
      refine WC.region ?_
      refine WL.val (OV.assign rfl) rfl ?_
      refine WL.nil ?_
      refine WX.next ?_
      refine WC.block ?_
      have hin : i = n := by omega
      subst hin
      have hperm : (rp g0).Perm (rp s) := by
        refine SameM.perm (fun p => ?_) g0ok hok
        rw [g0p]
        exact (hsame p).symm
      refine WC.loop3 (fun (e : Nat) (gr gs : RelG) => [(8, ptr g0.r), (10, ptr s.r), (16, .int .i64 ((2 ^ e : Nat) : Int))])
          (fun e gr gs w' => (e ≤ 3 ∧ RelOK gr ∧ gr.r = g0.r ∧ rp gr = rp g0 ∧ RelOK gs ∧ gs.r = s.r ∧ rp gs = rp s) ∧ Sat w (fun _ => False) (fun b => b < w.heap.size) w (relA gr ++ relA gs) w')
          (fun e _ _ => 3 - e) 0 g0 s ⟨rfl, rfl, rfl, trivial⟩ (fun w' hw => ⟨⟨by omega, g0ok, rfl, rfl, hok, rfl, rfl⟩, hw.perm List.perm_append_comm⟩) ?_
      intro e gr gs
      refine WC.pure (fun he => ?_)
      obtain ⟨he, hrok, hrr0, hrp, hsok, hsr0, hsp⟩ := he
      have he3 : ¬ ((2 ^ e : Nat) : Int) < 8 → e = 3 := by
        intro h
        have : e = 0 ∨ e = 1 ∨ e = 2 ∨ e = 3 := by omega
        rcases this with rfl | rfl | rfl | rfl <;> simp at h ⊢
      have he2 : ((2 ^ e : Nat) : Int) < 8 → e < 3 := by
        intro h
        have : e = 0 ∨ e = 1 ∨ e = 2 ∨ e = 3 := by omega
        rcases this with rfl | rfl | rfl | rfl <;> simp at h ⊢
      refine WC.seq ?_
      refine WC.seq ?_
      refine WC.region ?_
      refine WL.val (OV.move rfl) rfl ?_
      refine WL.val (OV.lss rfl rfl) rfl ?_
      refine WL.nil ?_
      refine WX.next ?_
      refine WC.cond rfl (fun c97 => ?_) (fun c97 => ?_)
      · try simp only [decide_eq_true_eq, decide_eq_false_iff_not, Bool.not_eq_true', Bool.not_eq_false'] at c97
        refine WC.skip ?_
        refine WX.next ?_
        refine WC.seq ?_
        refine WC.block ?_
        refine WC.seq ?_
        refine WC.region ?_
        refine WL.val (OV.move rfl) rfl ?_
        refine WL.val (OV.move rfl) rfl ?_
        refine WL.callTA (ι := RelG × Option Addr × Nat × List Col) (vs := [ptr gr.r, .int .i64 (2 ^ e : Nat)]) (vv := fun q => .slice q.2.1 q.2.2.2.length q.2.2.1) (pp := fun q => q.2.2.2.map Col.l = selR (rp gr) (2 ^ e : Nat) [] [] ∧ RelOK q.1 ∧ RelLe gr q.1 ∧ q.1.es = gr.es) (relA gr) (AA := fun q => relA q.1 ++ lstA q.2.1 q.2.2.1 q.2.2.2) rfl (by kernel_rfl) (by rw [hrr0]; rfl) rfl (fun w' hw' hH => (rows_calls gr hrok (2 ^ e : Nat) w' hH).mono (fun en w'' ⟨g', la, lc, ys, h1, h2, h3, h4, h5, h6⟩ => ⟨(g', la, lc, ys), h1, ⟨h2, h3, h4, h5⟩, h6⟩)) ?_
        rintro ⟨g1, la1, lc1, ys1⟩ hpp
        obtain ⟨hys1, g1ok, g1le, g1es⟩ : ys1.map Col.l = selR (rp gr) (2 ^ e : Nat) [] [] ∧ RelOK g1 ∧ RelLe gr g1 ∧ g1.es = gr.es := hpp
        have hys1n : ys1.length ≤ gr.es.length := sel_all_len hys1
        rw [List.append_assoc]
        refine WL.val (OV.move rfl) rfl ?_
        refine WL.val (OV.move rfl) rfl ?_
        refine WL.focus (ow' := relA gs ++ (relA g1 ++ lstA la1 lc1 ys1)) (perm_cat [relA g1, lstA la1 lc1 ys1, relA gs] [2, 0, 1] (by decide) rfl) ?_
        refine WL.callTA (ι := RelG × Option Addr × Nat × List Col) (vs := [ptr gs.r, .int .i64 (2 ^ e : Nat)]) (vv := fun q => .slice q.2.1 q.2.2.2.length q.2.2.1) (pp := fun q => q.2.2.2.map Col.l = selR (rp gs) (2 ^ e : Nat) [] [] ∧ RelOK q.1 ∧ RelLe gs q.1 ∧ q.1.es = gs.es) (relA gs) (AA := fun q => relA q.1 ++ lstA q.2.1 q.2.2.1 q.2.2.2) rfl (by kernel_rfl) (by rw [hsr0]; rfl) rfl (fun w' hw' hH => (rows_calls gs hsok (2 ^ e : Nat) w' hH).mono (fun en w'' ⟨g', la, lc, ys, h1, h2, h3, h4, h5, h6⟩ => ⟨(g', la, lc, ys), h1, ⟨h2, h3, h4, h5⟩, h6⟩)) ?_
        rintro ⟨g2, la2, lc2, ys2⟩ hpp
        obtain ⟨hys2, g2ok, g2le, g2es⟩ : ys2.map Col.l = selR (rp gs) (2 ^ e : Nat) [] [] ∧ RelOK g2 ∧ RelLe gs g2 ∧ g2.es = gs.es := hpp
        have hys2n : ys2.length ≤ gs.es.length := sel_all_len hys2
        rw [List.append_assoc]
        have hal1 : ∀ r ∈ ys1.map Col.l, r.length = gr.width ∧ i64s r := by rw [hys1]; exact sel_lens hrok
        have hal2 : ∀ r ∈ ys2.map Col.l, r.length = gs.width ∧ i64s r := by rw [hys2]; exact sel_lens hsok
        have hsame2 : ys1.map Col.l = ys2.map Col.l := by rw [hys1, hys2, hrp, hsp]; exact selR_perm hperm _ _ _
        have hb1 := hrok.wl
        have hb2 := hsok.wl
        have hb3 := hrok.el
        have hb4 := hsok.el
        refine WL.call0 (v := .bool true) (by kernel_rfl) rfl rfl (fun w' hw' => (sameRows_calls (ys1.map Col.l) (ys2.map Col.l) la1 la2 ys1.length lc1 ys2.length lc2 w'
            (RLi.of_lst (c := lc1) hw' (fun i hi => List.mem_append_right _ (List.mem_append_right _ (List.mem_append_right _ hi))) (by omega) (fun l hl => by have := (hal1 l hl).1; omega) (fun l hl => (hal1 l hl).2))
            (RLi.of_lst (c := lc2) hw' (fun i hi => List.mem_append_right _ (List.mem_append_left _ hi)) (by omega) (fun l hl => by have := (hal2 l hl).1; omega) (fun l hl => (hal2 l hl).2))).mono (fun en w'' ⟨h1, h2⟩ => ⟨h1.trans (by rw [decide_eq_true hsame2]), h2⟩)) ?_
        refine WL.val (OV.not rfl) rfl ?_
        refine WL.nil ?_
        refine WX.next ?_
        refine WC.condF rfl ?_
        refine WC.skip ?_
        refine WX.block_normal ?_
        refine WX.next ?_
        refine WC.region ?_
        refine WL.val (OV.move rfl) rfl ?_
        refine WL.val ((OV.mulI rfl rfl (by have h0 : (0:Int) ≤ ((2 ^ e : Nat) : Int) := Int.natCast_nonneg _
                                            have h8 : ((2 ^ e : Nat) : Int) < 8 := c97
                                            revert h0 h8
                                            generalize ((2 ^ e : Nat) : Int) = q
                                            intro h0 h8
                                            constructor <;> omega)).cast (u := .int .i64 ((2 ^ (e + 1) : Nat) : Int)) (by rw [Nat.pow_succ, Int.natCast_mul]; rfl)) rfl ?_
        refine WL.val (OV.assign rfl) rfl ?_
        refine WL.nil ?_
        have he4 := he2 (by simpa using c97)
        exact WX.round3 (e + 1) g1 g2 ⟨rfl, rfl, rfl, trivial⟩ (fun w' hw => ⟨⟨by omega, g1ok, g1le.r.trans hrr0, by unfold rp at hrp ⊢; rw [g1es, hrp], g2ok, g2le.r.trans hsr0, by unfold rp at hsp ⊢; rw [g2es, hsp]⟩, hw.pick [relA g2, lstA la2 lc2 ys2, relA g1, lstA la1 lc1 ys1] [2, 0] 4 rfl (by decide) (by decide)⟩) (by show 3 - (e + 1) < 3 - e; omega)
      · try simp only [decide_eq_true_eq, decide_eq_false_iff_not, Bool.not_eq_true', Bool.not_eq_false'] at c97
        refine WC.exit ?_
        refine WX.then_exit ?_
        refine WX.then_exit ?_
        refine WX.block_hit ?_
        refine WX.next ?_
        refine WC.seq ?_
        refine WC.region ?_
        refine WL.val (OV.assign rfl) rfl ?_
        refine WL.nil ?_
        refine WX.next ?_
        refine WC.ret ?_
        exact WX.ret1 rfl rfl rfl (fun w' hw => ⟨rfl, hw.fr⟩)
  · try simp only [decide_eq_true_eq, decide_eq_false_iff_not, Bool.not_eq_true', Bool.not_eq_false'] at g46
    refine WL.skip (b := false) rfl rfl rfl rfl ?_
    refine WL.skip (b := false) rfl rfl rfl rfl ?_
    refine WL.val (OV.pickF rfl rfl) rfl ?_
    refine WL.nil ?_
    refine WX.next ?_
    refine WC.condF rfl ?_
    refine WC.exit ?_
    refine WX.then_exit ?_
    refine WX.then_exit ?_
    refine WX.block_hit ?_
    refine WX.next ?_
    refine WC.seq ?_
    refine WC.seq ?_
    refine WC.region ?_
    refine WL.val (OV.assign rfl) rfl ?_
    refine WL.nil ?_
    refine WX.next ?_
    refine WC.block ?_
    have hin : i = n := by omega
    subst hin
    have hperm : (rp g0).Perm (rp s) := by
      refine SameM.perm (fun p => ?_) g0ok hok
      rw [g0p]
      exact (hsame p).symm
    refine WC.loop3 (fun (e : Nat) (gr gs : RelG) => [(8, ptr g0.r), (10, ptr s.r), (16, .int .i64 ((2 ^ e : Nat) : Int))])
        (fun e gr gs w' => (e ≤ 3 ∧ RelOK gr ∧ gr.r = g0.r ∧ rp gr = rp g0 ∧ RelOK gs ∧ gs.r = s.r ∧ rp gs = rp s) ∧ Sat w (fun _ => False) (fun b => b < w.heap.size) w (relA gr ++ relA gs) w')
        (fun e _ _ => 3 - e) 0 g0 s ⟨rfl, rfl, rfl, trivial⟩ (fun w' hw => ⟨⟨by omega, g0ok, rfl, rfl, hok, rfl, rfl⟩, hw.perm List.perm_append_comm⟩) ?_
    intro e gr gs
    refine WC.pure (fun he => ?_)
    obtain ⟨he, hrok, hrr0, hrp, hsok, hsr0, hsp⟩ := he
    have he3 : ¬ ((2 ^ e : Nat) : Int) < 8 → e = 3 := by
      intro h
      have : e = 0 ∨ e = 1 ∨ e = 2 ∨ e = 3 := by omega
      rcases this with rfl | rfl | rfl | rfl <;> simp at h ⊢
    have he2 : ((2 ^ e : Nat) : Int) < 8 → e < 3 := by
      intro h
      have : e = 0 ∨ e = 1 ∨ e = 2 ∨ e = 3 := by omega
      rcases this with rfl | rfl | rfl | rfl <;> simp at h ⊢
    refine WC.seq ?_
    refine WC.seq ?_
    refine WC.region ?_
    refine WL.val (OV.move rfl) rfl ?_
    refine WL.val (OV.lss rfl rfl) rfl ?_
    refine WL.nil ?_
    refine WX.next ?_
    refine WC.cond rfl (fun c97 => ?_) (fun c97 => ?_)
    · try simp only [decide_eq_true_eq, decide_eq_false_iff_not, Bool.not_eq_true', Bool.not_eq_false'] at c97
      refine WC.skip ?_
      refine WX.next ?_
      refine WC.seq ?_
      refine WC.block ?_
      refine WC.seq ?_
      refine WC.region ?_
      refine WL.val (OV.move rfl) rfl ?_
      refine WL.val (OV.move rfl) rfl ?_
      refine WL.callTA (ι := RelG × Option Addr × Nat × List Col) (vs := [ptr gr.r, .int .i64 (2 ^ e : Nat)]) (vv := fun q => .slice q.2.1 q.2.2.2.length q.2.2.1) (pp := fun q => q.2.2.2.map Col.l = selR (rp gr) (2 ^ e : Nat) [] [] ∧ RelOK q.1 ∧ RelLe gr q.1 ∧ q.1.es = gr.es) (relA gr) (AA := fun q => relA q.1 ++ lstA q.2.1 q.2.2.1 q.2.2.2) rfl (by kernel_rfl) (by rw [hrr0]; rfl) rfl (fun w' hw' hH => (rows_calls gr hrok (2 ^ e : Nat) w' hH).mono (fun en w'' ⟨g', la, lc, ys, h1, h2, h3, h4, h5, h6⟩ => ⟨(g', la, lc, ys), h1, ⟨h2, h3, h4, h5⟩, h6⟩)) ?_
      rintro ⟨g1, la1, lc1, ys1⟩ hpp
      obtain ⟨hys1, g1ok, g1le, g1es⟩ : ys1.map Col.l = selR (rp gr) (2 ^ e : Nat) [] [] ∧ RelOK g1 ∧ RelLe gr g1 ∧ g1.es = gr.es := hpp
      have hys1n : ys1.length ≤ gr.es.length := sel_all_len hys1
      rw [List.append_assoc]
      refine WL.val (OV.move rfl) rfl ?_
      refine WL.val (OV.move rfl) rfl ?_
      refine WL.focus (ow' := relA gs ++ (relA g1 ++ lstA la1 lc1 ys1)) (perm_cat [relA g1, lstA la1 lc1 ys1, relA gs] [2, 0, 1] (by decide) rfl) ?_
      refine WL.callTA (ι := RelG × Option Addr × Nat × List Col) (vs := [ptr gs.r, .int .i64 (2 ^ e : Nat)]) (vv := fun q => .slice q.2.1 q.2.2.2.length q.2.2.1) (pp := fun q => q.2.2.2.map Col.l = selR (rp gs) (2 ^ e : Nat) [] [] ∧ RelOK q.1 ∧ RelLe gs q.1 ∧ q.1.es = gs.es) (relA gs) (AA := fun q => relA q.1 ++ lstA q.2.1 q.2.2.1 q.2.2.2) rfl (by kernel_rfl) (by rw [hsr0]; rfl) rfl (fun w' hw' hH => (rows_calls gs hsok (2 ^ e : Nat) w' hH).mono (fun en w'' ⟨g', la, lc, ys, h1, h2, h3, h4, h5, h6⟩ => ⟨(g', la, lc, ys), h1, ⟨h2, h3, h4, h5⟩, h6⟩)) ?_
      rintro ⟨g2, la2, lc2, ys2⟩ hpp
      obtain ⟨hys2, g2ok, g2le, g2es⟩ : ys2.map Col.l = selR (rp gs) (2 ^ e : Nat) [] [] ∧ RelOK g2 ∧ RelLe gs g2 ∧ g2.es = gs.es := hpp
      have hys2n : ys2.length ≤ gs.es.length := sel_all_len hys2
      rw [List.append_assoc]
      have hal1 : ∀ r ∈ ys1.map Col.l, r.length = gr.width ∧ i64s r := by rw [hys1]; exact sel_lens hrok
      have hal2 : ∀ r ∈ ys2.map Col.l, r.length = gs.width ∧ i64s r := by rw [hys2]; exact sel_lens hsok
      have hsame2 : ys1.map Col.l = ys2.map Col.l := by rw [hys1, hys2, hrp, hsp]; exact selR_perm hperm _ _ _
      have hb1 := hrok.wl
      have hb2 := hsok.wl
      have hb3 := hrok.el
      have hb4 := hsok.el
      refine WL.call0 (v := .bool true) (by kernel_rfl) rfl rfl (fun w' hw' => (sameRows_calls (ys1.map Col.l) (ys2.map Col.l) la1 la2 ys1.length lc1 ys2.length lc2 w'
          (RLi.of_lst (c := lc1) hw' (fun i hi => List.mem_append_right _ (List.mem_append_right _ (List.mem_append_right _ hi))) (by omega) (fun l hl => by have := (hal1 l hl).1; omega) (fun l hl => (hal1 l hl).2))
          (RLi.of_lst (c := lc2) hw' (fun i hi => List.mem_append_right _ (List.mem_append_left _ hi)) (by omega) (fun l hl => by have := (hal2 l hl).1; omega) (fun l hl => (hal2 l hl).2))).mono (fun en w'' ⟨h1, h2⟩ => ⟨h1.trans (by rw [decide_eq_true hsame2]), h2⟩)) ?_
      refine WL.val (OV.not rfl) rfl ?_
      refine WL.nil ?_
      refine WX.next ?_
      refine WC.condF rfl ?_
      refine WC.skip ?_
      refine WX.block_normal ?_
      refine WX.next ?_
      refine WC.region ?_
      refine WL.val (OV.move rfl) rfl ?_
      refine WL.val ((OV.mulI rfl rfl (by have h0 : (0:Int) ≤ ((2 ^ e : Nat) : Int) := Int.natCast_nonneg _
                                          have h8 : ((2 ^ e : Nat) : Int) < 8 := c97
                                          revert h0 h8
                                          generalize ((2 ^ e : Nat) : Int) = q
                                          intro h0 h8
                                          constructor <;> omega)).cast (u := .int .i64 ((2 ^ (e + 1) : Nat) : Int)) (by rw [Nat.pow_succ, Int.natCast_mul]; rfl)) rfl ?_
      refine WL.val (OV.assign rfl) rfl ?_
      refine WL.nil ?_
      have he4 := he2 (by simpa using c97)
      exact WX.round3 (e + 1) g1 g2 ⟨rfl, rfl, rfl, trivial⟩ (fun w' hw => ⟨⟨by omega, g1ok, g1le.r.trans hrr0, by unfold rp at hrp ⊢; rw [g1es, hrp], g2ok, g2le.r.trans hsr0, by unfold rp at hsp ⊢; rw [g2es, hsp]⟩, hw.pick [relA g2, lstA la2 lc2 ys2, relA g1, lstA la1 lc1 ys1] [2, 0] 4 rfl (by decide) (by decide)⟩) (by show 3 - (e + 1) < 3 - e; omega)
    · try simp only [decide_eq_true_eq, decide_eq_false_iff_not, Bool.not_eq_true', Bool.not_eq_false'] at c97
      refine WC.exit ?_
      refine WX.then_exit ?_
      refine WX.then_exit ?_
      refine WX.block_hit ?_
      refine WX.next ?_
      refine WC.seq ?_
      refine WC.region ?_
      refine WL.val (OV.assign rfl) rfl ?_
      refine WL.nil ?_
      refine WX.next ?_
      refine WC.ret ?_
      exact WX.ret1 rfl rfl rfl (fun w' hw => ⟨rfl, hw.fr⟩)

end Go.Proofs.YtijplknkpkmblaaDoor
