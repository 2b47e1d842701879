/- Contracts of functions of the program: what each returns and leaves in memory. Printed by gen.py and walk.py. -/
import Derived.Test.YtijplknkpkmblaaDoorL9
namespace Go.Proofs.YtijplknkpkmblaaDoor
open Go Go.Hw
set_option linter.unusedSimpArgs false
set_option linter.unusedVariables false
/-! ### A relation that has grown -/
def turnRP (L : List (List Int × Nat)) : List (List Int × Nat) := L.map fun p => (p.1, if p.2 = 4 then 2 else 1)
theorem rp_turn (g : RelG) : rp (turnG g) = turnRP (rp g) := by
  simp [rp, turnRP, turnG, turnE]
def addsRP (wd : Nat) (L : List (List Int × Nat)) (ls : List (List Int)) : List (List Int × Nat) := ls.foldl (fun L l => addRP wd L (wideL l wd)) L
theorem addsRP_snoc (wd : Nat) (L : List (List Int × Nat)) (ls : List (List Int)) (l : List Int) : addsRP wd L (ls ++ [l]) = addRP wd (addsRP wd L ls) (wideL l wd) := by simp [addsRP]
/-- Behind the first batches. -/
def growTo (wd : Nat) (bs : List (List (List Int))) : Nat → List (List Int × Nat)
  | 0 => []
  | i + 1 => addsRP wd (if 0 < i then turnRP (growTo wd bs i) else growTo wd bs i) (bs.getD i [])
/-- A list of batches. -/
structure BLi (w : World) (a : Option Addr) (n : Nat) (bs : List (List (List Int))) : Prop where
  len : bs.length = n
  nil : a = none → n = 0
  at_ : ∀ q, a = some q → ∀ i ls, bs[i]? = some ls → ∃ a' c', w.cell? (q.add i) = some (.slice a' ls.length c') ∧ RLi w a' ls.length ls
  sum : bs.length + (bs.map List.length).sum ≤ 1048576
theorem BLi.keeps {w w' : World} {a : Option Addr} {n : Nat} {bs : List (List (List Int))} (h : BLi w a n bs) (k : Keeps w w') : BLi w' a n bs :=
  ⟨h.len, h.nil, fun q hq i l hl => by
    obtain ⟨a', c', h1, h2⟩ := h.at_ q hq i l hl
    exact ⟨a', c', k _ _ h1, h2.keeps k⟩, h.sum⟩
theorem sum_split (bs : List (List (List Int))) {i : Nat} {ls : List (List Int)} (h : bs[i]? = some ls) : ((bs.take (i + 1)).map List.length).sum = ((bs.take i).map List.length).sum + ls.length := by
  rw [List.take_add_one, h]
  simp
theorem sum_take_le (bs : List (List (List Int))) (i : Nat) : ((bs.take i).map List.length).sum ≤ (bs.map List.length).sum := by
  conv => rhs; rw [← List.take_append_drop i bs, List.map_append, List.sum_append]
  omega
theorem BLi.get {w : World} {a : Option Addr} {n : Nat} {bs : List (List (List Int))} (h : BLi w a n bs) {i : Nat} (hi : i < n) : ∃ q ls a' c', a = some q ∧ bs[i]? = some ls ∧ bs.getD i [] = ls ∧ w.cell? (q.add i) = some (.slice a' ls.length c') ∧ RLi w a' ls.length ls ∧ ((bs.take (i + 1)).map List.length).sum = ((bs.take i).map List.length).sum + ls.length ∧ ((bs.take (i + 1)).map List.length).sum ≤ 1048576 := by
  cases a with
  | none => have := h.nil rfl; omega
  | some q =>
    have hl : i < bs.length := by rw [h.len]; exact hi
    obtain ⟨a', c', h1, h2⟩ := h.at_ q rfl i _ (List.getElem?_eq_getElem hl)
    have h3 := sum_take_le bs (i + 1)
    have h4 := h.sum
    exact ⟨q, bs[i], a', c', rfl, List.getElem?_eq_getElem hl, by simp [hl], h1, h2, sum_split bs (List.getElem?_eq_getElem hl), by omega⟩
theorem addRP_len (wd : Nat) (L : List (List Int × Nat)) (l : List Int) : (addRP wd L l).length ≤ L.length + 1 := by
  unfold addRP; split <;> simp
theorem turnRP_len (L : List (List Int × Nat)) : (turnRP L).length = L.length := by simp [turnRP]
theorem es_len {g : RelG} {L : List (List Int × Nat)} (h : rp g = L) : g.es.length = L.length := by rw [← h, rp_len]
theorem colmem {la : Option Addr} {lc : Nat} {ys : List Col} {y : Col} (h : y ∈ ys) : row 3 1 y.a y.l.length y.c (ints y.l) ∈ lstA la lc ys := .tail _ (List.mem_flatMap.2 ⟨y, h, .head _⟩)
theorem col_at {ys : List Col} {rows : List (List Int)} (h : ys.map Col.l = rows) {k : Nat} (hk : k < ys.length) : ∃ y, ys[k]? = some y ∧ y ∈ ys ∧ rows[k]? = some y.l := by
  refine ⟨ys[k], List.getElem?_eq_getElem hk, List.getElem_mem hk, ?_⟩
  rw [← h, List.getElem?_map, List.getElem?_eq_getElem hk]
  rfl
theorem lst_addr {w0 ws w : World} {M I : Nat → Prop} {ow : List Hw.Item} {la : Option Addr} {lc : Nat} {ys : List Col} (hw : Sat w0 M I ws ow w) (hm : row 23 1 la ys.length lc (ys.map encC) ∈ ow) : 0 < ys.length → ∃ q, la = some ⟨q, 0, none⟩ := fun hp => row_addr (hw.it _ hm) hp

set_option maxRecDepth 10000 in
theorem grown_calls (wd : Nat) (hwd : wd ≤ 5) (bs : List (List (List Int))) (a : Option Addr) (n c : Nat) (w : World) (hr : BLi w a n bs) :
  Calls Tryd.prog 9 #[.int .i64 (wd : Int), .slice a n c] w fun e w' => ∃ g, e = .returned (.tuple #[ptr g.r, .bool true]) ∧ RelOK g ∧ g.width = wd ∧ rp g = growTo wd bs n ∧ g.es.length ≤ 1048576 ∧ Turns [] (relA g) w w' := by
  refine enterS (args := [.int .i64 (wd : Int), .slice a n c]) (fun _ => False) Tryd.func9 rfl Tryd.ntmps9 rfl rfl ?_
  refine WC.seq ?_
  refine WC.region ?_
  refine WL.val (OV.assign rfl) rfl ?_
  refine WL.val (OV.assign rfl) rfl ?_
  refine WL.nil ?_
  refine WX.next ?_
  refine WC.seq ?_
  refine WC.region ?_
  refine WL.val (OV.move rfl) rfl ?_
  refine WL.callTA (ι := Nat × Nat × Nat) (vv := fun q => .tuple #[ptr q.1, .int .i64 0]) (pp := fun _ => True) [] (AA := fun q => relA (RelG.empty q.1 q.2.1 q.2.2 wd)) rfl (by kernel_rfl) rfl rfl (fun w' hw' hH => (new_calls wd w').mono (fun en w'' ⟨r, mb, ib, h1, h2⟩ => ⟨(r, mb, ib), h1, trivial, h2⟩)) ?_
  rintro ⟨r, mb, ib⟩ _
  refine WL.val (OV.move rfl) rfl ?_
  refine WL.val (OV.extract rfl rfl) rfl ?_
  refine WL.val (OV.extract rfl rfl) rfl ?_
  refine WL.val (OV.assign rfl) rfl ?_
  refine WL.val (OV.assign rfl) rfl ?_
  refine WL.nil ?_
  refine WX.next ?_
  refine WC.seq ?_
  refine WC.seq ?_
  refine WC.region ?_
  refine WL.val (OV.move rfl) rfl ?_
  refine WL.val (OV.eqlPN T.u25 rfl rfl) rfl ?_
  refine WL.val (OV.move rfl) rfl ?_
  refine WL.known (t := 18) (b := false) rfl (by rfl) ?_
  refine WL.go (b := false) rfl rfl rfl ?_
  refine WL.val (OV.move rfl) rfl ?_
  refine WL.go (b := false) rfl rfl rfl ?_
  refine WL.val (OV.neq rfl rfl) rfl ?_
  refine WL.val (OV.pickF rfl rfl) rfl ?_
  refine WL.nil ?_
  refine WX.next ?_
  refine WC.condF rfl ?_
  refine WC.skip ?_
  refine WX.next ?_
  refine WC.seq ?_
  refine WC.seq ?_
  refine WC.region ?_
  refine WL.val (OV.assign rfl) rfl ?_
  refine WL.nil ?_
  refine WX.next ?_
  refine WC.block ?_
  have e1 := hr.len
  have e2 := hr.sum
  refine WC.loop2 (fun (i : Nat) (g : RelG) => [(0, .int .i64 (wd : Int)), (1, .slice a n c), (6, ptr g.r), (8, .int .i64 (i : Int))])
      (fun i g w' => (i ≤ n ∧ RelOK g ∧ g.width = wd ∧ rp g = growTo wd bs i ∧ g.es.length ≤ ((bs.take i).map List.length).sum) ∧ Sat w (fun _ => False) (fun b => b < w.heap.size) w (relA g) w')
      (fun i _ => n - i) 0 (RelG.empty r mb ib wd) ⟨rfl, rfl, rfl, rfl, trivial⟩ (fun w' hw => ⟨⟨by omega, RelOK.empty (by omega), rfl, rfl, by simp [RelG.empty]⟩, by rw [List.append_nil] at hw; exact hw⟩) ?_
  intro i g
  refine WC.pure (fun hi => ?_)
  obtain ⟨hi, hok, hgw, hrp, hel⟩ := hi
  refine WC.seq ?_
  refine WC.seq ?_
  refine WC.region ?_
  refine WL.val (OV.move rfl) rfl ?_
  refine WL.val (OV.move rfl) rfl ?_
  first
  | (refine WL.val (OV.lenSlice rfl T.u22) rfl ?_)
  | (refine WL.val (OV.lenStr rfl T.u22) rfl ?_)
  refine WL.val (OV.lss rfl rfl) rfl ?_
  refine WL.val (OV.move rfl) rfl ?_
  refine WL.split (t := 26) rfl (fun g26 => ?_) (fun g26 => ?_)
  · try simp only [decide_eq_true_eq, decide_eq_false_iff_not, Bool.not_eq_true', Bool.not_eq_false'] at g26
    refine WL.go (b := true) rfl rfl rfl ?_
    refine WL.val (OV.move rfl) rfl ?_
    refine WL.go (b := true) rfl rfl rfl ?_
    refine WL.val (OV.lss rfl rfl) rfl ?_
    refine WL.val (OV.pickT rfl rfl) rfl ?_
    refine WL.nil ?_
    refine WX.next ?_
    refine WC.cond rfl (fun c29 => ?_) (fun c29 => ?_)
    · try simp only [decide_eq_true_eq, decide_eq_false_iff_not, Bool.not_eq_true', Bool.not_eq_false'] at c29
      refine WC.skip ?_
      refine WX.next ?_
      refine WC.seq ?_
      refine WC.block ?_
      refine WC.seq ?_
      refine WC.seq ?_
      refine WC.region ?_
      refine WL.val (OV.move rfl) rfl ?_
      refine WL.val (OV.gtr rfl rfl) rfl ?_
      refine WL.nil ?_
      refine WX.next ?_
      refine WC.cond rfl (fun c33 => ?_) (fun c33 => ?_)
      · try simp only [decide_eq_true_eq, decide_eq_false_iff_not, Bool.not_eq_true', Bool.not_eq_false'] at c33
        refine WC.region ?_
        refine WL.val (OV.move rfl) rfl ?_
        refine WL.callTA (ι := Unit) (vv := fun _ => .int .i64 (g.ns.length : Int)) (pp := fun _ => True) (relA g) (AA := fun _ => relA (turnG g)) (List.append_nil _).symm (by kernel_rfl) rfl rfl (fun w' hw' hH => (turn_calls g hok w' hH).mono (fun en w'' ⟨h1, h2⟩ => ⟨(), h1, trivial, h2⟩)) ?_
        rintro _ _
        rw [List.append_nil]
        refine WL.nil ?_
        refine WX.next ?_
        refine WC.seq ?_
        obtain ⟨gb, hgb, hbok, hbw, hbr, hbp, hbl⟩ : ∃ gb, gb = turnG g ∧ RelOK gb ∧ gb.width = wd ∧ gb.r = g.r ∧ rp gb = (if 0 < i then turnRP (growTo wd bs i) else growTo wd bs i) ∧ gb.es.length = g.es.length := ⟨_, rfl, turnG_ok hok, hgw, rfl, by rw [if_pos (by omega), rp_turn, hrp], by simp [turnG]⟩
        rw [show relA (turnG g) = relA gb from by rw [hgb]]
        refine WC.region ?_
        refine WL.val (OV.move rfl) rfl ?_
        refine WL.val (OV.move rfl) rfl ?_
        obtain ⟨q1, ls, a', c', rfl, hls, hgd, hcell, hrl, hsum, hsl⟩ := hr.get (i := i) (by omega)
        refine WL.val (OV.indexSliceA (i := i) rfl rfl T.u22 T.z45 (by omega)) rfl ?_
        refine WL.val (OV.loadN (cs := [.slice a' ls.length c']) rfl T.u45 rfl T.z45 (fun _ hw j v hj => ?_)) rfl ?_
        · have hj0 : j = 0 := by have := (List.getElem?_eq_some_iff.1 hj).1; simpa using this
          subst hj0
          simp only [List.getElem?_cons_zero, Option.some.injEq] at hj
          subst hj
          rw [addr_add0]
          exact hw.keeps _ _ hcell
        refine WL.val (OV.move rfl) rfl ?_
        refine WL.callTA (ι := Option Addr × Nat × List Col) (vv := fun q => .slice q.1 q.2.2.length q.2.1) (pp := fun q => q.2.2.map Col.l = ls.map (fun l => wideL l wd)) [] (AA := fun q => lstA q.1 q.2.1 q.2.2) rfl (by kernel_rfl) rfl rfl (fun w' hw' hH => (brought_calls ls a' ls.length c' wd (by omega) (by omega) w' (hrl.keeps hw'.keeps)).mono (fun en w'' ⟨la, lc, ys, h1, h2, h3⟩ => ⟨(la, lc, ys), h1, h2, h3⟩)) ?_
        rintro ⟨la, lc, ys⟩ hys
        have hys : ys.map Col.l = ls.map (fun l => wideL l wd) := hys
        have hyl0 : ys.length = ls.length := by have := congrArg List.length hys; simpa using this
        refine WL.val (OV.assign rfl) rfl ?_
        refine WL.nil ?_
        refine WX.next ?_
        refine WC.seq ?_
        refine WC.region ?_
        refine WL.val (OV.assign rfl) rfl ?_
        refine WL.nil ?_
        refine WX.next ?_
        refine WC.block ?_
        refine WC.weak (S' := fun w' => (0 < ys.length → ∃ q, la = some ⟨q, 0, none⟩) ∧ Sat w (fun _ => False) (fun b => b < w.heap.size) w (relA gb ++ lstA la lc ys) w') (fun w' hw => ⟨lst_addr hw (.head _), hw.perm List.perm_append_comm⟩) ?_
        refine WC.pure (fun hla => ?_)
        refine WC.loop2 (fun (k : Nat) (gk : RelG) => [(0, .int .i64 (wd : Int)), (1, .slice (some q1) n c), (6, ptr g.r), (8, .int .i64 (i : Int)), (9, .slice la ys.length lc), (10, .int .i64 (k : Int))])
            (fun k gk w' => (k ≤ ys.length ∧ RelOK gk ∧ gk.width = wd ∧ gk.r = g.r ∧ rp gk = addsRP wd (if 0 < i then turnRP (growTo wd bs i) else growTo wd bs i) (ls.take k) ∧ gk.es.length ≤ ((bs.take i).map List.length).sum + k) ∧ Sat w (fun _ => False) (fun b => b < w.heap.size) w (relA gk ++ lstA la lc ys) w')
            (fun k _ => ys.length - k) 0 gb ⟨rfl, rfl, rfl, rfl, rfl, rfl, trivial⟩ (fun w' hw => ⟨⟨by omega, hbok, hbw, hbr, by rw [hbp]; rfl, by omega⟩, hw⟩) ?_
        intro k gk
        refine WC.pure (fun hk => ?_)
        obtain ⟨hk, hokk, hkw, hkr, hrpk, hekl⟩ := hk
        refine WC.seq ?_
        refine WC.seq ?_
        refine WC.region ?_
        refine WL.val (OV.move rfl) rfl ?_
        refine WL.val (OV.move rfl) rfl ?_
        first
        | (refine WL.val (OV.lenSlice rfl T.u29) rfl ?_)
        | (refine WL.val (OV.lenStr rfl T.u29) rfl ?_)
        refine WL.val (OV.lss rfl rfl) rfl ?_
        refine WL.nil ?_
        refine WX.next ?_
        refine WC.cond rfl (fun c45 => ?_) (fun c45 => ?_)
        · try simp only [decide_eq_true_eq, decide_eq_false_iff_not, Bool.not_eq_true', Bool.not_eq_false'] at c45
          refine WC.skip ?_
          refine WX.next ?_
          refine WC.seq ?_
          refine WC.block ?_
          refine WC.region ?_
          refine WL.val (OV.move rfl) rfl ?_
          refine WL.val (OV.move rfl) rfl ?_
          refine WL.val (OV.move rfl) rfl ?_
          have hkl : k < ys.length := by omega
          obtain ⟨y, hy, hym, hyl⟩ := col_at hys hkl
          have hk2 : k < ls.length := by omega
          have hyw : wideL (ls[k]) wd = y.l := by rw [List.getElem?_map, List.getElem?_eq_getElem hk2] at hyl; exact Option.some.inj hyl
          have hi64 : i64s y.l := by rw [← hyw]; exact wideL_i64s (hrl.i64 _ (List.getElem_mem hk2)) wd
          have hyn : y.l.length ≤ 1099511627776 := by rw [← hyw, wideL_length]; omega
          obtain ⟨q5, rfl⟩ := hla (by omega)
          refine WL.val (OV.indexSliceA (i := k) rfl rfl T.u29 T.z23 (by omega)) rfl ?_
          refine WL.val (OV.load1 (v := encC y) rfl T.u23 rfl (fun _ hw => row_cells hw (List.mem_append_right _ (.head _)) k _ (by rw [List.getElem?_map, hy]; rfl))) rfl ?_
          refine WL.callTA (ι := RelG) (vs := [ptr gk.r, encC y]) (vv := fun _ => .tuple #[.bool (addV gk.width (rp gk) y.l), .int .i64 (addE gk.width y.l)]) (pp := fun q => rp q = addRP gk.width (rp gk) y.l ∧ RelOK q ∧ RelLe gk q) (relA gk) (AA := fun q => relA q) rfl (by kernel_rfl) (by rw [hkr]; rfl) rfl (fun w' hw' hH => (add_calls gk hokk y.l y.a y.l.length y.c hi64 (by omega) (by omega) w' (RI.of_row (c := y.c) hw' (List.mem_append_right _ (colmem hym))) (fun b hb _ => Sat.sepO hw' (colmem hym) ⟨b, hb, rfl⟩) hH).mono (fun en w'' ⟨h1, g', h2, h3, h4, h5⟩ => ⟨g', h1, ⟨h2, h3, h4⟩, h5⟩)) ?_
          rintro g53 hpp
          obtain ⟨hrp53, ok53, le53⟩ : rp g53 = addRP gk.width (rp gk) y.l ∧ RelOK g53 ∧ RelLe gk g53 := hpp
          refine WL.nil ?_
          refine WX.block_normal ?_
          refine WX.next ?_
          refine WC.region ?_
          refine WL.val (OV.move rfl) rfl ?_
          first
          | (refine WL.val (OV.addI rfl rfl (by omega)) rfl ?_)
          | (refine WL.val (OV.add rfl rfl) rfl ?_)
          refine WL.val (OV.assign rfl) rfl ?_
          refine WL.nil ?_
          exact WX.round2 (k + 1) g53 ⟨rfl, rfl, rfl, rfl, rfl, rfl, trivial⟩ (fun w' hw => ⟨⟨by omega, ok53, by rw [le53.width]; exact hkw, by rw [le53.r]; exact hkr, by
            rw [hrp53, hrpk, hkw, List.take_add_one, List.getElem?_eq_getElem hk2]
            show _ = addsRP wd _ (ls.take k ++ [ls[k]])
            rw [addsRP_snoc, hyw], by
            have h1 := es_len hrp53
            have h2 := addRP_len gk.width (rp gk) y.l
            rw [rp_len] at h2
            omega⟩, hw⟩) (by show ys.length - (k + 1) < ys.length - k; omega)
        · try simp only [decide_eq_true_eq, decide_eq_false_iff_not, Bool.not_eq_true', Bool.not_eq_false'] at c45
          refine WC.exit ?_
          refine WX.then_exit ?_
          refine WX.then_exit ?_
          refine WX.block_hit ?_
          refine WX.block_normal ?_
          refine WX.next ?_
          refine WC.region ?_
          refine WL.val (OV.move rfl) rfl ?_
          first
          | (refine WL.val (OV.addI rfl rfl (by omega)) rfl ?_)
          | (refine WL.val (OV.add rfl rfl) rfl ?_)
          refine WL.val (OV.assign rfl) rfl ?_
          refine WL.nil ?_
          exact WX.round2 (i + 1) gk ⟨rfl, rfl, by rw [hkr]; rfl, rfl, trivial⟩ (fun w' hw => ⟨⟨by omega, hokk, hkw, by rw [hrpk, growTo, hgd, List.take_of_length_le (by omega)], by omega⟩, Hw.Sat.part (List.sublist_append_left _ _) hw⟩) (by show n - (i + 1) < n - i; omega)
      · try simp only [decide_eq_true_eq, decide_eq_false_iff_not, Bool.not_eq_true', Bool.not_eq_false'] at c33
        refine WC.skip ?_
        refine WX.next ?_
        refine WC.seq ?_
        obtain ⟨gb, hgb, hbok, hbw, hbr, hbp, hbl⟩ : ∃ gb, gb = g ∧ RelOK gb ∧ gb.width = wd ∧ gb.r = g.r ∧ rp gb = (if 0 < i then turnRP (growTo wd bs i) else growTo wd bs i) ∧ gb.es.length = g.es.length := ⟨_, rfl, hok, hgw, rfl, by rw [if_neg (by omega), hrp], rfl⟩
        rw [show relA (g) = relA gb from by rw [hgb]]
        refine WC.region ?_
        refine WL.val (OV.move rfl) rfl ?_
        refine WL.val (OV.move rfl) rfl ?_
        obtain ⟨q1, ls, a', c', rfl, hls, hgd, hcell, hrl, hsum, hsl⟩ := hr.get (i := i) (by omega)
        refine WL.val (OV.indexSliceA (i := i) rfl rfl T.u22 T.z45 (by omega)) rfl ?_
        refine WL.val (OV.loadN (cs := [.slice a' ls.length c']) rfl T.u45 rfl T.z45 (fun _ hw j v hj => ?_)) rfl ?_
        · have hj0 : j = 0 := by have := (List.getElem?_eq_some_iff.1 hj).1; simpa using this
          subst hj0
          simp only [List.getElem?_cons_zero, Option.some.injEq] at hj
          subst hj
          rw [addr_add0]
          exact hw.keeps _ _ hcell
        refine WL.val (OV.move rfl) rfl ?_
        refine WL.callTA (ι := Option Addr × Nat × List Col) (vv := fun q => .slice q.1 q.2.2.length q.2.1) (pp := fun q => q.2.2.map Col.l = ls.map (fun l => wideL l wd)) [] (AA := fun q => lstA q.1 q.2.1 q.2.2) rfl (by kernel_rfl) rfl rfl (fun w' hw' hH => (brought_calls ls a' ls.length c' wd (by omega) (by omega) w' (hrl.keeps hw'.keeps)).mono (fun en w'' ⟨la, lc, ys, h1, h2, h3⟩ => ⟨(la, lc, ys), h1, h2, h3⟩)) ?_
        rintro ⟨la, lc, ys⟩ hys
        have hys : ys.map Col.l = ls.map (fun l => wideL l wd) := hys
        have hyl0 : ys.length = ls.length := by have := congrArg List.length hys; simpa using this
        refine WL.val (OV.assign rfl) rfl ?_
        refine WL.nil ?_
        refine WX.next ?_
        refine WC.seq ?_
        refine WC.region ?_
        refine WL.val (OV.assign rfl) rfl ?_
        refine WL.nil ?_
        refine WX.next ?_
        refine WC.block ?_
        refine WC.weak (S' := fun w' => (0 < ys.length → ∃ q, la = some ⟨q, 0, none⟩) ∧ Sat w (fun _ => False) (fun b => b < w.heap.size) w (relA gb ++ lstA la lc ys) w') (fun w' hw => ⟨lst_addr hw (.head _), hw.perm List.perm_append_comm⟩) ?_
        refine WC.pure (fun hla => ?_)
        refine WC.loop2 (fun (k : Nat) (gk : RelG) => [(0, .int .i64 (wd : Int)), (1, .slice (some q1) n c), (6, ptr g.r), (8, .int .i64 (i : Int)), (9, .slice la ys.length lc), (10, .int .i64 (k : Int))])
            (fun k gk w' => (k ≤ ys.length ∧ RelOK gk ∧ gk.width = wd ∧ gk.r = g.r ∧ rp gk = addsRP wd (if 0 < i then turnRP (growTo wd bs i) else growTo wd bs i) (ls.take k) ∧ gk.es.length ≤ ((bs.take i).map List.length).sum + k) ∧ Sat w (fun _ => False) (fun b => b < w.heap.size) w (relA gk ++ lstA la lc ys) w')
            (fun k _ => ys.length - k) 0 gb ⟨rfl, rfl, rfl, rfl, rfl, rfl, trivial⟩ (fun w' hw => ⟨⟨by omega, hbok, hbw, hbr, by rw [hbp]; rfl, by omega⟩, hw⟩) ?_
        intro k gk
        refine WC.pure (fun hk => ?_)
        obtain ⟨hk, hokk, hkw, hkr, hrpk, hekl⟩ := hk
        refine WC.seq ?_
        refine WC.seq ?_
        refine WC.region ?_
        refine WL.val (OV.move rfl) rfl ?_
        refine WL.val (OV.move rfl) rfl ?_
        first
        | (refine WL.val (OV.lenSlice rfl T.u29) rfl ?_)
        | (refine WL.val (OV.lenStr rfl T.u29) rfl ?_)
        refine WL.val (OV.lss rfl rfl) rfl ?_
        refine WL.nil ?_
        refine WX.next ?_
        refine WC.cond rfl (fun c45 => ?_) (fun c45 => ?_)
        · try simp only [decide_eq_true_eq, decide_eq_false_iff_not, Bool.not_eq_true', Bool.not_eq_false'] at c45
          refine WC.skip ?_
          refine WX.next ?_
          refine WC.seq ?_
          refine WC.block ?_
          refine WC.region ?_
          refine WL.val (OV.move rfl) rfl ?_
          refine WL.val (OV.move rfl) rfl ?_
          refine WL.val (OV.move rfl) rfl ?_
          have hkl : k < ys.length := by omega
          obtain ⟨y, hy, hym, hyl⟩ := col_at hys hkl
          have hk2 : k < ls.length := by omega
          have hyw : wideL (ls[k]) wd = y.l := by rw [List.getElem?_map, List.getElem?_eq_getElem hk2] at hyl; exact Option.some.inj hyl
          have hi64 : i64s y.l := by rw [← hyw]; exact wideL_i64s (hrl.i64 _ (List.getElem_mem hk2)) wd
          have hyn : y.l.length ≤ 1099511627776 := by rw [← hyw, wideL_length]; omega
          obtain ⟨q5, rfl⟩ := hla (by omega)
          refine WL.val (OV.indexSliceA (i := k) rfl rfl T.u29 T.z23 (by omega)) rfl ?_
          refine WL.val (OV.load1 (v := encC y) rfl T.u23 rfl (fun _ hw => row_cells hw (List.mem_append_right _ (.head _)) k _ (by rw [List.getElem?_map, hy]; rfl))) rfl ?_
          refine WL.callTA (ι := RelG) (vs := [ptr gk.r, encC y]) (vv := fun _ => .tuple #[.bool (addV gk.width (rp gk) y.l), .int .i64 (addE gk.width y.l)]) (pp := fun q => rp q = addRP gk.width (rp gk) y.l ∧ RelOK q ∧ RelLe gk q) (relA gk) (AA := fun q => relA q) rfl (by kernel_rfl) (by rw [hkr]; rfl) rfl (fun w' hw' hH => (add_calls gk hokk y.l y.a y.l.length y.c hi64 (by omega) (by omega) w' (RI.of_row (c := y.c) hw' (List.mem_append_right _ (colmem hym))) (fun b hb _ => Sat.sepO hw' (colmem hym) ⟨b, hb, rfl⟩) hH).mono (fun en w'' ⟨h1, g', h2, h3, h4, h5⟩ => ⟨g', h1, ⟨h2, h3, h4⟩, h5⟩)) ?_
          rintro g53 hpp
          obtain ⟨hrp53, ok53, le53⟩ : rp g53 = addRP gk.width (rp gk) y.l ∧ RelOK g53 ∧ RelLe gk g53 := hpp
          refine WL.nil ?_
          refine WX.block_normal ?_
          refine WX.next ?_
          refine WC.region ?_
          refine WL.val (OV.move rfl) rfl ?_
          first
          | (refine WL.val (OV.addI rfl rfl (by omega)) rfl ?_)
          | (refine WL.val (OV.add rfl rfl) rfl ?_)
          refine WL.val (OV.assign rfl) rfl ?_
          refine WL.nil ?_
          exact WX.round2 (k + 1) g53 ⟨rfl, rfl, rfl, rfl, rfl, rfl, trivial⟩ (fun w' hw => ⟨⟨by omega, ok53, by rw [le53.width]; exact hkw, by rw [le53.r]; exact hkr, by
            rw [hrp53, hrpk, hkw, List.take_add_one, List.getElem?_eq_getElem hk2]
            show _ = addsRP wd _ (ls.take k ++ [ls[k]])
            rw [addsRP_snoc, hyw], by
            have h1 := es_len hrp53
            have h2 := addRP_len gk.width (rp gk) y.l
            rw [rp_len] at h2
            omega⟩, hw⟩) (by show ys.length - (k + 1) < ys.length - k; omega)
        · try simp only [decide_eq_true_eq, decide_eq_false_iff_not, Bool.not_eq_true', Bool.not_eq_false'] at c45
          refine WC.exit ?_
          refine WX.then_exit ?_
          refine WX.then_exit ?_
          refine WX.block_hit ?_
          refine WX.block_normal ?_
          refine WX.next ?_
          refine WC.region ?_
          refine WL.val (OV.move rfl) rfl ?_
          first
          | (refine WL.val (OV.addI rfl rfl (by omega)) rfl ?_)
          | (refine WL.val (OV.add rfl rfl) rfl ?_)
          refine WL.val (OV.assign rfl) rfl ?_
          refine WL.nil ?_
          exact WX.round2 (i + 1) gk ⟨rfl, rfl, by rw [hkr]; rfl, rfl, trivial⟩ (fun w' hw => ⟨⟨by omega, hokk, hkw, by rw [hrpk, growTo, hgd, List.take_of_length_le (by omega)], by omega⟩, Hw.Sat.part (List.sublist_append_left _ _) hw⟩) (by show n - (i + 1) < n - i; omega)
    · try simp only [decide_eq_true_eq, decide_eq_false_iff_not, Bool.not_eq_true', Bool.not_eq_false'] at c29
      refine WC.exit ?_
      refine WX.then_exit ?_
      refine WX.then_exit ?_
      refine WX.block_hit ?_
      refine WX.next ?_
      refine WC.seq ?_
      refine WC.region ?_
      refine WL.val (OV.move rfl) rfl ?_
      refine WL.val (OV.assign rfl) rfl ?_
      refine WL.val (OV.assign rfl) rfl ?_
      refine WL.nil ?_
      refine WX.next ?_
      refine WC.ret ?_
      have hin : i = n := by omega
      subst hin
      have := sum_take_le bs i
      exact WX.ret2 rfl rfl rfl rfl (fun w' hw => ⟨g, rfl, hok, hgw, hrp, by omega, hw.turned0⟩)
  · try simp only [decide_eq_true_eq, decide_eq_false_iff_not, Bool.not_eq_true', Bool.not_eq_false'] at g26
    refine WL.skip (b := false) rfl rfl rfl rfl ?_
    refine WL.skip (b := false) rfl rfl rfl rfl ?_
    refine WL.val (OV.pickF rfl rfl) rfl ?_
    refine WL.nil ?_
    refine WX.next ?_
    refine WC.condF rfl ?_
    refine WC.exit ?_
    refine WX.then_exit ?_
    refine WX.then_exit ?_
    refine WX.block_hit ?_
    refine WX.next ?_
    refine WC.seq ?_
    refine WC.region ?_
    refine WL.val (OV.move rfl) rfl ?_
    refine WL.val (OV.assign rfl) rfl ?_
    refine WL.val (OV.assign rfl) rfl ?_
    refine WL.nil ?_
    refine WX.next ?_
    refine WC.ret ?_
    have hin : i = n := by omega
    subst hin
    have := sum_take_le bs i
    exact WX.ret2 rfl rfl rfl rfl (fun w' hw => ⟨g, rfl, hok, hgw, hrp, by omega, hw.turned0⟩)

end Go.Proofs.YtijplknkpkmblaaDoor
