/- Contracts of functions of the program: what each returns and leaves in memory. Printed by gen.py and walk.py. -/
import Derived.Test.YtijplknkpkmblaaDoorM6
namespace Go.Proofs.YtijplknkpkmblaaDoor
open Go Go.Hw
set_option linter.unusedSimpArgs false
set_option linter.unusedVariables false
/-! ### Rows and their parts, in order -/
def tag (cs : List Col) (q : Nat) : List (List Int × Nat) := cs.map fun c => (c.l, q)
abbrev rowL (a : Option Addr) (c : Nat) (cs : List Col) : Hw.Item := row 23 1 a cs.length c (cs.map encC)
def colsL (wd : Nat) : List Int := (List.range wd).map fun (i : Nat) => (i : Int)
theorem colsL_length (wd : Nat) : (colsL wd).length = wd := by simp [colsL]
theorem colsL_take {wd t : Nat} (h : t < wd) : (colsL wd).take (t + 1) = (colsL wd).take t ++ [(t : Int)] := by
  rw [List.take_add_one]
  simp [colsL, h]
theorem colsL_i64 {wd : Nat} (h : wd ≤ 5) : i64s (colsL wd) := fun k hk => by
  obtain ⟨i, hi, rfl⟩ := List.mem_map.1 hk
  have := List.mem_range.1 hi
  constructor <;> omega
theorem fits_cols {rr key : List Int} {wd : Nat} (hr : rr.length = wd) (hk : key.length = wd) : fitsL rr (colsL wd) key ↔ rr = key := by
  constructor
  · intro h
    refine List.ext_getElem (by omega) (fun i h1 h2 => ?_)
    have h3 := fits_at (i := i) (by rw [colsL_length]; omega) h
    have h4 : (colsL wd).getD i 0 = (i : Int) := by simp [colsL, List.getD_eq_getElem?_getD, show i < wd by omega]
    have h5 := h3.2.2
    simp only [h4, Int.toNat_natCast, List.getD_eq_getElem?_getD, List.getElem?_eq_getElem h1, List.getElem?_eq_getElem h2, Option.getD_some] at h5
    exact h5
  · rintro rfl
    refine ⟨by rw [colsL_length, hr], fun p hp => ?_⟩
    obtain ⟨i, hi, rfl⟩ := List.mem_iff_getElem.1 hp
    rw [List.length_zip, colsL_length] at hi
    rw [List.getElem_zip]
    have h4 : (colsL wd)[i]'(by rw [colsL_length]; omega) = (i : Int) := by simp [colsL]
    rw [h4]
    exact ⟨by omega, by omega, by simp [show i < rr.length by omega]⟩
theorem rp_nodup {g : RelG} (ok : RelOK g) : ((rp g).map (·.1)).Nodup := by have := ok.rows; simpa [rp, List.map_map, Function.comp_def] using this
theorem part_mem {g : RelG} (ok : RelOK g) {l : List Int} (h : l ∈ (rp g).map (·.1)) : (l, partOf g.es l) ∈ rp g ∧ ∀ q, (l, q) ∈ rp g → q = partOf g.es l := by
  rw [partOf_rp]
  obtain ⟨p, hp, rfl⟩ := List.mem_map.1 h
  have key : ∀ {L : List (List Int × Nat)}, (L.map (·.1)).Nodup → ∀ {p : List Int × Nat}, p ∈ L → L.find? (fun q => q.1 = p.1) = some p := by
    intro L
    induction L with
    | nil => intro _ p hp; cases hp
    | cons x L ih =>
      intro hn p hp
      rw [List.map_cons, List.nodup_cons] at hn
      rcases List.mem_cons.1 hp with rfl | hp
      · rw [List.find?_cons_of_pos (by simp)]
      · have hne : ¬ x.1 = p.1 := fun e => hn.1 (by rw [e]; exact List.mem_map.2 ⟨p, hp, rfl⟩)
        rw [List.find?_cons_of_neg (by simpa using hne)]
        exact ih hn.2 hp
  have h1 := key (rp_nodup ok) hp
  rw [h1]
  refine ⟨hp, fun q hq => ?_⟩
  have h2 := key (rp_nodup ok) hq
  simp only at h2
  rw [h1] at h2
  have := Option.some.inj h2
  rw [this]
  rfl
theorem inP_pow {e pt : Nat} (he : e < 3) (hp : pt = 1 ∨ pt = 2 ∨ pt = 4) : inP ((2 ^ e : Nat) : Int) pt = true ↔ pt = 2 ^ e := by
  have : e = 0 ∨ e = 1 ∨ e = 2 := by omega
  rcases this with rfl | rfl | rfl <;> rcases hp with rfl | rfl | rfl <;> decide
/-- What a Find by all columns gives. -/
theorem sel_one {g : RelG} (ok : RelOK g) {l : List Int} (h : l ∈ (rp g).map (·.1)) {e : Nat} (he : e < 3) :
    (∀ x ∈ selR (rp g) ((2 ^ e : Nat) : Int) (colsL g.width) l, x = l) ∧ (selR (rp g) ((2 ^ e : Nat) : Int) (colsL g.width) l).length ≤ 1 ∧ ((selR (rp g) ((2 ^ e : Nat) : Int) (colsL g.width) l).length = 1 ↔ partOf g.es l = 2 ^ e) := by
  obtain ⟨hm, hu⟩ := part_mem ok h
  have hlw : l.length = g.width := by
    obtain ⟨x, hx, hxl⟩ := List.mem_map.1 hm
    simp only [Prod.mk.injEq] at hxl
    rw [← hxl.1]; exact ok.wid x hx
  have hpt : partOf g.es l = 1 ∨ partOf g.es l = 2 ∨ partOf g.es l = 4 := by
    obtain ⟨x, hx, hxl⟩ := List.mem_map.1 hm
    simp only [Prod.mk.injEq] at hxl
    rw [← hxl.2]; exact ok.part x hx
  have hall : ∀ x ∈ selR (rp g) ((2 ^ e : Nat) : Int) (colsL g.width) l, x = l := fun x hx => by
    have h1 := (sel_lens ok x hx).1
    have h2 := (sortR_perm _).mem_iff.1 hx
    obtain ⟨p, hp, rfl⟩ := List.mem_map.1 h2
    have h3 := (List.mem_filter.1 hp).2
    simp only [Bool.and_eq_true, decide_eq_true_eq] at h3
    exact (fits_cols h1 hlw).1 h3.2
  have hnd : (selR (rp g) ((2 ^ e : Nat) : Int) (colsL g.width) l).Nodup := ((sortR_perm _).nodup_iff).2 ((rp_nodup ok).sublist (List.Sublist.map _ List.filter_sublist))
  have hle : (selR (rp g) ((2 ^ e : Nat) : Int) (colsL g.width) l).length ≤ 1 := by
    have := List.Nodup.length_le_of_subset hnd (l₂ := [l]) (fun x hx => by rw [hall x hx]; exact .head _)
    simpa using this
  refine ⟨hall, hle, ?_⟩
  rw [← inP_pow he hpt]
  have hne : (selR (rp g) ((2 ^ e : Nat) : Int) (colsL g.width) l).length = 1 ↔ ∃ x, x ∈ selR (rp g) ((2 ^ e : Nat) : Int) (colsL g.width) l := by
    constructor
    · intro h1
      exact ⟨_, List.getElem_mem (show 0 < _ by omega)⟩
    · rintro ⟨x, hx⟩
      have := List.length_pos_of_mem hx
      omega
  rw [hne]
  constructor
  · rintro ⟨x, hx⟩
    have h2 := (sortR_perm _).mem_iff.1 hx
    obtain ⟨p, hp, rfl⟩ := List.mem_map.1 h2
    have h3 := List.mem_filter.1 hp
    simp only [Bool.and_eq_true, decide_eq_true_eq] at h3
    have h4 := hall _ hx
    have h5 : (l, p.2) ∈ rp g := by rw [← h4]; exact h3.1
    rw [← hu _ h5]
    exact h3.2.1
  · intro h1
    refine ⟨l, (sortR_perm _).mem_iff.2 (List.mem_map.2 ⟨_, List.mem_filter.2 ⟨hm, ?_⟩, rfl⟩)⟩
    simp only [Bool.and_eq_true, decide_eq_true_eq]
    exact ⟨h1, (fits_cols hlw hlw).2 rfl⟩
theorem tag_fst (cs : List Col) (q : Nat) : (tag cs q).map (·.1) = cs.map Col.l := by simp [tag]
theorem tag_length (cs : List Col) (q : Nat) : (tag cs q).length = cs.length := by simp [tag]
theorem tag_append (a b : List Col) (q : Nat) : tag (a ++ b) q = tag a q ++ tag b q := by simp [tag]
theorem turn_tags (O F X : List Col) : turnRP (tag O 1 ++ (tag F 2 ++ tag X 4)) = tag (O ++ F) 1 ++ tag X 2 := by
  simp [turnRP, tag, Function.comp_def]
theorem filter_tag (f : Nat → Bool) (cs : List Col) (q : Nat) : (tag cs q).filter (fun p => f p.2) = if f q then tag cs q else [] := by
  unfold tag
  induction cs with
  | nil => simp
  | cons c cs ih =>
    rw [List.map_cons, List.filter_cons, ih]
    by_cases h : f q <;> simp [h]
theorem sel_tags {L : List (List Int × Nat)} (parts : Int) {R : List (List Int)} (h : (L.filter fun p => inP parts p.2).map (·.1) = R) : (selR L parts [] []).Perm R := by
  refine (sortR_perm _).trans (List.Perm.of_eq ?_)
  rw [← h]
  refine congrArg (List.map _) (List.filter_congr ?_)
  intro p _
  have h0 : fitsL p.1 [] [] := ⟨rfl, by simp⟩
  simp [h0]
theorem sel_old (O F X : List Col) : (selR (tag O 1 ++ (tag F 2 ++ tag X 4)) 1 [] []).Perm (O.map Col.l) := by
  refine sel_tags 1 ?_
  rw [List.filter_append, List.filter_append, filter_tag (inP 1), filter_tag (inP 1), filter_tag (inP 1), if_pos (by decide), if_neg (by decide), if_neg (by decide), List.append_nil, List.append_nil, tag_fst]
theorem sel_fresh (O F X : List Col) : (selR (tag O 1 ++ (tag F 2 ++ tag X 4)) 2 [] []).Perm (F.map Col.l) := by
  refine sel_tags 2 ?_
  rw [List.filter_append, List.filter_append, filter_tag (inP 2), filter_tag (inP 2), filter_tag (inP 2), if_neg (by decide), if_pos (by decide), if_neg (by decide), List.append_nil, List.nil_append, tag_fst]
theorem sel_next (O F X : List Col) : (selR (tag O 1 ++ (tag F 2 ++ tag X 4)) 4 [] []).Perm (X.map Col.l) := by
  refine sel_tags 4 ?_
  rw [List.filter_append, List.filter_append, filter_tag (inP 4), filter_tag (inP 4), filter_tag (inP 4), if_neg (by decide), if_neg (by decide), if_pos (by decide), List.nil_append, List.nil_append, tag_fst]
theorem len_all {g : RelG} (ok : RelOK g) : lenOf g.es 7 = g.es.length := by
  unfold lenOf
  rw [List.filter_eq_self.2 (fun e he => ?_)]
  rcases ok.part e he with h | h | h <;> rw [h] <;> decide
theorem ns_tags {g : RelG} (ok : RelOK g) {O F X : List Col} (h : rp g = tag O 1 ++ (tag F 2 ++ tag X 4)) : g.ns.length = X.length := by
  rw [ns_rp ok, h, List.filter_append, List.filter_append, filter_tag (fun q => decide (q = 4)), filter_tag (fun q => decide (q = 4)), filter_tag (fun q => decide (q = 4)), if_neg (by decide), if_neg (by decide), if_pos (by decide), List.nil_append, List.nil_append, tag_length]
theorem rows_tags (O F X : List Col) : (tag O 1 ++ (tag F 2 ++ tag X 4)).map (·.1) = O.map Col.l ++ (F.map Col.l ++ X.map Col.l) := by
  rw [List.map_append, List.map_append, tag_fst, tag_fst, tag_fst]
theorem lst_sub {a : Option Addr} {c : Nat} {cs pool : List Col} {ow : List Hw.Item} (h1 : rowL a c cs ∈ ow) (h2 : ∀ c ∈ cs, c ∈ pool) (h3 : ∀ i ∈ pool.flatMap colA, i ∈ ow) : ∀ i ∈ lstA a c cs, i ∈ ow := fun i hi => by
  rcases List.mem_cons.1 hi with rfl | hi
  · exact h1
  · obtain ⟨x, hx, hix⟩ := List.mem_flatMap.1 hi
    exact h3 i (List.mem_flatMap.2 ⟨x, h2 x hx, hix⟩)
theorem tag_lens {g : RelG} (ok : RelOK g) {O F X : List Col} (h : rp g = tag O 1 ++ (tag F 2 ++ tag X 4)) : ∀ c, (c ∈ O ∨ c ∈ F ∨ c ∈ X) → c.l.length = g.width ∧ i64s c.l := fun c hc => by
  have h1 : c.l ∈ (rp g).map (·.1) := by
    rw [h, rows_tags, List.mem_append, List.mem_append]
    rcases hc with hc | hc | hc
    · exact .inl (List.mem_map.2 ⟨c, hc, rfl⟩)
    · exact .inr (.inl (List.mem_map.2 ⟨c, hc, rfl⟩))
    · exact .inr (.inr (List.mem_map.2 ⟨c, hc, rfl⟩))
  obtain ⟨p, hp, hpl⟩ := List.mem_map.1 h1
  obtain ⟨x, hx, rfl⟩ := List.mem_map.1 hp
  simp only at hpl
  rw [← hpl]
  exact ⟨ok.wid x hx, ok.i64 x hx⟩
theorem tag_apart {g : RelG} (ok : RelOK g) {O F X : List Col} (h : rp g = tag O 1 ++ (tag F 2 ++ tag X 4)) : ∀ x ∈ F.map Col.l, x ∉ O.map Col.l := fun x hx hy => by
  have h1 := rp_nodup ok
  rw [h, rows_tags, List.nodup_append] at h1
  exact h1.2.2 x hy x (List.mem_append_left _ hx) rfl
theorem addRP_tags {wd : Nat} {O F X : List Col} {y : Col} (hl : y.l.length = wd) : addRP wd (tag O 1 ++ (tag F 2 ++ tag X 4)) y.l = if y.l ∈ (tag O 1 ++ (tag F 2 ++ tag X 4)).map (·.1) then tag O 1 ++ (tag F 2 ++ tag X 4) else tag O 1 ++ (tag F 2 ++ tag (X ++ [y]) 4) := by
  unfold addRP
  by_cases h : y.l ∈ (tag O 1 ++ (tag F 2 ++ tag X 4)).map (·.1)
  · rw [if_neg (fun hh => hh.2 h), if_pos h]
  · rw [if_pos ⟨hl, h⟩, if_neg h, tag_append]
    simp [tag]
theorem addV_not (wd : Nat) (L : List (List Int × Nat)) {l : List Int} (hl : l.length = wd) : addV wd L l = !decide (l ∈ L.map (·.1)) := by
  unfold addV
  by_cases h : l ∈ L.map (·.1) <;> simp [h, hl]
theorem addE_0 {wd : Nat} {l : List Int} (hl : l.length = wd) : addE wd l = 0 := by rw [addE, if_pos hl]
def TLp (b4 : Nat) (oa : Option Addr) (oc : Nat) (O : List Col) (fa : Option Addr) (fc : Nat) (F : List Col) (ca : Option Addr) (cc wd : Nat) (pool : List Col) (Ds : List Nat) : List Hw.Item :=
  box1 b4 4 (.bool false) :: rowL oa oc O :: rowL fa fc F :: row 3 1 ca wd cc (ints (colsL wd)) :: (pool.flatMap colA ++ mkA Ds)

end Go.Proofs.YtijplknkpkmblaaDoor
