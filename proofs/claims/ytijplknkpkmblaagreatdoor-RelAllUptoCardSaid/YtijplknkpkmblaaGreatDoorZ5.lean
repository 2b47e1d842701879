/- Contracts of functions of the program: what each returns and leaves in memory. Printed by gen.py and walk.py. -/
import Derived.Test.YtijplknkpkmblaaGreatDoorZ4
namespace Go.Proofs.YtijplknkpkmblaaGreatDoor
open Go Go.Hw
set_option linter.unusedSimpArgs false
set_option linter.unusedVariables false
/-- The document's relation says the same as the package's. -/
structure Tie (g : RelG) (q : RefG) : Prop where
  ok : RelOK g
  qok : RefOK q
  wd : g.width = q.width
  same : (refL q).Perm (rp g)
theorem rowsQ_sorted {q : RefG} (ok : RefOK q) (parts : Int) : (rowsQ q parts).Pairwise fun a b => ¬ cmpL b a < 0 := by
  have h1 : ((refL q).map (·.1)).Pairwise fun a b => cmpL a b < 0 := by
    rw [refL, List.map_fst_zip (by rw [refR, List.length_map, ok.li]; omega)]
    exact ok.srt
  have h2 : (rowsQ q parts).Sublist ((refL q).map (·.1)) := List.Sublist.map _ List.filter_sublist
  exact (h1.sublist h2).imp (fun {a b} h h3 => by
    have := cmpL_trans h h3
    rw [cmpL_self] at this
    omega)
theorem Tie.rows {g : RelG} {q : RefG} (h : Tie g q) (parts : Int) : rowsQ q parts = selR (rp g) parts [] [] := by
  refine sortR_eq ?_ (rowsQ_sorted h.qok parts)
  have e : (fun p : List Int × Nat => inP parts p.2 && decide (fitsL p.1 [] [])) = fun p => inP parts p.2 := by
    funext p
    simp [fitsL]
  rw [e]
  exact (h.same.filter _).map _
theorem Tie.len {g : RelG} {q : RefG} (h : Tie g q) (parts : Int) : (rowsQ q parts).length = lenOf g.es parts := by
  rw [rowsQ, List.length_map, (h.same.filter _).length_eq, rp, List.filter_map, List.length_map]
  rfl
theorem Tie.part {g : RelG} {q : RefG} (h : Tie g q) (l : List Int) : partL (refL q) l = partOf g.es l := by
  have hnd : ((rp g).map (·.1)).Nodup := by have := h.ok.rows; simpa [rp, List.map_map, Function.comp_def] using this
  rw [partOf_rp, partL]
  congr 2
  have key : ∀ {L : List (List Int × Nat)}, (L.map (·.1)).Nodup → ∀ p, L.find? (fun q => q.1 = l) = some p ↔ p ∈ L ∧ p.1 = l := by
    intro L
    induction L with
    | nil => simp
    | cons x L ih =>
      intro hn p
      rw [List.map_cons, List.nodup_cons] at hn
      by_cases hx : x.1 = l
      · rw [List.find?_cons_of_pos (by simpa using hx)]
        constructor
        · intro e; cases e; exact ⟨.head _, hx⟩
        · rintro ⟨h1, h2⟩
          rcases List.mem_cons.1 h1 with rfl | h1
          · rfl
          · exact absurd (List.mem_map.2 ⟨p, h1, h2.trans hx.symm⟩) hn.1
      · rw [List.find?_cons_of_neg (by simpa using hx), ih hn.2 p]
        constructor
        · rintro ⟨h1, h2⟩; exact ⟨.tail _ h1, h2⟩
        · rintro ⟨h1, h2⟩
          rcases List.mem_cons.1 h1 with rfl | h1
          · exact absurd h2 hx
          · exact ⟨h1, h2⟩
  apply Option.ext
  intro p
  rw [key hnd, key ((h.same.map (·.1)).nodup_iff.2 hnd), h.same.mem_iff]
theorem refL_turn {q : RefG} (ok : RefOK q) : refL (turnQ q) = turnRP (refL q) := by
  show (refR q).zip (q.ins.map turnN) = ((refR q).zip q.ins).map _
  rw [List.zip_map_right]
  refine List.map_congr_left fun p hp => ?_
  have := ok.part p.2 (List.of_mem_zip (a := p.1) (b := p.2) hp).2
  show (p.1, turnN p.2) = _
  congr 1
  unfold turnN
  rcases this with h | h | h <;> rw [h] <;> rfl
theorem refL_ins {q : RefG} (ok : RefOK q) : (refL q).map (·.2) = q.ins := by
  rw [refL, List.map_snd_zip (by rw [refR, List.length_map, ok.li]; omega)]
theorem Tie.ns {g : RelG} {q : RefG} (h : Tie g q) : n4 q.ins = g.ns.length := by
  rw [ns_rp h.ok, ← (h.same.filter _).length_eq, n4, ← refL_ins h.qok, List.filter_map, List.length_map]
  rfl
theorem Tie.add {g g' : RelG} {q q' : RefG} {l : List Int} (h : Tie g q) (ok : RelOK g') (qok : RefOK q') (hw : g'.width = g.width) (hqw : q'.width = q.width) (h1 : rp g' = addRP g.width (rp g) l) (h2 : ∀ p, p ∈ refL q' ↔ p ∈ refL q ∨ ((l.length = q.width ∧ l ∉ refR q) ∧ p = (l, 4))) : Tie g' q' := by
  have nd : ∀ {q : RefG}, RefOK q → (refL q).Nodup := fun {q} ok => by
    have h1 : ((refL q).map (·.1)).Pairwise fun a b => cmpL a b < 0 := by
      rw [refL, List.map_fst_zip (by rw [refR, List.length_map, ok.li]; omega)]
      exact ok.srt
    have h3 : ((refL q).map (·.1)).Nodup := h1.imp (fun {a b} h e => by rw [e, cmpL_self] at h; omega)
    exact List.Pairwise.of_map (S := fun a b : List Int => a ≠ b) (·.1) (fun a b h e => h (by rw [e])) h3
  have nd2 : (rp g').Nodup := by
    have h3 : ((rp g').map (·.1)).Nodup := by have := ok.rows; simpa [rp, List.map_map, Function.comp_def] using this
    exact List.Pairwise.of_map (S := fun a b : List Int => a ≠ b) (·.1) (fun a b h e => h (by rw [e])) h3
  have hr : l ∈ refR q ↔ l ∈ (rp g).map (·.1) := by
    rw [← (h.same.map (·.1)).mem_iff, refL, List.map_fst_zip (by rw [refR, List.length_map, h.qok.li]; omega)]
  refine ⟨ok, qok, by rw [hw, hqw, h.wd], (List.perm_ext_iff_of_nodup (nd qok) nd2).2 fun p => ?_⟩
  rw [h2, h1, h.same.mem_iff, hr, ← h.wd, addRP]
  split
  · rename_i hc
    simp [hc]
  · rename_i hc
    exact ⟨fun h => h.elim id (fun h => absurd h.1 hc), .inl⟩
theorem turnQ_ok {q : RefG} (ok : RefOK q) : RefOK (turnQ q) :=
  ⟨by simp [turnQ, ok.li], ok.wid, ok.i64, ok.rl, ok.srt, fun n h => by
    obtain ⟨m, hm, rfl⟩ := List.mem_map.1 h
    unfold turnN
    rcases ok.part m hm with h | h | h <;> rw [h] <;> simp, ok.cl, ok.wl⟩
theorem Tie.turn {g : RelG} {q : RefG} (h : Tie g q) : Tie (turnG g) (turnQ q) :=
  ⟨turnG_ok h.ok, turnQ_ok h.qok, h.wd, by rw [refL_turn h.qok, rp_turn]; exact h.same.map _⟩

end Go.Proofs.YtijplknkpkmblaaGreatDoor
