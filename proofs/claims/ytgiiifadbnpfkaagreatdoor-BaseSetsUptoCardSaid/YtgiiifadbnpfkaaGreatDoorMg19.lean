/- Contracts of functions of the program: what each returns and leaves in memory. Printed by gen.py and walk.py. -/
import Derived.Test.YtgiiifadbnpfkaaGreatDoorMg18
import Derived.Test.YtgiiifadbnpfkaaGreatDoorRows
namespace Go.Proofs.YtgiiifadbnpfkaaGreatDoor
open Go Go.Hw
set_option linter.unusedSimpArgs false
set_option linter.unusedVariables false
/-- A base behind k Adds, with the facts F (in any order). -/
structure BS (g : BaseG) (k : Nat) (F : List (At × Nat)) : Prop where
  ok : BaseOK g
  fs : (factsB g).Perm F
  vk : g.vs.length ≤ 9 * k
  rk : g.rs.length ≤ k
  fk : F.length ≤ k
theorem addF_perm {F G : List (At × Nat)} (h : F.Perm G) (x : At) : (addF F x).Perm (addF G x) := by
  unfold addF
  have h1 : (x ∉ F.map (·.1)) ↔ (x ∉ G.map (·.1)) := by rw [(h.map (·.1)).mem_iff]
  by_cases hc : factB x = true ∧ x ∉ F.map (·.1)
  · rw [if_pos hc, if_pos ⟨hc.1, h1.1 hc.2⟩]; exact h.append_right _
  · rw [if_neg hc, if_neg (fun k => hc ⟨k.1, h1.2 k.2⟩)]; exact h
theorem addF_len (F : List (At × Nat)) (x : At) : (addF F x).length ≤ F.length + 1 := by
  unfold addF; split <;> simp
theorem BS.add {g g' : BaseG} {k : Nat} {F : List (At × Nat)} (b : BS g k F) {x : At} (ok : BaseOK g') (h : (factsB g').Perm (addF (factsB g) x)) (h1 : g'.vs.length ≤ g.vs.length + 9) (h2 : g'.rs.length ≤ g.rs.length + 1) : BS g' (k + 1) (addF F x) :=
  ⟨ok, h.trans (addF_perm b.fs x), by have := b.vk; omega, by have := b.rk; omega, by have := b.fk; have := addF_len F x; omega⟩
theorem BS.turn {g : BaseG} {k : Nat} {F : List (At × Nat)} (b : BS g k F) : BS (turnB g) k (turnF F) :=
  ⟨turnB_ok b.ok, by rw [factsB_turn]; exact b.fs.map _, b.vk, by simpa [turnB] using b.rk, by simpa [turnF] using b.fk⟩
theorem BS.same {g g1 : BaseG} {k : Nat} {F : List (At × Nat)} (b : BS g k F) (h : SameB g g1) : BS g1 k F :=
  ⟨h.ok b.ok, by rw [h.facts]; exact b.fs, by rw [h.vs]; exact b.vk, by rw [h.len]; exact b.rk, b.fk⟩
theorem BS.nodup {g : BaseG} {k : Nat} {F : List (At × Nat)} (b : BS g k F) : (F.map (·.1)).Nodup := (b.fs.map (·.1)).nodup_iff.1 (facts_nodup b.ok)
theorem BS.mem {g : BaseG} {k : Nat} {F : List (At × Nat)} (b : BS g k F) (x : At) : x ∈ (factsB g).map (·.1) ↔ x ∈ F.map (·.1) := (b.fs.map (·.1)).mem_iff
theorem selF_perm {F G : List (At × Nat)} (h : F.Perm G) (parts : Int) : (selF F parts).Perm (selF G parts) := (h.filter _).map _
theorem n4F_perm {F G : List (At × Nat)} (h : F.Perm G) : n4F F = n4F G := (h.filter _).length_eq
theorem turnF_perm {F G : List (At × Nat)} (h : F.Perm G) : (turnF F).Perm (turnF G) := h.map _
theorem sortA_congr {l m : List At} (h : l.Perm m) : sortA l = sortA m := sortA_eq ((sortA_perm l).trans h) (sortA_sorted l)
theorem sortP_congr {l m : List Pd} (h : l.Perm m) : sortP l = sortP m := sortP_eq ((sortP_perm l).trans h) (sortP_sorted l)
theorem partF_perm {F G : List (At × Nat)} (h : F.Perm G) (hn : (F.map (·.1)).Nodup) (x : At) : partF F x = partF G x := by
  have hn2 : (G.map (·.1)).Nodup := (h.map (·.1)).nodup_iff.1 hn
  by_cases hx : x ∈ F.map (·.1)
  · obtain ⟨⟨y, n⟩, hy, rfl⟩ := List.mem_map.1 hx
    rw [partF_mem hn hy, partF_mem hn2 (h.mem_iff.1 hy)]
  · rw [partF_not hx, partF_not (fun k => hx ((h.map (·.1)).mem_iff.2 k))]
theorem new_bs (p rb : Nat) : BS ⟨p, none, none, 0, [], rb, []⟩ 0 [] :=
  ⟨⟨fun _ => rfl, List.nodup_nil, List.nodup_nil, (fun x hx => by cases hx), (fun x hx => by cases hx), (fun x hx => by cases hx), (fun x hx => by cases hx), by simp, by simp, by simp⟩, .refl _, by simp, by simp, by simp⟩
theorem pred_atom {g : BaseG} (ok : BaseOK g) {x : Pd × RelG} (hx : x ∈ g.rs) {q : List Int × Nat} (hq : q ∈ rp x.2) : predOf (atomOf g.vs x.1 q.1) = x.1 := by
  have h := (rel_row ok hx hq).1
  unfold predOf atomOf
  simp [h]
theorem facts_args {g : BaseG} (ok : BaseOK g) {x : At} (h : x ∈ (factsB g).map (·.1)) : x.args.length ≤ 8 := by
  obtain ⟨⟨y, n⟩, hy, rfl⟩ := List.mem_map.1 h
  unfold factsB at hy
  obtain ⟨z, hz, hq⟩ := List.mem_flatMap.1 hy
  obtain ⟨q, hq, he⟩ := List.mem_map.1 hq
  simp only [Prod.mk.injEq] at he
  have h1 := pred_atom ok hz hq
  rw [he.1] at h1
  have h2 := ok.ar z hz
  rw [← h1] at h2
  exact h2
theorem prF_nodup {g : BaseG} (ok : BaseOK g) : (prF g.rs).Nodup := by
  unfold prF
  exact List.Nodup.sublist (List.filter_sublist.map _) ok.rn
theorem prF_mem {g : BaseG} (ok : BaseOK g) (p : Pd) : p ∈ prF g.rs ↔ ∃ x ∈ (factsB g).map (·.1), predOf x = p := by
  unfold prF
  constructor
  · intro h
    obtain ⟨x, hx, rfl⟩ := List.mem_map.1 h
    obtain ⟨hx, he⟩ := List.mem_filter.1 hx
    have he : x.2.es ≠ [] := by simpa using he
    have hr : rp x.2 ≠ [] := by
      intro h0
      have := rp_len (g := x.2)
      rw [h0] at this
      exact he (List.length_eq_zero_iff.1 this.symm)
    obtain ⟨q, hq⟩ := List.exists_mem_of_ne_nil _ hr
    exact ⟨_, List.mem_map.2 ⟨(atomOf g.vs x.1 q.1, q.2), List.mem_flatMap.2 ⟨x, hx, List.mem_map.2 ⟨q, hq, rfl⟩⟩, rfl⟩, pred_atom ok hx hq⟩
  · rintro ⟨y, hy, rfl⟩
    obtain ⟨⟨y, n⟩, hy2, rfl⟩ := List.mem_map.1 hy
    obtain ⟨x, hx, hq⟩ := List.mem_flatMap.1 (show (y, n) ∈ g.rs.flatMap _ from hy2)
    obtain ⟨q, hq, he⟩ := List.mem_map.1 hq
    simp only [Prod.mk.injEq] at he
    refine List.mem_map.2 ⟨x, List.mem_filter.2 ⟨hx, ?_⟩, ?_⟩
    · have : x.2.es ≠ [] := by
        intro h0
        have h1 := rp_len (g := x.2)
        rw [h0] at h1
        rw [List.length_eq_zero_iff.1 h1] at hq
        cases hq
      simpa using this
    · rw [← he.1]; exact (pred_atom ok hx hq).symm
theorem prF_perm {g h : BaseG} {k m : Nat} {F G : List (At × Nat)} (b : BS g k F) (c : BS h m G) (hp : F.Perm G) : (prF g.rs).Perm (prF h.rs) := by
  refine (List.perm_ext_iff_of_nodup (prF_nodup b.ok) (prF_nodup c.ok)).2 fun p => ?_
  rw [prF_mem b.ok, prF_mem c.ok]
  constructor
  · rintro ⟨x, hx, e⟩
    exact ⟨x, (c.mem x).2 ((hp.map (·.1)).mem_iff.1 ((b.mem x).1 hx)), e⟩
  · rintro ⟨x, hx, e⟩
    exact ⟨x, (b.mem x).2 ((hp.map (·.1)).mem_iff.2 ((c.mem x).1 hx)), e⟩
theorem prF_small {g : BaseG} {k : Nat} {F : List (At × Nat)} (b : BS g k F) : (prF g.rs).length ≤ k := by
  unfold prF
  rw [List.length_map]
  exact Nat.le_trans (List.length_filter_le _ _) b.rk
/-! ### Many Adds -/
def addAll (F : List (At × Nat)) (l : List At) : List (At × Nat) := l.foldl addF F
theorem addAll_snoc (F : List (At × Nat)) (l : List At) (x : At) : addAll F (l ++ [x]) = addF (addAll F l) x := by simp [addAll]
theorem addF_keys {F : List (At × Nat)} (hn : (F.map (·.1)).Nodup) (x : At) : ((addF F x).map (·.1)).Nodup := by
  unfold addF
  split
  · rename_i h
    rw [List.map_append, List.nodup_append]
    exact ⟨hn, by simp, fun a ha b hb => by simp at hb; subst hb; rintro rfl; exact h.2 ha⟩
  · exact hn
theorem addF_mem (F : List (At × Nat)) (x : At) (q : At × Nat) : q ∈ addF F x ↔ q ∈ F ∨ (q = (x, 4) ∧ factB x = true ∧ x ∉ F.map (·.1)) := by
  unfold addF
  split
  · rename_i h; simp [h]
  · rename_i h; simp; intro h1 h2 h3; exact absurd ⟨h2, by simpa using h3⟩ h
theorem addAll_keys : ∀ (l : List At) {F : List (At × Nat)}, (F.map (·.1)).Nodup → ((addAll F l).map (·.1)).Nodup
  | [], _, h => h
  | x :: l, _, h => addAll_keys l (addF_keys h x)
theorem addF_key (F : List (At × Nat)) (x y : At) : y ∈ (addF F x).map (·.1) ↔ y ∈ F.map (·.1) ∨ (y = x ∧ factB x = true) := by
  unfold addF
  by_cases hc : factB x = true ∧ x ∉ F.map (·.1)
  · rw [if_pos hc, List.map_append, List.mem_append]
    simp [hc.1]
  · rw [if_neg hc]
    constructor
    · exact .inl
    · rintro (h | ⟨rfl, h⟩)
      · exact h
      · exact Classical.byContradiction fun hh => hc ⟨h, hh⟩
theorem addAll_mem : ∀ (l : List At) (F : List (At × Nat)) (q : At × Nat), q ∈ addAll F l ↔ q ∈ F ∨ (q.2 = 4 ∧ q.1 ∈ l ∧ factB q.1 = true ∧ q.1 ∉ F.map (·.1))
  | [], F, q => by simp [addAll]
  | x :: l, F, q => by
    show q ∈ addAll (addF F x) l ↔ _
    rw [addAll_mem l (addF F x) q, addF_mem, addF_key]
    obtain ⟨y, n⟩ := q
    by_cases hyx : y = x
    · subst hyx
      by_cases h1 : factB y = true <;> by_cases h2 : y ∈ F.map (·.1) <;> simp_all
      all_goals (try (constructor <;> intro h <;> simp_all))
    · simp [hyx]
theorem nodup_fst {α β : Type} {l : List (α × β)} (h : (l.map (·.1)).Nodup) : l.Nodup := by
  rw [List.nodup_iff_pairwise_ne, List.pairwise_map] at h
  exact h.imp fun hne he => hne (by rw [he])
/-- The order of the Adds, and how often each is made, does not show; nor do Adds of what is no fact. -/
theorem addAll_perm {F G : List (At × Nat)} {l m : List At} (hp : F.Perm G) (hn : (F.map (·.1)).Nodup) (h : ∀ x, factB x = true → (x ∈ l ↔ x ∈ m)) : (addAll F l).Perm (addAll G m) := by
  have hn2 : (G.map (·.1)).Nodup := (hp.map (·.1)).nodup_iff.1 hn
  refine (List.perm_ext_iff_of_nodup (nodup_fst (addAll_keys l hn)) (nodup_fst (addAll_keys m hn2))).2 fun q => ?_
  rw [addAll_mem, addAll_mem, hp.mem_iff, (hp.map (·.1)).mem_iff]
  constructor
  · rintro (h1 | ⟨h1, h2, h3, h4⟩)
    · exact .inl h1
    · exact .inr ⟨h1, (h _ h3).1 h2, h3, h4⟩
  · rintro (h1 | ⟨h1, h2, h3, h4⟩)
    · exact .inl h1
    · exact .inr ⟨h1, (h _ h3).2 h2, h3, h4⟩

end Go.Proofs.YtgiiifadbnpfkaaGreatDoor

namespace Go.Proofs.YtgiiifadbnpfkaaGreatDoor
open Go Go.Hw
set_option linter.unusedSimpArgs false
set_option linter.unusedVariables false
def factP (n : Int) : At := ⟨T0, ⟨#[112]⟩, [⟨1, n, E0⟩]⟩
theorem badd_bs (g : BaseG) (k : Nat) (F : List (At × Nat)) (b : BS g k F) (hk : k ≤ 100000000000) (x : At) (a : Option Addr) (c : Nat) (hl : x.args.length ≤ 1099511627775) (hs : x.name.size ≤ 1099511627776) (w : World) (hN : NoneAt w) (hN1 : ¬ DD (baseA g) 1) (hr : RT w a x.args) (hne : ∀ q, a = some q → 0 < x.args.length → ¬ DD (baseA g) q.block) (hA : Holds (baseA g) w) :
    Calls Tryz.prog 24 #[ptr g.p, atV x a c] w fun e w' => ∃ g', e = .returned (.tuple #[.bool (factB x && decide (x ∉ F.map (·.1))), .int .i64 (if factB x = true then 0 else 81)]) ∧ (BS g' (k + 1) (addF F x) ∧ g'.p = g.p) ∧ Turns (baseA g) (baseA g') w w' := by
  have h1 := b.vk
  have h2 := b.rk
  have h3 := b.fk
  have h4 := b.fs.length_eq
  refine (badd_calls g b.ok x a c hl hs (by omega) (by omega) (by omega) w hN hN1 hr hne hA).mono ?_
  rintro e w' ⟨he, g', ok, hp, hf, hv, hrs, ht⟩
  have hx : (x ∉ (factsB g).map (·.1)) ↔ (x ∉ F.map (·.1)) := not_congr (b.mem x)
  exact ⟨g', by rw [he]; simp only [hx], ⟨b.add ok hf hv hrs, hp⟩, ht⟩
theorem bturn_bs (g : BaseG) (k : Nat) (F : List (At × Nat)) (b : BS g k F) (w : World) (hA : Holds (baseA g) w) :
    Calls Tryz.prog 25 #[ptr g.p] w fun e w' => ∃ g', e = .returned (.int .i64 ((n4F F : Nat) : Int)) ∧ (BS g' k (turnF F) ∧ g'.p = g.p) ∧ Turns (baseA g) (baseA g') w w' := by
  refine (bturn_calls g b.ok w hA).mono ?_
  rintro e w' ⟨he, ht⟩
  exact ⟨turnB g, by rw [he, n4F_perm b.fs], ⟨b.turn, rfl⟩, ht⟩
structure AnsA where
  g : BaseG
  a : Option Addr
  c : Nat
  ys : List AG
theorem bfacts_bs (g : BaseG) (k : Nat) (F : List (At × Nat)) (b : BS g k F) (parts : Int) (w : World) (hA : Holds (baseA g) w) :
    Calls Tryz.prog 12 #[ptr g.p, .int .i64 parts] w fun e w' => ∃ z : AnsA, e = .returned (.slice z.a z.ys.length z.c) ∧ (z.ys.map AG.x = sortA (selF F parts) ∧ BS z.g k F ∧ z.g.p = g.p ∧ (∀ y ∈ z.ys, y.x.args.length ≤ 8) ∧ z.ys.length ≤ k) ∧ Turns (baseA g) (baseA z.g ++ atsA z.a z.c z.ys) w w' := by
  refine (bfacts_calls g b.ok parts w hA).mono ?_
  rintro e w' ⟨g1, la, lc, ys, he, hx, hs, ht⟩
  have hx2 : ys.map AG.x = sortA (selF F parts) := by rw [hx, sortA_congr (selF_perm b.fs parts)]
  refine ⟨⟨g1, la, lc, ys⟩, he, ⟨hx2, b.same hs, hs.p, fun y hy => ?_, ?_⟩, ht⟩
  · have h1 : y.x ∈ sortA (selF (factsB g) parts) := by rw [← hx]; exact List.mem_map.2 ⟨y, hy, rfl⟩
    have h2 := (sortA_perm _).mem_iff.1 h1
    obtain ⟨q, hq, he⟩ := List.mem_map.1 h2
    exact facts_args b.ok (by rw [← he]; exact List.mem_map.2 ⟨q, (List.mem_filter.1 hq).1, rfl⟩)
  · have h1 := congrArg List.length hx2
    rw [List.length_map, (sortA_perm _).length_eq, selF, List.length_map] at h1
    have := List.length_filter_le (fun q : At × Nat => inP parts q.2) F
    have := b.fk
    show ys.length ≤ k
    have h2 : ys.length = (F.filter fun q => inP parts q.2).length := h1
    omega
theorem RT.of_own {w0 ws w : World} {M I : Nat → Prop} {ow : List Hw.Item} (hw : Sat w0 M I ws ow w) {b : Nat} {t : Tm} {f : Nat × Nat} {T : TypeId} (hm : own b (.cells (tmC t).toArray T f) ∈ ow) : RT w (some ⟨b, 0, none⟩) [t] := by
  refine ⟨(fun h => by cases h), fun q hq i u hu j v hv => ?_⟩
  cases hq
  have hi : i = 0 := by have := (List.getElem?_eq_some_iff.1 hu).1; simpa using this
  subst hi
  simp only [List.getElem?_cons_zero, Option.some.injEq] at hu
  subst hu
  have h := own_cells hw hm j v hv
  have e : ((⟨b, 0, none⟩ : Addr).add (0 * 3)).add j = ⟨b, j, none⟩ := by rw [Nat.zero_mul, addr_add0, add_off, Nat.zero_add]
  rw [e]; exact h

set_option maxRecDepth 10000 in
theorem lfact_calls (n : Int) (w : World) : Calls Tryz.prog 27 #[.int .i64 n] w fun e w' => ∃ b, e = .returned (atV (factP n) (some ⟨b, 0, none⟩) 1) ∧ Turns [] [own b (.cells (tmC ⟨1, n, E0⟩).toArray 31 (0, 0))] w w' := by
  refine enterS (args := [.int .i64 n]) (fun _ => False) Tryz.func27 rfl Tryz.ntmps27 rfl rfl ?_
  refine WC.seq ?_
  refine WC.region ?_
  refine WL.alloc T.zr34 rfl ?_
  intro b2
  refine WL.nil ?_
  refine WX.next ?_
  refine WC.seq ?_
  refine WC.region ?_
  refine WL.val (OV.move rfl) rfl ?_
  refine WL.val (OV.buildStruct (xs := [(0, .const (.int .i64 1)), (1, .tmp 3)]) (pl := [(0, 1), (1, 1), (2, 1)]) (cs := tmC ⟨1, n, E0⟩) T.u31 T.zr31 (by kernel_rfl) rfl (fill_cons (us := [_]) rfl rfl (Nat.le_of_ble_eq_true rfl) (fill_cons (us := [_]) rfl rfl (Nat.le_of_ble_eq_true rfl) rfl))) rfl ?_
  refine WL.buildSliceA (cs := tmC ⟨1, n, E0⟩) T.u32 T.z31 T.zr31 rfl rfl (by omega) (by omega) rfl ?_
  intro b5
  refine WL.val (OV.buildStruct (xs := [(1, .const (.string ⟨#[112]⟩)), (2, .tmp 5)]) (pl := [(0, 3), (3, 1), (4, 1)]) (cs := atC (factP n) (some ⟨b5, 0, none⟩) 1) T.u34 T.zr34 (by kernel_rfl) rfl (fill_cons (us := [_]) rfl rfl (Nat.le_of_ble_eq_true rfl) (fill_cons (us := [_]) rfl rfl (Nat.le_of_ble_eq_true rfl) rfl))) rfl ?_
  refine WL.focus perm1 (WL.storeAll (vs := atC (factP n) (some ⟨b5, 0, none⟩) 1) rfl rfl rfl T.z34 rfl ?_)
  refine WL.nil ?_
  refine WX.next ?_
  refine WC.ret ?_
  refine WX.retC (cs := atC (factP n) (some ⟨b5, 0, none⟩) 1) rfl rfl rfl T.u34 rfl T.z34 (fun w' hw j v hj => own_cells hw (.head _) j v hj) (fun w' hw => ⟨b5, rfl, ?_⟩)
  exact (hw.pick [[own b2 (.cells (atC (factP n) (some ⟨b5, 0, none⟩) 1).toArray 34 (0, 0))], [own b5 (.cells (tmC ⟨1, n, E0⟩).toArray 31 (0, 0))]] [1] 2 rfl (by decide) (by decide)).turned0

end Go.Proofs.YtgiiifadbnpfkaaGreatDoor

namespace Go.Proofs.YtgiiifadbnpfkaaGreatDoor
open Go Go.Hw
set_option linter.unusedSimpArgs false
set_option linter.unusedVariables false
set_option maxRecDepth 10000 in
theorem cloneT_calls (ts : List Tm) (a : Option Addr) (c : Nat) (hm : ts.length ≤ 1099511627776) (w : World) (hr : RT w a ts) : Calls Tryz.prog 52 #[.slice a ts.length c] w fun e w' => ∃ a' c', e = .returned (.slice a' ts.length c') ∧ Turns [] [rowT a' c' ts] w w' := by
  refine enterS (args := [.slice a ts.length c]) (fun _ => False) Tryz.func52 rfl Tryz.ntmps52 rfl rfl ?_
  refine WC.seq ?_
  refine WC.region ?_
  refine WL.val (OV.assign rfl) rfl ?_
  refine WL.nil ?_
  refine WX.next ?_
  refine WC.seq ?_
  refine WC.seq ?_
  refine WC.region ?_
  refine WL.val (OV.move rfl) rfl ?_
  refine WL.val (OV.eqlSN T.u32 rfl rfl) rfl ?_
  refine WL.nil ?_
  refine WX.next ?_
  refine WC.cond rfl (fun c4 => ?_) (fun c4 => ?_)
  · skip -- c4
    refine WC.seq ?_
    refine WC.region ?_
    refine WL.val (OV.assign rfl) rfl ?_
    refine WL.nil ?_
    refine WX.next ?_
    refine WC.ret ?_
    refine WX.then_ret ?_
    have hn : a = none := by cases a <;> simp at c4; rfl
    have hl : ts = [] := List.eq_nil_of_length_eq_zero (hr.nil hn)
    subst hl
    exact WX.ret1 rfl rfl rfl (fun w hw => ⟨none, 0, rfl, (hw.rowNil 31 3).turned0⟩)
  · skip -- c4
    refine WC.skip ?_
    refine WX.next ?_
    refine WC.seq ?_
    refine WC.region ?_
    refine WL.buildSlice0 T.u32 T.z31 rfl ?_
    intro b5
    refine WL.val (OV.move rfl) rfl ?_
    refine WL.append (news := ts.flatMap tmC) rfl rfl T.apT (fun _ _ => Src.of_rt hr.nil (fun _ hw => hr.keeps hw.keeps)) (tms_one _) ⟨by omega, by unfold maxLen; omega⟩ rfl ?_
    intro a7 c7
    refine WL.val (OV.assign rfl) rfl ?_
    refine WL.nil ?_
    refine WX.next ?_
    refine WC.ret ?_
    refine WX.ret1 rfl rfl rfl (fun w hw => ⟨a7, c7, by rw [Nat.zero_add], ?_⟩)
    rw [List.nil_append, Nat.zero_add] at hw
    exact hw.turned0

set_option maxRecDepth 10000 in
theorem bfind_calls (g : BaseG) (parts : Int) (x : At) (a : Option Addr) (c : Nat) (hl : x.args.length ≤ 1099511627776) (w : World) (hr : RT w a x.args) : Calls Tryz.prog 22 #[ptr g.p, .int .i64 parts, atV x a c] w fun e w' => ∃ z : Nat × Nat × Nat × Option Addr × Nat, e = .returned (.func (.func 53) #[] #[ptr z.1, ptr z.2.1, ptr z.2.2.1]) ∧ Turns [] [own z.1 (.cells [ptr g.p].toArray 23 (0, 0)), own z.2.1 (.cells [.int .i64 parts].toArray 3 (0, 0)), own z.2.2.1 (.cells (atC x z.2.2.2.1 z.2.2.2.2).toArray 34 (0, 0)), rowT z.2.2.2.1 z.2.2.2.2 x.args] w w' := by
  refine enterS (args := [ptr g.p, .int .i64 parts, atV x a c]) (fun _ => False) Tryz.func22 rfl Tryz.ntmps22 rfl rfl ?_
  refine WC.seq ?_
  refine WC.region ?_
  refine WL.box rfl rfl rfl ?_
  intro b3
  refine WL.box rfl rfl rfl ?_
  intro b4
  refine WL.box rfl rfl rfl ?_
  intro b5
  refine WL.val (OV.assign rfl) rfl ?_
  refine WL.nil ?_
  refine WX.next ?_
  refine WC.seq ?_
  refine WC.drawn (fun w' => w'.heap[b5]? = some (.cells (atC x a c).toArray 34 (0, 0))) [] (by kernel_rfl) (by kernel_rfl) (m := 10) rfl ?_
  first
  | (refine WH.free 0 rfl (by kernel_rfl) (by kernel_rfl) (by kernel_rfl) rfl (fun _ => (fun _ hw => hw.it (own b5 _) (by simp))) (OV.fieldAddr0 (off := 0) rfl T.u34 rfl) rfl (listed' := [true, false, false, false, false, false, false, false, false, false]) rfl ?_)
  | (refine WH.free 0 rfl (by kernel_rfl) (by kernel_rfl) (by kernel_rfl) rfl (fun _ => (fun _ hw => hw.it (own b5 _) (by simp))) (OV.fieldAddr (off := 0) rfl T.u34 rfl) rfl (listed' := [true, false, false, false, false, false, false, false, false, false]) rfl ?_)
  refine WH.take 1 rfl (by kernel_rfl) (by kernel_rfl) (by kernel_rfl) (by kernel_rfl) (fun _ hw => hw.it (own b5 _) (by simp)) (OV.loadN (cs := tmC x.b) rfl T.u31 rfl T.z31 (fun _ hw j v hj => by rw [add_off]; exact heap_part hw (o := 0) (cs' := tmC x.b) rfl j v hj)) rfl (listed' := [true, true, false, false, false, false, false, false, false, false]) rfl ?_
  first
  | (refine WH.free 2 rfl (by kernel_rfl) (by kernel_rfl) (by kernel_rfl) rfl (fun _ => (fun _ hw => hw.it (own b5 _) (by simp))) (OV.fieldAddr0 (off := 3) rfl T.u34 rfl) rfl (listed' := [true, true, true, false, false, false, false, false, false, false]) rfl ?_)
  | (refine WH.free 2 rfl (by kernel_rfl) (by kernel_rfl) (by kernel_rfl) rfl (fun _ => (fun _ hw => hw.it (own b5 _) (by simp))) (OV.fieldAddr (off := 3) rfl T.u34 rfl) rfl (listed' := [true, true, true, false, false, false, false, false, false, false]) rfl ?_)
  refine WH.take 3 rfl (by kernel_rfl) (by kernel_rfl) (by kernel_rfl) (by kernel_rfl) (fun _ hw => hw.it (own b5 _) (by simp)) (OV.load1 (v := .string x.name) rfl T.u9 rfl (fun _ hw => (cell_at hw (o := 3) rfl).1)) rfl (listed' := [true, true, true, true, false, false, false, false, false, false]) rfl ?_
  first
  | (refine WH.free 4 rfl (by kernel_rfl) (by kernel_rfl) (by kernel_rfl) rfl (fun _ => (fun _ hw => hw.it (own b5 _) (by simp))) (OV.fieldAddr0 (off := 4) rfl T.u34 rfl) rfl (listed' := [true, true, true, true, true, false, false, false, false, false]) rfl ?_)
  | (refine WH.free 4 rfl (by kernel_rfl) (by kernel_rfl) (by kernel_rfl) rfl (fun _ => (fun _ hw => hw.it (own b5 _) (by simp))) (OV.fieldAddr (off := 4) rfl T.u34 rfl) rfl (listed' := [true, true, true, true, true, false, false, false, false, false]) rfl ?_)
  refine WH.take 5 rfl (by kernel_rfl) (by kernel_rfl) (by kernel_rfl) (by kernel_rfl) (fun _ hw => hw.it (own b5 _) (by simp)) (OV.load1 (v := .slice a x.args.length c) rfl T.u32 rfl (fun _ hw => (cell_at hw (o := 4) rfl).1)) rfl (listed' := [true, true, true, true, true, true, false, false, false, false]) rfl ?_
  refine WH.two 6 8 rfl rfl (by kernel_rfl) (listed1 := [true, true, true, true, true, true, true, false, false, false]) rfl (listed2 := [true, true, true, true, true, true, false, false, true, false]) rfl (fl1 := false) rfl (fl2 := false) rfl ?_ ?_
  · refine WL.callTA (ι := Option Addr × Nat) (vs := [.slice a x.args.length c]) (vv := fun q => .slice q.1 x.args.length q.2) (pp := fun _ => True) [] (AA := fun q => [rowT q.1 q.2 x.args]) rfl (by kernel_rfl) rfl rfl (fun w' hw' _ => (cloneT_calls x.args a c hl w' (hr.keeps hw'.keeps)).mono (fun en w'' ⟨la, lc, h1, h2⟩ => ⟨(la, lc), h1, trivial, h2⟩)) ?_
    rintro ⟨la, lc⟩ _
    refine WL.nil ?_
    refine WX.contD (by kernel_rfl) (fun _ => (fun _ hw => hw.it (own b5 _) (by simp))) ?_
    refine WH.free 7 rfl (by kernel_rfl) (by kernel_rfl) (by kernel_rfl) rfl (fun _ => (fun _ hw => hw.it (own b5 _) (by simp))) (OV.buildStruct (xs := [(0, .tmp 9), (1, .tmp 11), (2, .tmp 14)]) (pl := [(0, 3), (3, 1), (4, 1)]) (cs := atC x la lc) T.u34 T.zr34 (by kernel_rfl) rfl (fill_cons (us := tmC x.b) rfl rfl (Nat.le_of_ble_eq_true rfl) (fill_cons (us := [_]) rfl rfl (Nat.le_of_ble_eq_true rfl) (fill_cons (us := [_]) rfl rfl (Nat.le_of_ble_eq_true rfl) rfl)))) rfl (listed' := [true, true, true, true, true, true, true, true, false, false]) rfl ?_
    refine WH.only 8 rfl (by kernel_rfl) (listed' := [true, true, true, true, true, true, true, true, true, false]) rfl (fl' := false) rfl ?_
    refine WL.alloc T.zr34 rfl ?_
    intro b7
    refine WL.nil ?_
    refine WX.contD (by kernel_rfl) (fun _ => (fun _ hw => hw.it (own b5 _) (by simp))) ?_
    refine WH.only 9 rfl (by kernel_rfl) (listed' := [true, true, true, true, true, true, true, true, true, true]) rfl (fl' := false) rfl ?_
    refine WL.storeAll (vs := atC x la lc) rfl rfl rfl T.z34 rfl ?_
    refine WL.nil ?_
    refine WX.contD (by kernel_rfl) (fun _ => (fun _ hw => hw.it (own b5 _) (by simp))) ?_
    refine WH.done (by kernel_rfl) ?_
    refine WX.next ?_
    refine WC.seq ?_
    refine WC.region ?_
    refine WL.val (OV.makeFunc rfl) rfl ?_
    refine WL.val (OV.assign rfl) rfl ?_
    refine WL.nil ?_
    refine WX.next ?_
    refine WC.ret ?_
    refine WX.ret1 rfl rfl rfl (fun w' hw => ⟨(b3, b4, b7, la, lc), rfl, ?_⟩)
    exact (hw.pick [[own b7 (.cells (atC x la lc).toArray 34 (0, 0))], [rowT la lc x.args], [own b5 (.cells (atC x a c).toArray 34 (0, 0))], [own b4 (.cells [.int .i64 parts].toArray 3 (0, 0))], [own b3 (.cells [ptr g.p].toArray 23 (0, 0))]] [4, 3, 0, 1] 5 rfl (by decide) (by decide)).turned0
  · refine WL.alloc T.zr34 rfl ?_
    intro b7
    refine WL.nil ?_
    refine WX.contD (by kernel_rfl) (fun _ => (fun _ hw => hw.it (own b5 _) (by simp))) ?_
    refine WH.only 6 rfl (by kernel_rfl) (listed' := [true, true, true, true, true, true, true, false, true, false]) rfl (fl' := false) rfl ?_
    refine WL.callTA (ι := Option Addr × Nat) (vs := [.slice a x.args.length c]) (vv := fun q => .slice q.1 x.args.length q.2) (pp := fun _ => True) [] (AA := fun q => [rowT q.1 q.2 x.args]) rfl (by kernel_rfl) rfl rfl (fun w' hw' _ => (cloneT_calls x.args a c hl w' (hr.keeps hw'.keeps)).mono (fun en w'' ⟨la, lc, h1, h2⟩ => ⟨(la, lc), h1, trivial, h2⟩)) ?_
    rintro ⟨la, lc⟩ _
    refine WL.nil ?_
    refine WX.contD (by kernel_rfl) (fun _ => (fun _ hw => hw.it (own b5 _) (by simp))) ?_
    refine WH.free 7 rfl (by kernel_rfl) (by kernel_rfl) (by kernel_rfl) rfl (fun _ => (fun _ hw => hw.it (own b5 _) (by simp))) (OV.buildStruct (xs := [(0, .tmp 9), (1, .tmp 11), (2, .tmp 14)]) (pl := [(0, 3), (3, 1), (4, 1)]) (cs := atC x la lc) T.u34 T.zr34 (by kernel_rfl) rfl (fill_cons (us := tmC x.b) rfl rfl (Nat.le_of_ble_eq_true rfl) (fill_cons (us := [_]) rfl rfl (Nat.le_of_ble_eq_true rfl) (fill_cons (us := [_]) rfl rfl (Nat.le_of_ble_eq_true rfl) rfl)))) rfl (listed' := [true, true, true, true, true, true, true, true, true, false]) rfl ?_
    refine WH.only 9 rfl (by kernel_rfl) (listed' := [true, true, true, true, true, true, true, true, true, true]) rfl (fl' := false) rfl ?_
    refine WL.focus perm1 (WL.storeAll (vs := atC x la lc) rfl rfl rfl T.z34 rfl ?_)
    refine WL.nil ?_
    refine WX.contD (by kernel_rfl) (fun _ => (fun _ hw => hw.it (own b5 _) (by simp))) ?_
    refine WH.done (by kernel_rfl) ?_
    refine WX.next ?_
    refine WC.seq ?_
    refine WC.region ?_
    refine WL.val (OV.makeFunc rfl) rfl ?_
    refine WL.val (OV.assign rfl) rfl ?_
    refine WL.nil ?_
    refine WX.next ?_
    refine WC.ret ?_
    refine WX.ret1 rfl rfl rfl (fun w' hw => ⟨(b3, b4, b7, la, lc), rfl, ?_⟩)
    exact (hw.pick [[own b7 (.cells (atC x la lc).toArray 34 (0, 0))], [rowT la lc x.args], [own b5 (.cells (atC x a c).toArray 34 (0, 0))], [own b4 (.cells [.int .i64 parts].toArray 3 (0, 0))], [own b3 (.cells [ptr g.p].toArray 23 (0, 0))]] [4, 3, 0, 1] 5 rfl (by decide) (by decide)).turned0

end Go.Proofs.YtgiiifadbnpfkaaGreatDoor

namespace Go.Proofs.YtgiiifadbnpfkaaGreatDoor
open Go Go.Hw
set_option linter.unusedSimpArgs false
set_option linter.unusedVariables false
theorem NoneAt.lt {w : World} (h : NoneAt w) : 1 < w.heap.size := World.block_lt_of_cell? w ⟨1, 0, none⟩ (h 0 _ rfl)
theorem fact5 : factB (factP 5) = true := by kernel_rfl
theorem add5a : addF [] (factP 5) = [(factP 5, 4)] := by
  unfold addF; rw [if_pos ⟨fact5, by simp⟩]; rfl
theorem add5b : addF [(factP 5, 4)] (factP 5) = [(factP 5, 4)] := by
  unfold addF; rw [if_neg (by simp)]
theorem turn5 : turnF [(factP 5, 4)] = [(factP 5, 2)] := rfl
theorem sel5 : sortA (selF [(factP 5, 2)] 2) = [factP 5] := by
  have h : selF [(factP 5, 2)] 2 = [factP 5] := by
    unfold selF
    rw [List.filter_cons, if_pos (by rfl)]; rfl
  rw [h]; exact List.mergeSort_singleton _

set_option maxRecDepth 10000 in
theorem first_calls (w : World) (hN : NoneAt w) : Calls Tryz.prog 18 #[] w fun e w' => e = .returned (.bool true) ∧ Fr0 w w' := by
  refine enterS (args := []) (fun _ => False) Tryz.func18 rfl Tryz.ntmps18 rfl rfl ?_
  refine WC.seq ?_
  refine WC.region ?_
  refine WL.val (OV.assign rfl) rfl ?_
  refine WL.nil ?_
  refine WX.next ?_
  refine WC.seq ?_
  refine WC.region ?_
  refine WL.callTA (ι := Nat × Nat) (vs := []) (vv := fun z => ptr z.1) (pp := fun _ => True) [] (AA := fun z => baseA ⟨z.1, none, none, 0, [], z.2, []⟩) rfl (by kernel_rfl) rfl rfl (fun w' hw' _ => (bnew_calls w').mono (fun en w'' ⟨p, rb, h1, h2⟩ => ⟨(p, rb), h1, trivial, h2⟩)) ?_
  rintro ⟨pg0, rbg0⟩ _
  obtain ⟨g0, eg0⟩ : ∃ g : BaseG, g = ⟨pg0, none, none, 0, [], rbg0, []⟩ := ⟨_, rfl⟩
  have bsg0 : BS g0 0 [] := by rw [eg0]; exact new_bs _ _
  have hpg0 : g0.p = pg0 := by rw [eg0]
  rw [show ptr (pg0, rbg0).1 = ptr g0.p from by rw [hpg0]]
  refine WL.focus (ow' := baseA g0) (List.Perm.of_eq (by rw [List.append_nil]; exact congrArg baseA (eg0.trans (rfl)))) ?_
  refine WL.val (OV.assign rfl) rfl ?_
  refine WL.nil ?_
  refine WX.next ?_
  refine WC.seq ?_
  refine WC.seq ?_
  refine WC.region ?_
  refine WL.val (OV.move rfl) rfl ?_
  refine WL.val (OV.eqlPN T.u23 rfl rfl) rfl ?_
  refine WL.nil ?_
  refine WX.next ?_
  refine WC.condF rfl ?_
  refine WC.skip ?_
  refine WX.next ?_
  refine WC.seq ?_
  refine WC.region ?_
  refine WL.val (OV.move rfl) rfl ?_
  refine WL.callTA (ι := Nat) (vs := [.int .i64 5]) (vv := fun b => atV (factP 5) (some ⟨b, 0, none⟩) 1) (pp := fun _ => True) [] (AA := fun b => [own b (.cells (tmC ⟨1, 5, E0⟩).toArray 31 (0, 0))]) rfl (by kernel_rfl) rfl rfl (fun w' hw' _ => (lfact_calls 5 w').mono (fun en w'' ⟨b, h1, h2⟩ => ⟨b, h1, trivial, h2⟩)) ?_
  rintro f1 _
  refine WL.focus (ow' := baseA g0 ++ ([own f1 (.cells (tmC ⟨1, 5, E0⟩).toArray 31 (0, 0))])) (perm_cat [[own f1 (.cells (tmC ⟨1, 5, E0⟩).toArray 31 (0, 0))], baseA g0] [1, 0] (by decide) rfl) ?_
  refine WL.callTA (ι := BaseG) (vs := [ptr g0.p, atV (factP 5) (some ⟨f1, 0, none⟩) 1]) (vv := fun _ => .tuple #[.bool true, .int .i64 0]) (pp := fun g' => BS g' (0 + 1) [(factP 5, 4)] ∧ g'.p = g0.p) (baseA g0) (AA := fun g' => baseA g') rfl (by kernel_rfl) (by rfl) rfl (fun w' hw' hH => (badd_bs g0 0 [] bsg0 (by decide) (factP 5) (some ⟨f1, 0, none⟩) 1 (by decide) (by decide) w' (hN.keeps hw'.keeps) (Sat.sepI hw' hN.lt) (RT.of_own hw' (List.mem_append_right _ (.head _))) (fun q hq _ => by cases hq; exact Sat.sepO hw' (i := own f1 (.cells (tmC ⟨1, 5, E0⟩).toArray 31 (0, 0))) (.head _) rfl) hH).mono (fun en w'' ⟨g', h1, h2, h3⟩ => ⟨g', by rw [h1, fact5]; rfl, by first | rwa [add5a] at h2 | rwa [add5b] at h2, h3⟩)) ?_
  rintro g1 ⟨bsg1, hpg1⟩
  refine WL.val (OV.move rfl) rfl ?_
  refine WL.val (OV.extract rfl rfl) rfl ?_
  refine WL.val (OV.extract rfl rfl) rfl ?_
  refine WL.val (OV.assign rfl) rfl ?_
  refine WL.val (OV.assign rfl) rfl ?_
  refine WL.nil ?_
  refine WX.next ?_
  refine WC.seq ?_
  refine WC.region ?_
  refine WL.val (OV.move rfl) rfl ?_
  refine WL.callTA (ι := Nat) (vs := [.int .i64 5]) (vv := fun b => atV (factP 5) (some ⟨b, 0, none⟩) 1) (pp := fun _ => True) [] (AA := fun b => [own b (.cells (tmC ⟨1, 5, E0⟩).toArray 31 (0, 0))]) rfl (by kernel_rfl) rfl rfl (fun w' hw' _ => (lfact_calls 5 w').mono (fun en w'' ⟨b, h1, h2⟩ => ⟨b, h1, trivial, h2⟩)) ?_
  rintro f2 _
  refine WL.focus (ow' := baseA g1 ++ ([own f2 (.cells (tmC ⟨1, 5, E0⟩).toArray 31 (0, 0))] ++ ([own f1 (.cells (tmC ⟨1, 5, E0⟩).toArray 31 (0, 0))]))) (perm_cat [[own f2 (.cells (tmC ⟨1, 5, E0⟩).toArray 31 (0, 0))], baseA g1, [own f1 (.cells (tmC ⟨1, 5, E0⟩).toArray 31 (0, 0))]] [1, 0, 2] (by decide) rfl) ?_
  refine WL.callTA (ι := BaseG) (vs := [ptr g1.p, atV (factP 5) (some ⟨f2, 0, none⟩) 1]) (vv := fun _ => .tuple #[.bool false, .int .i64 0]) (pp := fun g' => BS g' (1 + 1) [(factP 5, 4)] ∧ g'.p = g1.p) (baseA g1) (AA := fun g' => baseA g') rfl (by kernel_rfl) (by rw [hpg1]; rfl) rfl (fun w' hw' hH => (badd_bs g1 1 [(factP 5, 4)] bsg1 (by decide) (factP 5) (some ⟨f2, 0, none⟩) 1 (by decide) (by decide) w' (hN.keeps hw'.keeps) (Sat.sepI hw' hN.lt) (RT.of_own hw' (List.mem_append_right _ (.head _))) (fun q hq _ => by cases hq; exact Sat.sepO hw' (i := own f2 (.cells (tmC ⟨1, 5, E0⟩).toArray 31 (0, 0))) (.head _) rfl) hH).mono (fun en w'' ⟨g', h1, h2, h3⟩ => ⟨g', by rw [h1, fact5]; rfl, by first | rwa [add5a] at h2 | rwa [add5b] at h2, h3⟩)) ?_
  rintro g2 ⟨bsg2, hpg2⟩
  refine WL.val (OV.move rfl) rfl ?_
  refine WL.val (OV.extract rfl rfl) rfl ?_
  refine WL.val (OV.extract rfl rfl) rfl ?_
  refine WL.val (OV.assign rfl) rfl ?_
  refine WL.val (OV.assign rfl) rfl ?_
  refine WL.nil ?_
  refine WX.next ?_
  refine WC.seq ?_
  refine WC.region ?_
  refine WL.val (OV.move rfl) rfl ?_
  refine WL.callTA (ι := BaseG) (vs := [ptr g2.p]) (vv := fun _ => .int .i64 1) (pp := fun g' => BS g' 2 [(factP 5, 2)] ∧ g'.p = g2.p) (baseA g2) (AA := fun g' => baseA g') rfl (by kernel_rfl) (by rw [hpg2, hpg1]; rfl) rfl (fun w' hw' hH => (bturn_bs g2 2 _ bsg2 w' hH).mono (fun en w'' ⟨g', h1, h2, h3⟩ => ⟨g', h1, h2, h3⟩)) ?_
  rintro g3 ⟨bsg3, hpg3⟩
  refine WL.val (OV.assign rfl) rfl ?_
  refine WL.nil ?_
  refine WX.next ?_
  refine WC.seq ?_
  refine WC.region ?_
  refine WL.val (OV.move rfl) rfl ?_
  refine WL.callTA (ι := AnsA) (vs := [ptr g3.p, .int .i64 2]) (vv := fun z => .slice z.a 1 z.c) (pp := fun z => z.ys.map AG.x = [factP 5]) (baseA g3) (AA := fun z => baseA z.g ++ atsA z.a z.c z.ys) rfl (by kernel_rfl) (by rw [hpg3, hpg2, hpg1]; rfl) rfl (fun w' hw' hH => (bfacts_bs g3 2 _ bsg3 2 w' hH).mono (fun en w'' ⟨z, h1, h2, h3⟩ => ⟨z, by rw [h1, show z.ys.length = 1 from by have h := congrArg List.length h2.1; rw [sel5, List.length_map] at h; exact h], by rw [h2.1, sel5], h3⟩)) ?_
  rintro z hz
  obtain ⟨y, hy⟩ : ∃ y, z.ys = [y] := by
    have h := congrArg List.length hz
    rw [List.length_map] at h
    exact List.length_eq_one_iff.1 h
  have hyx : y.x = factP 5 := by rw [hy] at hz; simpa using hz
  refine WL.val (OV.assign rfl) rfl ?_
  refine WL.nil ?_
  refine WX.next ?_
  refine WC.seq ?_
  refine WC.know (fun w' hw => (show ∃ q, z.a = some ⟨q, 0, none⟩ from row_addrK (hw.it (rowAt z.a z.c z.ys) (by simp [atsA])) (by rw [hy]; exact Nat.one_pos))) (fun hza => ?_)
  refine WC.drawn (fun w' => (rowAt z.a z.c z.ys).φ w') [] (by kernel_rfl) (by kernel_rfl) (m := 30) rfl ?_
  refine WH.free 0 rfl (by kernel_rfl) (by kernel_rfl) (by kernel_rfl) rfl (fun _ => (fun _ hw => hw.it _ (by simp [atsA]))) (OV.move rfl) rfl (listed' := [true, false, false, false, false, false, false, false, false, false, false, false, false, false, false, false, false, false, false, false, false, false, false, false, false, false, false, false, false, false]) rfl ?_
  refine WH.free 1 rfl (by kernel_rfl) (by kernel_rfl) (by kernel_rfl) rfl (fun _ => (fun _ hw => hw.it _ (by simp [atsA]))) (OV.move rfl) rfl (listed' := [true, true, false, false, false, false, false, false, false, false, false, false, false, false, false, false, false, false, false, false, false, false, false, false, false, false, false, false, false, false]) rfl ?_
  refine WH.known (t := 28) (b := true) rfl (by rfl) ?_
  refine WH.freeG 2 (b := true) rfl (by kernel_rfl) (by kernel_rfl) (by kernel_rfl) rfl (fun _ => (fun _ hw => hw.it _ (by simp [atsA]))) rfl rfl rfl (OV.move rfl) rfl (listed' := [true, true, true, false, false, false, false, false, false, false, false, false, false, false, false, false, false, false, false, false, false, false, false, false, false, false, false, false, false, false]) rfl ?_
  refine WH.freeG 3 (b := true) rfl (by kernel_rfl) (by kernel_rfl) (by kernel_rfl) rfl (fun _ => (fun _ hw => hw.it _ (by simp [atsA]))) rfl rfl rfl (OV.not rfl) rfl (listed' := [true, true, true, true, false, false, false, false, false, false, false, false, false, false, false, false, false, false, false, false, false, false, false, false, false, false, false, false, false, false]) rfl ?_
  refine WH.free 4 rfl (by kernel_rfl) (by kernel_rfl) (by kernel_rfl) rfl (fun _ => (fun _ hw => hw.it _ (by simp [atsA]))) (OV.pickT rfl rfl) rfl (listed' := [true, true, true, true, true, false, false, false, false, false, false, false, false, false, false, false, false, false, false, false, false, false, false, false, false, false, false, false, false, false]) rfl ?_
  refine WH.free 5 rfl (by kernel_rfl) (by kernel_rfl) (by kernel_rfl) rfl (fun _ => (fun _ hw => hw.it _ (by simp [atsA]))) (OV.move rfl) rfl (listed' := [true, true, true, true, true, true, false, false, false, false, false, false, false, false, false, false, false, false, false, false, false, false, false, false, false, false, false, false, false, false]) rfl ?_
  refine WH.known (t := 32) (b := true) rfl (by rfl) ?_
  refine WH.freeG 6 (b := true) rfl (by kernel_rfl) (by kernel_rfl) (by kernel_rfl) rfl (fun _ => (fun _ hw => hw.it _ (by simp [atsA]))) rfl rfl rfl (OV.move rfl) rfl (listed' := [true, true, true, true, true, true, true, false, false, false, false, false, false, false, false, false, false, false, false, false, false, false, false, false, false, false, false, false, false, false]) rfl ?_
  refine WH.freeG 7 (b := true) rfl (by kernel_rfl) (by kernel_rfl) (by kernel_rfl) rfl (fun _ => (fun _ hw => hw.it _ (by simp [atsA]))) rfl rfl rfl (OV.eql rfl rfl) rfl (listed' := [true, true, true, true, true, true, true, true, false, false, false, false, false, false, false, false, false, false, false, false, false, false, false, false, false, false, false, false, false, false]) rfl ?_
  refine WH.free 8 rfl (by kernel_rfl) (by kernel_rfl) (by kernel_rfl) rfl (fun _ => (fun _ hw => hw.it _ (by simp [atsA]))) (OV.pickT rfl rfl) rfl (listed' := [true, true, true, true, true, true, true, true, true, false, false, false, false, false, false, false, false, false, false, false, false, false, false, false, false, false, false, false, false, false]) rfl ?_
  refine WH.free 9 rfl (by kernel_rfl) (by kernel_rfl) (by kernel_rfl) rfl (fun _ => (fun _ hw => hw.it _ (by simp [atsA]))) (OV.move rfl) rfl (listed' := [true, true, true, true, true, true, true, true, true, true, false, false, false, false, false, false, false, false, false, false, false, false, false, false, false, false, false, false, false, false]) rfl ?_
  refine WH.known (t := 36) (b := true) rfl (by rfl) ?_
  refine WH.freeG 10 (b := true) rfl (by kernel_rfl) (by kernel_rfl) (by kernel_rfl) rfl (fun _ => (fun _ hw => hw.it _ (by simp [atsA]))) rfl rfl rfl (OV.move rfl) rfl (listed' := [true, true, true, true, true, true, true, true, true, true, true, false, false, false, false, false, false, false, false, false, false, false, false, false, false, false, false, false, false, false]) rfl ?_
  refine WH.freeG 11 (b := true) rfl (by kernel_rfl) (by kernel_rfl) (by kernel_rfl) rfl (fun _ => (fun _ hw => hw.it _ (by simp [atsA]))) rfl rfl rfl (OV.eql rfl rfl) rfl (listed' := [true, true, true, true, true, true, true, true, true, true, true, true, false, false, false, false, false, false, false, false, false, false, false, false, false, false, false, false, false, false]) rfl ?_
  refine WH.free 12 rfl (by kernel_rfl) (by kernel_rfl) (by kernel_rfl) rfl (fun _ => (fun _ hw => hw.it _ (by simp [atsA]))) (OV.pickT rfl rfl) rfl (listed' := [true, true, true, true, true, true, true, true, true, true, true, true, true, false, false, false, false, false, false, false, false, false, false, false, false, false, false, false, false, false]) rfl ?_
  refine WH.free 13 rfl (by kernel_rfl) (by kernel_rfl) (by kernel_rfl) rfl (fun _ => (fun _ hw => hw.it _ (by simp [atsA]))) (OV.move rfl) rfl (listed' := [true, true, true, true, true, true, true, true, true, true, true, true, true, true, false, false, false, false, false, false, false, false, false, false, false, false, false, false, false, false]) rfl ?_
  refine WH.known (t := 40) (b := true) rfl (by rfl) ?_
  refine WH.freeG 14 (b := true) rfl (by kernel_rfl) (by kernel_rfl) (by kernel_rfl) rfl (fun _ => (fun _ hw => hw.it _ (by simp [atsA]))) rfl rfl rfl (OV.move rfl) rfl (listed' := [true, true, true, true, true, true, true, true, true, true, true, true, true, true, true, false, false, false, false, false, false, false, false, false, false, false, false, false, false, false]) rfl ?_
  refine WH.freeG 15 (b := true) rfl (by kernel_rfl) (by kernel_rfl) (by kernel_rfl) rfl (fun _ => (fun _ hw => hw.it _ (by simp [atsA]))) rfl rfl rfl (OV.eql rfl rfl) rfl (listed' := [true, true, true, true, true, true, true, true, true, true, true, true, true, true, true, true, false, false, false, false, false, false, false, false, false, false, false, false, false, false]) rfl ?_
  refine WH.free 16 rfl (by kernel_rfl) (by kernel_rfl) (by kernel_rfl) rfl (fun _ => (fun _ hw => hw.it _ (by simp [atsA]))) (OV.pickT rfl rfl) rfl (listed' := [true, true, true, true, true, true, true, true, true, true, true, true, true, true, true, true, true, false, false, false, false, false, false, false, false, false, false, false, false, false]) rfl ?_
  refine WH.free 17 rfl (by kernel_rfl) (by kernel_rfl) (by kernel_rfl) rfl (fun _ => (fun _ hw => hw.it _ (by simp [atsA]))) (OV.move rfl) rfl (listed' := [true, true, true, true, true, true, true, true, true, true, true, true, true, true, true, true, true, true, false, false, false, false, false, false, false, false, false, false, false, false]) rfl ?_
  refine WH.known (t := 44) (b := true) rfl (by rfl) ?_
  refine WH.freeG 18 (b := true) rfl (by kernel_rfl) (by kernel_rfl) (by kernel_rfl) rfl (fun _ => (fun _ hw => hw.it _ (by simp [atsA]))) rfl rfl rfl (OV.move rfl) rfl (listed' := [true, true, true, true, true, true, true, true, true, true, true, true, true, true, true, true, true, true, true, false, false, false, false, false, false, false, false, false, false, false]) rfl ?_
  first
  | (refine WH.freeG 19 (b := true) rfl (by kernel_rfl) (by kernel_rfl) (by kernel_rfl) rfl (fun _ => (fun _ hw => hw.it _ (by simp [atsA]))) rfl rfl rfl (OV.lenSlice rfl T.u27) rfl (listed' := [true, true, true, true, true, true, true, true, true, true, true, true, true, true, true, true, true, true, true, true, false, false, false, false, false, false, false, false, false, false]) rfl ?_)
  | (refine WH.freeG 19 (b := true) rfl (by kernel_rfl) (by kernel_rfl) (by kernel_rfl) rfl (fun _ => (fun _ hw => hw.it _ (by simp [atsA]))) rfl rfl rfl (OV.lenStr rfl T.u27) rfl (listed' := [true, true, true, true, true, true, true, true, true, true, true, true, true, true, true, true, true, true, true, true, false, false, false, false, false, false, false, false, false, false]) rfl ?_)
  refine WH.freeG 20 (b := true) rfl (by kernel_rfl) (by kernel_rfl) (by kernel_rfl) rfl (fun _ => (fun _ hw => hw.it _ (by simp [atsA]))) rfl rfl rfl (OV.eql rfl rfl) rfl (listed' := [true, true, true, true, true, true, true, true, true, true, true, true, true, true, true, true, true, true, true, true, true, false, false, false, false, false, false, false, false, false]) rfl ?_
  refine WH.free 21 rfl (by kernel_rfl) (by kernel_rfl) (by kernel_rfl) rfl (fun _ => (fun _ hw => hw.it _ (by simp [atsA]))) (OV.pickT rfl rfl) rfl (listed' := [true, true, true, true, true, true, true, true, true, true, true, true, true, true, true, true, true, true, true, true, true, true, false, false, false, false, false, false, false, false]) rfl ?_
  refine WH.free 22 rfl (by kernel_rfl) (by kernel_rfl) (by kernel_rfl) rfl (fun _ => (fun _ hw => hw.it _ (by simp [atsA]))) (OV.move rfl) rfl (listed' := [true, true, true, true, true, true, true, true, true, true, true, true, true, true, true, true, true, true, true, true, true, true, true, false, false, false, false, false, false, false]) rfl ?_
  refine WH.known (t := 49) (b := true) rfl (by rfl) ?_
  refine WH.freeG 23 (b := true) rfl (by kernel_rfl) (by kernel_rfl) (by kernel_rfl) rfl (fun _ => (fun _ hw => hw.it _ (by simp [atsA]))) rfl rfl rfl (OV.move rfl) rfl (listed' := [true, true, true, true, true, true, true, true, true, true, true, true, true, true, true, true, true, true, true, true, true, true, true, true, false, false, false, false, false, false]) rfl ?_
  obtain ⟨q, hq⟩ := hza
  refine WH.freeG 24 (b := true) rfl (by kernel_rfl) (by kernel_rfl) (by kernel_rfl) rfl (fun _ => (fun _ hw => hw.it _ (by simp [atsA]))) rfl rfl rfl ((OV.indexSlice (show _ = some (Value.slice (some ⟨q, 0, none⟩) 1 z.c) by rw [← hq]; rfl) rfl T.u27 T.z34 (by omega)).cast (u := .pointer (some ((⟨q, 0, none⟩ : Addr).add (0 * 5)))) rfl) rfl (listed' := [true, true, true, true, true, true, true, true, true, true, true, true, true, true, true, true, true, true, true, true, true, true, true, true, true, false, false, false, false, false]) rfl ?_
  refine WH.takeG 25 (b := true) rfl (by kernel_rfl) (by kernel_rfl) (by kernel_rfl) (by kernel_rfl) (fun _ hw => hw.it _ (by simp [atsA])) rfl rfl rfl (OV.loadN (cs := agC y) rfl T.u34 rfl T.z34 (fun _ hw j v hj => by have h := row_cellsφE hq hw j v (by rw [hy]; simpa using hj); rwa [Nat.zero_mul, addr_add0])) rfl (listed' := [true, true, true, true, true, true, true, true, true, true, true, true, true, true, true, true, true, true, true, true, true, true, true, true, true, true, false, false, false, false]) rfl ?_
  refine WH.only 26 rfl (by kernel_rfl) (listed' := [true, true, true, true, true, true, true, true, true, true, true, true, true, true, true, true, true, true, true, true, true, true, true, true, true, true, true, false, false, false]) rfl (fl' := false) rfl ?_
  refine WL.go (b := true) rfl rfl rfl ?_
  refine WL.callTA (ι := Nat) (vs := [.int .i64 5]) (vv := fun b => atV (factP 5) (some ⟨b, 0, none⟩) 1) (pp := fun _ => True) [] (AA := fun b => [own b (.cells (tmC ⟨1, 5, E0⟩).toArray 31 (0, 0))]) rfl (by kernel_rfl) rfl rfl (fun w' hw' _ => (lfact_calls 5 w').mono (fun en w'' ⟨b, h1, h2⟩ => ⟨b, h1, trivial, h2⟩)) ?_
  rintro f3 _
  refine WL.nil ?_
  refine WX.contD (by kernel_rfl) (fun _ => (fun _ hw => hw.it _ (by simp [atsA]))) ?_
  refine WH.only 27 rfl (by kernel_rfl) (listed' := [true, true, true, true, true, true, true, true, true, true, true, true, true, true, true, true, true, true, true, true, true, true, true, true, true, true, true, true, false, false]) rfl (fl' := false) rfl ?_
  refine WL.go (b := true) rfl rfl rfl ?_
  refine WL.call0 (v := .bool true) (vs := [atV y.x y.a y.c, atV (factP 5) (some ⟨f3, 0, none⟩) 1]) (by kernel_rfl) rfl rfl (fun w' hw' => (sameAtom_calls y.x (factP 5) y.a (some ⟨f3, 0, none⟩) y.c 1 (by rw [hyx]; decide) (by decide) w' (RT.of_row (c := y.c) rfl hw' (by simp [atsA, hy, argsA])) (RT.of_own hw' (.head _))).mono (fun en w'' ⟨h1, h2⟩ => ⟨by rw [h1, hyx, decide_eq_true rfl], h2⟩)) ?_
  refine WL.nil ?_
  refine WX.contD (by kernel_rfl) (fun _ => (fun _ hw => hw.it _ (by simp [atsA]))) ?_
  refine WH.free 28 rfl (by kernel_rfl) (by kernel_rfl) (by kernel_rfl) rfl (fun _ => (fun _ hw => hw.it _ (by simp [atsA]))) (OV.pickT rfl rfl) rfl (listed' := [true, true, true, true, true, true, true, true, true, true, true, true, true, true, true, true, true, true, true, true, true, true, true, true, true, true, true, true, true, false]) rfl ?_
  refine WH.free 29 rfl (by kernel_rfl) (by kernel_rfl) (by kernel_rfl) rfl (fun _ => (fun _ hw => hw.it _ (by simp [atsA]))) (OV.assign rfl) rfl (listed' := [true, true, true, true, true, true, true, true, true, true, true, true, true, true, true, true, true, true, true, true, true, true, true, true, true, true, true, true, true, true]) rfl ?_
  refine WH.done (by kernel_rfl) ?_
  refine WX.next ?_
  refine WC.ret ?_
  exact WX.ret1 rfl rfl rfl (fun w' hw => ⟨rfl, hw.fr⟩)

end Go.Proofs.YtgiiifadbnpfkaaGreatDoor

namespace Go.Proofs.YtgiiifadbnpfkaaGreatDoor
open Go Go.Hw
set_option linter.unusedSimpArgs false
set_option linter.unusedVariables false
/-! ### Rounds of atoms, as they were handed in -/
structure RG where
  ys : List AG
  a : Option Addr
  c : Nat
/-- A list of lists of atoms. -/
structure RR (w : World) (a : Option Addr) (rs : List RG) : Prop where
  nil : a = none → rs.length = 0
  at_ : ∀ q, a = some q → ∀ i r, rs[i]? = some r → w.cell? (q.add i) = some (.slice r.a r.ys.length r.c)
  each : ∀ r ∈ rs, RA w r.a r.ys
theorem RR.get {w : World} {a : Option Addr} {rs : List RG} (h : RR w a rs) {i : Nat} (hi : i < rs.length) : ∃ q r, a = some q ∧ rs[i]? = some r ∧ r ∈ rs ∧ RA w r.a r.ys ∧ w.cell? (q.add i) = some (.slice r.a r.ys.length r.c) := by
  cases a with
  | none => have := h.nil rfl; omega
  | some q => exact ⟨q, rs[i], rfl, List.getElem?_eq_getElem hi, List.getElem_mem hi, h.each _ (List.getElem_mem hi), h.at_ q rfl i _ (List.getElem?_eq_getElem hi)⟩
def costR (tn : Nat) (r : RG) : Nat := 2 * r.ys.length + (if r.ys.length = 0 then 0 else tn)
def costS (rs : List RG) (tn : Nat) : Nat := (rs.map (costR tn)).sum
theorem costS_take {rs : List RG} {i : Nat} {r : RG} (tn : Nat) (h : rs[i]? = some r) : costS (rs.take (i + 1)) tn = costS (rs.take i) tn + costR tn r := by
  unfold costS
  rw [List.take_add_one, h]
  simp
theorem costS_le (rs : List RG) (tn i : Nat) : costS (rs.take i) tn ≤ costS rs tn := sub_sum ((List.take_sublist i rs).map _)
theorem BS.mono {g : BaseG} {k m : Nat} {F : List (At × Nat)} (b : BS g k F) (h : k ≤ m) : BS g m F := ⟨b.ok, b.fs, by have := b.vk; omega, by have := b.rk; omega, by have := b.fk; omega⟩
theorem addF_not {F : List (At × Nat)} {x : At} (h : factB x = false) : addF F x = F := by
  unfold addF; rw [if_neg (fun k => by rw [h] at k; cases k.1)]
def atP : At := ⟨T0, ⟨#[80]⟩, []⟩
theorem notP : factB atP = false := by kernel_rfl
/-- What an atom that was handed in may be. -/
structure AGs (r : RG) : Prop where
  len : r.ys.length ≤ 1099511627776
  args : ∀ y ∈ r.ys, y.x.args.length ≤ 1099511627775
  name : ∀ y ∈ r.ys, y.x.name.size ≤ 1099511627776
theorem bfind_drop {g : BaseG} {parts : Int} {x : At} {a : Option Addr} {c : Nat} (hl : x.args.length ≤ 1099511627776) {w : World} (hr : RT w a x.args) : Calls Tryz.prog 22 #[ptr g.p, .int .i64 parts, atV x a c] w fun e w' => ∃ v : Value, e = .returned v ∧ True ∧ Turns [] [] w w' :=
  (bfind_calls g parts x a c hl w hr).mono fun e w' ⟨z, h1, h2⟩ => ⟨_, h1, trivial, Turns.drop (A2 := []) (by rw [List.append_nil]; exact h2)⟩
theorem rem_lt {n : Int} {m : Nat} (h0 : 0 ≤ n.tmod m) (hm : 0 < m) : (n.tmod m).toNat < m := by
  have := Int.tmod_lt_of_pos n (b := (m : Int)) (by omega)
  omega
theorem drop_cons {α : Type} {l : List α} {j : Nat} {x : α} (h : l[j]? = some x) : l.drop j = x :: l.drop (j + 1) := by
  obtain ⟨hj, rfl⟩ := List.getElem?_eq_some_iff.1 h
  exact List.drop_eq_getElem_cons hj

set_option maxRecDepth 10000 in
set_option maxHeartbeats 2000000 in
theorem baseSets_calls (rs : List RG) (a : Option Addr) (c : Nat) (tl : List Int) (ta : Option Addr) (tc : Nat) (hrl : rs.length ≤ 1099511627776) (htl : tl.length ≤ 1099511627776) (ht64 : i64s tl) (hA : ∀ r ∈ rs, AGs r) (hcost : costS rs tl.length ≤ 100000000000) (w : World) (hN : NoneAt w) (hR : RR w a rs) (hT : RI w ta tl.length tl) : Calls Tryz.prog 7 #[.slice a rs.length c, .slice ta tl.length tc] w fun e w' => e = .returned (.bool true) ∧ Fr0 w w' := by
  refine enterS (args := [.slice a rs.length c, .slice ta tl.length tc]) (fun _ => False) Tryz.func7 rfl Tryz.ntmps7 rfl rfl ?_
  refine WC.seq ?_
  refine WC.region ?_
  refine WL.val (OV.assign rfl) rfl ?_
  refine WL.nil ?_
  refine WX.next ?_
  refine WC.seq ?_
  refine WC.region ?_
  refine WL.callTA (ι := Nat × Nat) (vs := []) (vv := fun z => ptr z.1) (pp := fun _ => True) [] (AA := fun z => baseA ⟨z.1, none, none, 0, [], z.2, []⟩) rfl (by kernel_rfl) rfl rfl (fun w' hw' _ => (bnew_calls w').mono (fun en w'' ⟨p, rb, h1, h2⟩ => ⟨(p, rb), h1, trivial, h2⟩)) ?_
  rintro ⟨pgb, rbgb⟩ _
  obtain ⟨gb, egb⟩ : ∃ g : BaseG, g = ⟨pgb, none, none, 0, [], rbgb, []⟩ := ⟨_, rfl⟩
  have bsgb : BS gb 0 [] := by rw [egb]; exact new_bs _ _
  have hpgb : gb.p = pgb := by rw [egb]
  refine WL.focus (ow' := baseA gb) (List.Perm.of_eq (by rw [List.append_nil]; exact congrArg baseA egb)) ?_
  refine WL.val (OV.assign rfl) rfl ?_
  refine WL.nil ?_
  refine WX.next ?_
  refine WC.seq ?_
  refine WC.region ?_
  refine WL.callTA (ι := Nat × Nat) (vs := []) (vv := fun z => ptr z.1) (pp := fun _ => True) [] (AA := fun z => baseA ⟨z.1, none, none, 0, [], z.2, []⟩) rfl (by kernel_rfl) rfl rfl (fun w' hw' _ => (bnew_calls w').mono (fun en w'' ⟨p, rb, h1, h2⟩ => ⟨(p, rb), h1, trivial, h2⟩)) ?_
  rintro ⟨pgc, rbgc⟩ _
  obtain ⟨gc, egc⟩ : ∃ g : BaseG, g = ⟨pgc, none, none, 0, [], rbgc, []⟩ := ⟨_, rfl⟩
  have bsgc : BS gc 0 [] := by rw [egc]; exact new_bs _ _
  have hpgc : gc.p = pgc := by rw [egc]
  refine WL.focus (ow' := baseA gb ++ baseA gc) ((List.Perm.of_eq (by rw [egc]; rfl)).trans List.perm_append_comm) ?_
  refine WL.val (OV.assign rfl) rfl ?_
  refine WL.nil ?_
  refine WX.next ?_
  refine WC.seq ?_
  refine WC.seq ?_
  refine WC.region ?_
  refine WL.val (OV.move rfl) rfl ?_
  refine WL.val (OV.eqlPN T.u23 rfl rfl) rfl ?_
  refine WL.val (OV.move rfl) rfl ?_
  refine WL.known (t := 18) (b := false) rfl (by rfl) ?_
  refine WL.go (b := false) rfl rfl rfl ?_
  refine WL.val (OV.move rfl) rfl ?_
  refine WL.go (b := false) rfl rfl rfl ?_
  refine WL.val (OV.eqlPN T.u23 rfl rfl) rfl ?_
  refine WL.val (OV.pickF rfl rfl) rfl ?_
  refine WL.nil ?_
  refine WX.next ?_
  refine WC.condF rfl ?_
  refine WC.skip ?_
  refine WX.next ?_
  refine WC.seq ?_
  refine WC.seq ?_
  refine WC.region ?_
  refine WL.val (OV.assign rfl) rfl ?_
  refine WL.nil ?_
  refine WX.next ?_
  refine WC.block ?_
  refine WC.loop5 (fun (i : Nat) (gb gc : BaseG) (F G : List (At × Nat)) => [(0, .slice a rs.length c), (1, .slice ta tl.length tc), (5, ptr pgb), (6, ptr pgc), (7, .int .i64 (i : Int))])
      (fun i gb gc F G w' => (i ≤ rs.length ∧ F.Perm G ∧ BS gb (costS (rs.take i) tl.length) F ∧ BS gc (costS (rs.take i) tl.length) G ∧ gb.p = pgb ∧ gc.p = pgc) ∧ Sat w (fun _ => False) (fun b => b < w.heap.size) w (baseA gb ++ baseA gc) w')
      (fun i _ _ _ _ => rs.length - i) 0 gb gc [] [] ⟨rfl, rfl, by rfl, by rfl, rfl, trivial⟩ (fun w' hw => ⟨⟨by omega, .refl _, bsgb, bsgc, hpgb, hpgc⟩, hw⟩) ?_
  clear bsgb bsgc hpgb hpgc egb egc gb gc
  intro i gb gc F G
  refine WC.pure (fun hi => ?_)
  obtain ⟨hi, hFG, bsgb, bsgc, hpgb, hpgc⟩ := hi
  refine WC.seq ?_
  refine WC.seq ?_
  refine WC.region ?_
  refine WL.val (OV.move rfl) rfl ?_
  refine WL.val (OV.move rfl) rfl ?_
  first
  | (refine WL.val (OV.lenSlice rfl T.u73) rfl ?_)
  | (refine WL.val (OV.lenStr rfl T.u73) rfl ?_)
  refine WL.val (OV.lss rfl rfl) rfl ?_
  refine WL.nil ?_
  refine WX.next ?_
  refine WC.cond rfl (fun c25 => ?_) (fun c25 => ?_)
  · try simp only [decide_eq_true_eq, decide_eq_false_iff_not, Bool.not_eq_true', Bool.not_eq_false'] at c25
    refine WC.skip ?_
    refine WX.next ?_
    refine WC.seq ?_
    refine WC.block ?_
    refine WC.seq ?_
    refine WC.region ?_
    refine WL.val (OV.move rfl) rfl ?_
    refine WL.val (OV.move rfl) rfl ?_
    obtain ⟨q0, r, hq0, hri, hrm, hra, hrc⟩ := hR.get (i := i) (by omega)
    have hag := hA r hrm
    refine WL.val (OV.indexSliceA (i := i) (show _ = some (Value.slice (some q0) rs.length c) by rw [← hq0]; rfl) rfl T.u73 T.z27 (by omega)) rfl ?_
    refine WL.val (OV.load1 (v := .slice r.a r.ys.length r.c) rfl T.u27 rfl (fun _ hw => hw.keeps _ _ hrc)) rfl ?_
    refine WL.val (OV.assign rfl) rfl ?_
    refine WL.nil ?_
    refine WX.next ?_
    refine WC.seq ?_
    refine WC.seq ?_
    refine WC.region ?_
    refine WL.val (OV.assign rfl) rfl ?_
    refine WL.nil ?_
    refine WX.next ?_
    refine WC.block ?_
    refine WC.loop2 (fun (k : Nat) (gb1 : BaseG) => [(0, .slice a rs.length c), (1, .slice ta tl.length tc), (5, ptr pgb), (6, ptr pgc), (7, .int .i64 (i : Int)), (8, .slice r.a r.ys.length r.c), (9, .int .i64 (k : Int))])
        (fun k gb1 w' => (k ≤ r.ys.length ∧ BS gb1 (costS (rs.take i) tl.length + k) (addAll F ((r.ys.map AG.x).take k)) ∧ gb1.p = pgb) ∧ Sat w (fun _ => False) (fun b => b < w.heap.size) w (baseA gb1 ++ baseA gc) w')
        (fun k _ => r.ys.length - k) 0 gb ⟨rfl, rfl, rfl, rfl, rfl, rfl, rfl, trivial⟩ (fun w' hw => ⟨⟨by omega, bsgb, hpgb⟩, hw⟩) ?_
    intro k gb1
    refine WC.pure (fun hk => ?_)
    obtain ⟨hk, bsgb1, hpgb1⟩ := hk
    refine WC.seq ?_
    refine WC.seq ?_
    refine WC.region ?_
    refine WL.val (OV.move rfl) rfl ?_
    refine WL.val (OV.move rfl) rfl ?_
    first
    | (refine WL.val (OV.lenSlice rfl T.u27) rfl ?_)
    | (refine WL.val (OV.lenStr rfl T.u27) rfl ?_)
    refine WL.val (OV.lss rfl rfl) rfl ?_
    refine WL.nil ?_
    refine WX.next ?_
    refine WC.cond rfl (fun c35 => ?_) (fun c35 => ?_)
    · try simp only [decide_eq_true_eq, decide_eq_false_iff_not, Bool.not_eq_true', Bool.not_eq_false'] at c35
      refine WC.skip ?_
      refine WX.next ?_
      refine WC.seq ?_
      refine WC.block ?_
      refine WC.region ?_
      refine WL.val (OV.move rfl) rfl ?_
      refine WL.val (OV.move rfl) rfl ?_
      refine WL.val (OV.move rfl) rfl ?_
      obtain ⟨q1, y, hq1, hty, hmy, hry, hcy⟩ := hra.get (i := k) (by omega)
      refine WL.val ((OV.indexSlice (show _ = some (Value.slice (some q1) r.ys.length r.c) by rw [← hq1]; rfl) rfl T.u27 T.z34 (by omega)).cast (u := .pointer (some (q1.add (k * 5)))) (by first | rw [Int.toNat_natCast] | (congr 4; omega))) rfl ?_
      refine WL.val (OV.loadN (cs := agC y) rfl T.u34 rfl T.z34 (fun _ hw j v hj => hw.keeps _ _ (hcy j v hj))) rfl ?_
      have hcs := costS_le rs tl.length (i + 1)
      rw [costS_take tl.length hri] at hcs
      unfold costR at hcs
      refine WL.callTA (ι := BaseG) (vs := [ptr gb1.p, atV y.x y.a y.c]) (vv := fun _ => .tuple #[.bool (factB y.x && decide (y.x ∉ (addAll F ((r.ys.map AG.x).take k)).map (·.1))), .int .i64 (if factB y.x = true then 0 else 81)]) (pp := fun g' => BS g' (costS (rs.take i) tl.length + k + 1) (addF (addAll F ((r.ys.map AG.x).take k)) y.x) ∧ g'.p = gb1.p) (baseA gb1) (AA := fun g' => baseA g') rfl (by kernel_rfl) (by rw [hpgb1]; rfl) rfl (fun w' hw' hH => (badd_bs gb1 (costS (rs.take i) tl.length + k) (addAll F ((r.ys.map AG.x).take k)) bsgb1 (by omega) y.x y.a y.c (hag.args _ hmy) (hag.name _ hmy) w' (hN.keeps hw'.keeps) (Sat.sepI hw' hN.lt) (hry.keeps hw'.keeps) (fun q hq hl => Sat.sepI hw' (hry.lt hq hl)) hH)) ?_
      rintro gb2 ⟨bsgb2, hpgb2⟩
      have hpgb2 : gb2.p = pgb := by rw [hpgb2, hpgb1]
      refine WL.nil ?_
      refine WX.block_normal ?_
      refine WX.next ?_
      refine WC.region ?_
      refine WL.val (OV.move rfl) rfl ?_
      refine WL.val (OV.addN (j := 1) rfl rfl (by omega)) rfl ?_
      refine WL.val (OV.assign rfl) rfl ?_
      refine WL.nil ?_
      exact WX.round2 (k + 1) gb2 ⟨rfl, rfl, rfl, rfl, rfl, rfl, rfl, trivial⟩ (fun w' hw => ⟨⟨by omega, by rw [List.take_add_one, List.getElem?_map, hty]; exact addAll_snoc F _ y.x ▸ bsgb2, hpgb2⟩, hw⟩) (by show r.ys.length - (k + 1) < r.ys.length - k; omega)
    · try simp only [decide_eq_true_eq, decide_eq_false_iff_not, Bool.not_eq_true', Bool.not_eq_false'] at c35
      refine WC.exit ?_
      refine WX.then_exit ?_
      refine WX.then_exit ?_
      refine WX.block_hit ?_
      refine WX.next ?_
      refine WC.seq ?_
      refine WC.seq ?_
      refine WC.region ?_
      refine WL.val (OV.move rfl) rfl ?_
      first
      | (refine WL.val (OV.lenSlice rfl T.u27) rfl ?_)
      | (refine WL.val (OV.lenStr rfl T.u27) rfl ?_)
      refine WL.val (OV.subI (a := (r.ys.length : Int)) (b := 1) rfl rfl (by have := hag.len; omega)) rfl ?_
      refine WL.val (OV.assign rfl) rfl ?_
      refine WL.nil ?_
      refine WX.next ?_
      refine WC.block ?_
      have bsgb1 : BS gb1 (costS (rs.take i) tl.length + r.ys.length) (addAll F (r.ys.map AG.x)) := by
        have e : k = r.ys.length := by omega
        rw [e] at bsgb1; rwa [List.take_of_length_le (l := (r.ys.map AG.x)) (by simp)] at bsgb1
      refine WC.focus (ow' := baseA gc ++ baseA gb1) List.perm_append_comm ?_
      refine WC.loop3 (fun (j : Nat) (gc1 : BaseG) (seen : List At) => [(0, .slice a rs.length c), (1, .slice ta tl.length tc), (5, ptr pgb), (6, ptr pgc), (7, .int .i64 (i : Int)), (8, .slice r.a r.ys.length r.c), (10, .int .i64 ((j : Int) - 1))])
          (fun j gc1 seen w' => (j ≤ r.ys.length ∧ BS gc1 (costS (rs.take i) tl.length + 2 * (r.ys.length - j)) (addAll G seen) ∧ gc1.p = pgc ∧ (∀ x ∈ seen, factB x = true → x ∈ (r.ys.map AG.x)) ∧ (∀ x ∈ (r.ys.map AG.x).drop j, x ∈ seen)) ∧ Sat w (fun _ => False) (fun b => b < w.heap.size) w (baseA gc1 ++ baseA gb1) w')
          (fun j _ _ => j) r.ys.length gc [] ⟨rfl, rfl, rfl, rfl, rfl, rfl, rfl, trivial⟩ (fun w' hw => ⟨⟨by omega, by rw [Nat.sub_self]; exact bsgc, hpgc, (fun x hx => by cases hx), (fun x hx => by rw [List.drop_eq_nil_of_le (by simp)] at hx; cases hx)⟩, hw⟩) ?_
      intro j gc1 seen
      refine WC.pure (fun hj => ?_)
      obtain ⟨hj, bsgc1, hpgc1, hs1, hs2⟩ := hj
      refine WC.seq ?_
      refine WC.seq ?_
      refine WC.region ?_
      refine WL.val (OV.move rfl) rfl ?_
      refine WL.val (OV.geq rfl rfl) rfl ?_
      refine WL.nil ?_
      refine WX.next ?_
      refine WC.cond rfl (fun c48 => ?_) (fun c48 => ?_)
      · try simp only [decide_eq_true_eq, decide_eq_false_iff_not, Bool.not_eq_true', Bool.not_eq_false'] at c48
        refine WC.skip ?_
        refine WX.next ?_
        refine WC.seq ?_
        refine WC.block ?_
        refine WC.seq ?_
        refine WC.region ?_
        refine WL.val (OV.move rfl) rfl ?_
        refine WL.val (OV.move rfl) rfl ?_
        refine WL.val (OV.move rfl) rfl ?_
        have hj0 : 0 < j := by omega
        obtain ⟨q1, y, hq1, hty, hmy, hry, hcy⟩ := hra.get (i := (j - 1)) (by omega)
        refine WL.val ((OV.indexSlice (show _ = some (Value.slice (some q1) r.ys.length r.c) by rw [← hq1]; rfl) rfl T.u27 T.z34 (by omega)).cast (u := .pointer (some (q1.add ((j - 1) * 5)))) (by first | rw [Int.toNat_natCast] | (congr 4; omega))) rfl ?_
        refine WL.val (OV.loadN (cs := agC y) rfl T.u34 rfl T.z34 (fun _ hw j v hj => hw.keeps _ _ (hcy j v hj))) rfl ?_
        have hcs := costS_le rs tl.length (i + 1)
        rw [costS_take tl.length hri] at hcs
        unfold costR at hcs
        refine WL.callTA (ι := BaseG) (vs := [ptr gc1.p, atV y.x y.a y.c]) (vv := fun _ => .tuple #[.bool (factB y.x && decide (y.x ∉ (addAll G seen).map (·.1))), .int .i64 (if factB y.x = true then 0 else 81)]) (pp := fun g' => BS g' (costS (rs.take i) tl.length + 2 * (r.ys.length - j) + 1) (addF (addAll G seen) y.x) ∧ g'.p = gc1.p) (baseA gc1) (AA := fun g' => baseA g') rfl (by kernel_rfl) (by rw [hpgc1]; rfl) rfl (fun w' hw' hH => (badd_bs gc1 (costS (rs.take i) tl.length + 2 * (r.ys.length - j)) (addAll G seen) bsgc1 (by omega) y.x y.a y.c (hag.args _ hmy) (hag.name _ hmy) w' (hN.keeps hw'.keeps) (Sat.sepI hw' hN.lt) (hry.keeps hw'.keeps) (fun q hq hl => Sat.sepI hw' (hry.lt hq hl)) hH)) ?_
        rintro gc2 ⟨bsgc2, hpgc2⟩
        have hpgc2 : gc2.p = pgc := by rw [hpgc2, hpgc1]
        refine WL.nil ?_
        refine WX.next ?_
        refine WC.seq ?_
        refine WC.region ?_
        refine WL.val (OV.move rfl) rfl ?_
        refine WL.val (OV.move rfl) rfl ?_
        refine WL.val (OV.move rfl) rfl ?_
        refine WL.val ((OV.indexSlice (show _ = some (Value.slice (some q1) r.ys.length r.c) by rw [← hq1]; rfl) rfl T.u27 T.z34 (by omega)).cast (u := .pointer (some (q1.add ((j - 1) * 5)))) (by first | rw [Int.toNat_natCast] | (congr 4; omega))) rfl ?_
        refine WL.val (OV.loadN (cs := agC y) rfl T.u34 rfl T.z34 (fun _ hw j v hj => hw.keeps _ _ (hcy j v hj))) rfl ?_
        refine WL.callTA (ι := Value) (vs := [ptr gc2.p, .int .i64 7, atV y.x y.a y.c]) (vv := fun v => v) (pp := fun _ => True) [] (AA := fun _ => []) rfl (by kernel_rfl) (by rw [hpgc2]; rfl) rfl (fun w' hw' _ => bfind_drop (by have := hag.args _ hmy; omega) (hry.keeps hw'.keeps)) ?_
        rintro v62 _
        refine WL.nil ?_
        refine WX.next ?_
        refine WC.seq ?_
        refine WC.region ?_
        refine WL.val (OV.move rfl) rfl ?_
        refine WL.val (OV.move rfl) rfl ?_
        refine WL.val (OV.move rfl) rfl ?_
        refine WL.val ((OV.indexSlice (show _ = some (Value.slice (some q1) r.ys.length r.c) by rw [← hq1]; rfl) rfl T.u27 T.z34 (by omega)).cast (u := .pointer (some (q1.add ((j - 1) * 5)))) (by first | rw [Int.toNat_natCast] | (congr 4; omega))) rfl ?_
        refine WL.val (OV.loadN (cs := agC y) rfl T.u34 rfl T.z34 (fun _ hw j v hj => hw.keeps _ _ (hcy j v hj))) rfl ?_
        refine WL.callTA (ι := Value) (vs := [ptr gc2.p, atV y.x y.a y.c]) (vv := fun v => v) (pp := fun _ => True) (baseA gc2) (AA := fun _ => baseA gc2) rfl (by kernel_rfl) (by rw [hpgc2]; rfl) rfl (fun w' hw' hH => (bpart_calls gc2 bsgc2.ok y.x y.a y.c (hag.args _ hmy) (hag.name _ hmy) w' (hN.keeps hw'.keeps) (Sat.sepI hw' hN.lt) (hry.keeps hw'.keeps) (fun q hq hl => Sat.sepI hw' (hry.lt hq hl)) hH).mono (fun en w'' ⟨h1, h2⟩ => ⟨_, h1, trivial, h2⟩)) ?_
        rintro v68 _
        refine WL.nil ?_
        refine WX.next ?_
        refine WC.region ?_
        refine WL.val (OV.move rfl) rfl ?_
        refine WL.val (OV.buildStruct (xs := [(1, .const (.string ⟨#[80]⟩))]) (pl := [(0, 3), (3, 1), (4, 1)]) (cs := atC atP none 0) T.u34 T.zr34 (by kernel_rfl) rfl (fill_cons (us := [_]) rfl rfl (Nat.le_of_ble_eq_true rfl) rfl)) rfl ?_
        refine WL.callTA (ι := BaseG) (vs := [ptr gc2.p, atV atP none 0]) (vv := fun _ => .tuple #[.bool (factB atP && decide (atP ∉ (addF (addAll G seen) y.x).map (·.1))), .int .i64 (if factB atP = true then 0 else 81)]) (pp := fun g' => BS g' (costS (rs.take i) tl.length + 2 * (r.ys.length - j) + 1 + 1) (addF (addF (addAll G seen) y.x) atP) ∧ g'.p = gc2.p) (baseA gc2) (AA := fun g' => baseA g') rfl (by kernel_rfl) (by rw [hpgc2]; rfl) rfl (fun w' hw' hH => (badd_bs gc2 (costS (rs.take i) tl.length + 2 * (r.ys.length - j) + 1) (addF (addAll G seen) y.x) bsgc2 (by omega) atP none 0 (by decide) (by decide) w' (hN.keeps hw'.keeps) (Sat.sepI hw' hN.lt) (RT.nil0 _) (fun q hq => by cases hq) hH)) ?_
        rintro gc3 ⟨bsgc3, hpgc3⟩
        have hpgc3 : gc3.p = pgc := by rw [hpgc3, hpgc2]
        refine WL.nil ?_
        refine WX.block_normal ?_
        refine WX.next ?_
        refine WC.region ?_
        refine WL.val (OV.move rfl) rfl ?_
        refine WL.val ((OV.subI (a := ((j : Int) - 1)) (b := 1) rfl rfl (by have := hag.len; omega)).cast (u := .int .i64 (((j - 1 : Nat) : Int) - 1)) (by congr 1; omega)) rfl ?_
        refine WL.val (OV.assign rfl) rfl ?_
        refine WL.nil ?_
        have hty' : (r.ys.map AG.x)[j - 1]? = some y.x := by rw [List.getElem?_map, hty]; rfl
        exact WX.round3 (j - 1) gc3 (seen ++ [y.x]) ⟨rfl, rfl, rfl, rfl, rfl, rfl, rfl, trivial⟩ (fun w' hw => ⟨⟨by omega, by
          rw [addF_not notP, ← addAll_snoc] at bsgc3
          exact bsgc3.mono (by omega), hpgc3, (fun x hx hf => by
            rcases List.mem_append.1 hx with h | h
            · exact hs1 x h hf
            · simp only [List.mem_singleton] at h
              subst h
              exact List.mem_of_getElem? hty'), (fun x hx => by
            rw [drop_cons hty', show j - 1 + 1 = j by omega] at hx
            rcases List.mem_cons.1 hx with h | h
            · subst h; simp
            · exact List.mem_append_left _ (hs2 x h))⟩, hw⟩) (by show j - 1 < j; omega)
      · try simp only [decide_eq_true_eq, decide_eq_false_iff_not, Bool.not_eq_true', Bool.not_eq_false'] at c48
        refine WC.exit ?_
        refine WX.then_exit ?_
        refine WX.then_exit ?_
        refine WX.block_hit ?_
        refine WX.next ?_
        refine WC.seq ?_
        refine WC.seq ?_
        refine WC.region ?_
        refine WL.val (OV.assign rfl) rfl ?_
        refine WL.nil ?_
        refine WX.next ?_
        refine WC.block ?_
        have hs2 : ∀ x ∈ (r.ys.map AG.x), x ∈ seen := by
          have e : j = 0 := by omega
          rw [e, List.drop_zero] at hs2; exact hs2
        refine WC.loop3 (fun (k : Nat) (gc1 : BaseG) (seen : List At) => [(0, .slice a rs.length c), (1, .slice ta tl.length tc), (5, ptr pgb), (6, ptr pgc), (7, .int .i64 (i : Int)), (8, .slice r.a r.ys.length r.c), (11, .int .i64 (k : Int))])
            (fun k gc1 seen w' => (k ≤ tl.length ∧ (k = 0 ∨ 0 < r.ys.length) ∧ BS gc1 (costS (rs.take i) tl.length + 2 * r.ys.length + k) (addAll G seen) ∧ gc1.p = pgc ∧ (∀ x ∈ seen, factB x = true → x ∈ (r.ys.map AG.x)) ∧ (∀ x ∈ (r.ys.map AG.x), x ∈ seen)) ∧ Sat w (fun _ => False) (fun b => b < w.heap.size) w (baseA gc1 ++ baseA gb1) w')
            (fun k _ _ => tl.length - k) 0 gc1 seen ⟨rfl, rfl, rfl, rfl, rfl, rfl, rfl, trivial⟩ (fun w' hw => ⟨⟨by omega, .inl rfl, bsgc1.mono (by omega), hpgc1, hs1, hs2⟩, hw⟩) ?_
        clear bsgc1 hpgc1 hs1 hs2
        intro k gc1 seen
        refine WC.pure (fun hk => ?_)
        obtain ⟨hk, hk0, bsgc1, hpgc1, hs1, hs2⟩ := hk
        refine WC.seq ?_
        refine WC.seq ?_
        refine WC.region ?_
        refine WL.val (OV.move rfl) rfl ?_
        refine WL.val (OV.move rfl) rfl ?_
        first
        | (refine WL.val (OV.lenSlice rfl T.u74) rfl ?_)
        | (refine WL.val (OV.lenStr rfl T.u74) rfl ?_)
        refine WL.val (OV.lss rfl rfl) rfl ?_
        refine WL.val (OV.move rfl) rfl ?_
        refine WL.split (t := 76) rfl (fun g76 => ?_) (fun g76 => ?_)
        · try simp only [decide_eq_true_eq, decide_eq_false_iff_not, Bool.not_eq_true', Bool.not_eq_false'] at g76
          refine WL.go (b := true) rfl rfl rfl ?_
          refine WL.val (OV.move rfl) rfl ?_
          refine WL.go (b := true) rfl rfl rfl ?_
          first
          | (refine WL.val (OV.lenSlice rfl T.u27) rfl ?_)
          | (refine WL.val (OV.lenStr rfl T.u27) rfl ?_)
          refine WL.go (b := true) rfl rfl rfl ?_
          refine WL.val (OV.gtr rfl rfl) rfl ?_
          refine WL.val (OV.pickT rfl rfl) rfl ?_
          refine WL.nil ?_
          refine WX.next ?_
          refine WC.cond rfl (fun c80 => ?_) (fun c80 => ?_)
          · try simp only [decide_eq_true_eq, decide_eq_false_iff_not, Bool.not_eq_true', Bool.not_eq_false'] at c80
            refine WC.skip ?_
            refine WX.next ?_
            refine WC.seq ?_
            refine WC.block ?_
            refine WC.seq ?_
            refine WC.region ?_
            refine WL.val (OV.move rfl) rfl ?_
            refine WL.val (OV.move rfl) rfl ?_
            obtain ⟨qt, hqt⟩ := hT.some (by omega)
            refine WL.val (OV.indexSliceA (i := k) (show _ = some (Value.slice (some qt) tl.length tc) by rw [← hqt]; rfl) rfl T.u74 T.z3 (by omega)) rfl ?_
            have hkt : k < tl.length := by omega
            refine WL.val (OV.load1 (v := .int .i64 (tl.getD k 0)) rfl T.u3 rfl (fun _ hw => hw.keeps _ _ (by have h := (hqt ▸ hT).cell hkt; exact h))) rfl ?_
            refine WL.val (OV.move rfl) rfl ?_
            first
            | (refine WL.val (OV.lenSlice rfl T.u27) rfl ?_)
            | (refine WL.val (OV.lenStr rfl T.u27) rfl ?_)
            refine WL.val (OV.rem rfl rfl (by rw [beq_eq_false_iff_ne]; omega)) rfl ?_
            refine WL.val (OV.assign rfl) rfl ?_
            refine WL.nil ?_
            refine WX.next ?_
            refine WC.seq ?_
            refine WC.region ?_
            refine WL.val (OV.move rfl) rfl ?_
            refine WL.val (OV.geq rfl rfl) rfl ?_
            refine WL.nil ?_
            refine WX.next ?_
            refine WC.cond rfl (fun c91 => ?_) (fun c91 => ?_)
            · try simp only [decide_eq_true_eq, decide_eq_false_iff_not, Bool.not_eq_true', Bool.not_eq_false'] at c91
              refine WC.region ?_
              refine WL.val (OV.move rfl) rfl ?_
              refine WL.val (OV.move rfl) rfl ?_
              refine WL.val (OV.move rfl) rfl ?_
              obtain ⟨m, hm⟩ : ∃ m : Nat, m = ((tl.getD k 0).tmod (r.ys.length : Int)).toNat := ⟨_, rfl⟩
              have hml : m < r.ys.length := by rw [hm]; exact rem_lt (by omega) (by omega)
              obtain ⟨q1, y, hq1, hty, hmy, hry, hcy⟩ := hra.get (i := m) (by omega)
              refine WL.val ((OV.indexSlice (show _ = some (Value.slice (some q1) r.ys.length r.c) by rw [← hq1]; rfl) rfl T.u27 T.z34 (by omega)).cast (u := .pointer (some (q1.add (m * 5)))) (by first | rw [Int.toNat_natCast] | (congr 4; omega))) rfl ?_
              refine WL.val (OV.loadN (cs := agC y) rfl T.u34 rfl T.z34 (fun _ hw j v hj => hw.keeps _ _ (hcy j v hj))) rfl ?_
              have hcs := costS_le rs tl.length (i + 1)
              rw [costS_take tl.length hri] at hcs
              unfold costR at hcs
              refine WL.callTA (ι := BaseG) (vs := [ptr gc1.p, atV y.x y.a y.c]) (vv := fun _ => .tuple #[.bool (factB y.x && decide (y.x ∉ (addAll G seen).map (·.1))), .int .i64 (if factB y.x = true then 0 else 81)]) (pp := fun g' => BS g' (costS (rs.take i) tl.length + 2 * r.ys.length + k + 1) (addF (addAll G seen) y.x) ∧ g'.p = gc1.p) (baseA gc1) (AA := fun g' => baseA g') rfl (by kernel_rfl) (by rw [hpgc1]; rfl) rfl (fun w' hw' hH => (badd_bs gc1 (costS (rs.take i) tl.length + 2 * r.ys.length + k) (addAll G seen) bsgc1 (by rw [if_neg (by omega)] at hcs; omega) y.x y.a y.c (hag.args _ hmy) (hag.name _ hmy) w' (hN.keeps hw'.keeps) (Sat.sepI hw' hN.lt) (hry.keeps hw'.keeps) (fun q hq hl => Sat.sepI hw' (hry.lt hq hl)) hH)) ?_
              rintro gc2 ⟨bsgc2, hpgc2⟩
              have hpgc2 : gc2.p = pgc := by rw [hpgc2, hpgc1]
              refine WL.nil ?_
              refine WX.block_normal ?_
              refine WX.next ?_
              refine WC.region ?_
              refine WL.val (OV.move rfl) rfl ?_
              refine WL.val (OV.addN (j := 1) rfl rfl (by omega)) rfl ?_
              refine WL.val (OV.assign rfl) rfl ?_
              refine WL.nil ?_
              exact WX.round3 (k + 1) gc2 (seen ++ [y.x]) ⟨rfl, rfl, rfl, rfl, rfl, rfl, rfl, trivial⟩ (fun w' hw => ⟨⟨by omega, .inr (by omega), by rw [addAll_snoc]; exact bsgc2, hpgc2, (fun x hx hf => by
                  rcases List.mem_append.1 hx with h | h
                  · exact hs1 x h hf
                  · simp only [List.mem_singleton] at h
                    subst h
                    exact List.mem_map.2 ⟨y, hmy, rfl⟩), (fun x hx => List.mem_append_left _ (hs2 x hx))⟩, hw⟩) (by show tl.length - (k + 1) < tl.length - k; omega)
            · try simp only [decide_eq_true_eq, decide_eq_false_iff_not, Bool.not_eq_true', Bool.not_eq_false'] at c91
              refine WC.skip ?_
              refine WX.block_normal ?_
              refine WX.next ?_
              refine WC.region ?_
              refine WL.val (OV.move rfl) rfl ?_
              refine WL.val (OV.addN (j := 1) rfl rfl (by omega)) rfl ?_
              refine WL.val (OV.assign rfl) rfl ?_
              refine WL.nil ?_
              exact WX.round3 (k + 1) gc1 seen ⟨rfl, rfl, rfl, rfl, rfl, rfl, rfl, trivial⟩ (fun w' hw => ⟨⟨by omega, .inr (by omega), bsgc1.mono (by omega), hpgc1, hs1, hs2⟩, hw⟩) (by show tl.length - (k + 1) < tl.length - k; omega)
          · try simp only [decide_eq_true_eq, decide_eq_false_iff_not, Bool.not_eq_true', Bool.not_eq_false'] at c80
            refine WC.exit ?_
            refine WX.then_exit ?_
            refine WX.then_exit ?_
            refine WX.block_hit ?_
            refine WX.next ?_
            refine WC.seq ?_
            refine WC.seq ?_
            refine WC.region ?_
            refine WL.val (OV.move rfl) rfl ?_
            have hK2 := costS_take tl.length hri
            unfold costR at hK2
            have hK3 : costS (rs.take i) tl.length + 2 * r.ys.length + k ≤ (costS (rs.take (i + 1)) tl.length) := by
              rcases hk0 with h | h
              · omega
              · rw [if_neg (by omega)] at hK2; omega
            have hperm : (addAll F (r.ys.map AG.x)).Perm (addAll G seen) := addAll_perm hFG bsgb.nodup (fun x hx => ⟨fun h => hs2 x h, fun h => hs1 x h hx⟩)
            refine WL.focus (ow' := baseA gb1 ++ baseA gc1) List.perm_append_comm ?_
            refine WL.callTA (ι := BaseG) (vs := [ptr gb1.p]) (vv := fun _ => .int .i64 ((n4F (addAll F (r.ys.map AG.x)) : Nat) : Int)) (pp := fun g' => BS g' (costS (rs.take (i + 1)) tl.length) (turnF (addAll F (r.ys.map AG.x))) ∧ g'.p = gb1.p) (baseA gb1) (AA := fun g' => baseA g') rfl (by kernel_rfl) (by rw [hpgb1]; rfl) rfl (fun w' hw' hH => (bturn_bs gb1 _ _ bsgb1 w' hH).mono (fun en w'' ⟨g', h1, h2, h3⟩ => ⟨g', h1, ⟨h2.1.mono (by omega), h2.2⟩, h3⟩)) ?_
            rintro gb3 ⟨bsgb3, hpgb3⟩
            have hpgb3 : gb3.p = pgb := by rw [hpgb3, hpgb1]
            refine WL.val (OV.move rfl) rfl ?_
            refine WL.focus (ow' := baseA gc1 ++ baseA gb3) List.perm_append_comm ?_
            refine WL.callTA (ι := BaseG) (vs := [ptr gc1.p]) (vv := fun _ => .int .i64 ((n4F (addAll F (r.ys.map AG.x)) : Nat) : Int)) (pp := fun g' => BS g' (costS (rs.take (i + 1)) tl.length) (turnF (addAll G seen)) ∧ g'.p = gc1.p) (baseA gc1) (AA := fun g' => baseA g') rfl (by kernel_rfl) (by rw [hpgc1]; rfl) rfl (fun w' hw' hH => (bturn_bs gc1 _ _ bsgc1 w' hH).mono (fun en w'' ⟨g', h1, h2, h3⟩ => ⟨g', by rw [h1, n4F_perm hperm], ⟨h2.1.mono hK3, h2.2⟩, h3⟩)) ?_
            rintro gc3 ⟨bsgc3, hpgc3⟩
            have hpgc3 : gc3.p = pgc := by rw [hpgc3, hpgc1]
            refine WL.focus (ow' := baseA gb3 ++ baseA gc3) List.perm_append_comm ?_
            refine WL.val (OV.neq rfl rfl) rfl ?_
            refine WL.nil ?_
            refine WX.next ?_
            refine WC.condF (show _ = some (Value.bool false) from by exact congrArg (fun b => some (Value.bool b)) (by simp)) ?_
            refine WC.skip ?_
            refine WX.next ?_
            refine WC.seq ?_
            refine WC.region ?_
            refine WL.val (OV.assign rfl) rfl ?_
            refine WL.nil ?_
            refine WX.next ?_
            refine WC.block ?_
            obtain ⟨FF, hFF⟩ : ∃ FF, FF = turnF (addAll F (r.ys.map AG.x)) := ⟨_, rfl⟩
            obtain ⟨GG, hGG⟩ : ∃ GG, GG = turnF (addAll G seen) := ⟨_, rfl⟩
            have hFG2 : FF.Perm GG := by rw [hFF, hGG]; exact turnF_perm hperm
            rw [← hFF] at bsgb3
            rw [← hGG] at bsgc3
            refine WC.loop3 (fun (p : Nat) (gb4 gc4 : BaseG) => [(0, .slice a rs.length c), (1, .slice ta tl.length tc), (5, ptr pgb), (6, ptr pgc), (7, .int .i64 (i : Int)), (8, .slice r.a r.ys.length r.c), (13, .int .i64 (p : Int))])
                (fun p gb4 gc4 w' => (p ≤ 8 ∧ BS gb4 (costS (rs.take (i + 1)) tl.length) FF ∧ BS gc4 (costS (rs.take (i + 1)) tl.length) GG ∧ gb4.p = pgb ∧ gc4.p = pgc) ∧ Sat w (fun _ => False) (fun b => b < w.heap.size) w (baseA gb4 ++ baseA gc4) w')
                (fun p _ _ => 8 - p) 0 gb3 gc3 ⟨rfl, rfl, rfl, rfl, rfl, rfl, rfl, trivial⟩ (fun w' hw => ⟨⟨by omega, bsgb3, bsgc3, hpgb3, hpgc3⟩, hw⟩) ?_
            intro p gb4 gc4
            refine WC.pure (fun hk => ?_)
            obtain ⟨hp, bsgb4, bsgc4, hpgb4, hpgc4⟩ := hk
            refine WC.seq ?_
            refine WC.seq ?_
            refine WC.region ?_
            refine WL.val (OV.move rfl) rfl ?_
            refine WL.val (OV.lss rfl rfl) rfl ?_
            refine WL.nil ?_
            refine WX.next ?_
            refine WC.cond rfl (fun c104 => ?_) (fun c104 => ?_)
            · try simp only [decide_eq_true_eq, decide_eq_false_iff_not, Bool.not_eq_true', Bool.not_eq_false'] at c104
              refine WC.skip ?_
              refine WX.next ?_
              refine WC.seq ?_
              refine WC.block ?_
              refine WC.seq ?_
              refine WC.region ?_
              refine WL.val (OV.move rfl) rfl ?_
              refine WL.val (OV.move rfl) rfl ?_
              refine WL.callTA (ι := AnsA) (vs := [ptr gb4.p, .int .i64 (p : Int)]) (vv := fun z => .slice z.a z.ys.length z.c) (pp := fun z => z.ys.map AG.x = sortA (selF FF (p : Int)) ∧ BS z.g ((costS (rs.take (i + 1)) tl.length)) FF ∧ z.g.p = gb4.p ∧ (∀ y ∈ z.ys, y.x.args.length ≤ 8) ∧ z.ys.length ≤ (costS (rs.take (i + 1)) tl.length)) (baseA gb4) (AA := fun z => baseA z.g ++ atsA z.a z.c z.ys) rfl (by kernel_rfl) (by rw [hpgb4]; rfl) rfl (fun w' hw' hH => bfacts_bs gb4 ((costS (rs.take (i + 1)) tl.length)) FF bsgb4 (p : Int) w' hH) ?_
              rintro zb ⟨hzbx, bszb, hpzb, hazb, hlzb⟩
              have hpzb : zb.g.p = pgb := by rw [hpzb, hpgb4]
              refine WL.val (OV.move rfl) rfl ?_
              refine WL.val (OV.move rfl) rfl ?_
              refine WL.focus (ow' := baseA gc4 ++ ((baseA zb.g ++ atsA zb.a zb.c zb.ys))) (perm_cat [(baseA zb.g ++ atsA zb.a zb.c zb.ys), baseA gc4] [1, 0] (by decide) rfl) ?_
              refine WL.callTA (ι := AnsA) (vs := [ptr gc4.p, .int .i64 (p : Int)]) (vv := fun z => .slice z.a z.ys.length z.c) (pp := fun z => z.ys.map AG.x = sortA (selF GG (p : Int)) ∧ BS z.g ((costS (rs.take (i + 1)) tl.length)) GG ∧ z.g.p = gc4.p ∧ (∀ y ∈ z.ys, y.x.args.length ≤ 8) ∧ z.ys.length ≤ (costS (rs.take (i + 1)) tl.length)) (baseA gc4) (AA := fun z => baseA z.g ++ atsA z.a z.c z.ys) rfl (by kernel_rfl) (by rw [hpgc4]; rfl) rfl (fun w' hw' hH => bfacts_bs gc4 ((costS (rs.take (i + 1)) tl.length)) GG bsgc4 (p : Int) w' hH) ?_
              rintro zc ⟨hzcx, bszc, hpzc, hazc, hlzc⟩
              have hpzc : zc.g.p = pgc := by rw [hpzc, hpgc4]
              have hcs1 := costS_le rs tl.length (i + 1)
              have hsame : zb.ys.map AG.x = zc.ys.map AG.x := by rw [hzbx, hzcx, sortA_congr (selF_perm hFG2 _)]
              refine WL.call0 (v := .bool true) (vs := [.slice zb.a zb.ys.length zb.c, .slice zc.a zc.ys.length zc.c]) (by kernel_rfl) rfl rfl (fun w' hw' => (sameAtoms_calls zb.ys zc.ys zb.a zc.a zb.c zc.c (by omega) (by omega) (fun y hy => by have := hazb y hy; omega) (fun y hy => by have := hazc y hy; omega) w' (RA.of_row hw' (fun i hi => List.mem_append_right _ (List.mem_append_right _ hi))) (RA.of_row hw' (fun i hi => List.mem_append_left _ (List.mem_append_right _ hi)))).mono (fun en w'' ⟨h1, h2⟩ => ⟨by rw [h1, decide_eq_true hsame], h2⟩)) ?_
              refine WL.val (OV.not rfl) rfl ?_
              refine WL.nil ?_
              refine WX.next ?_
              refine WC.condF (show _ = some (Value.bool false) from by rfl) ?_
              refine WC.skip ?_
              refine WX.block_normal ?_
              refine WX.next ?_
              refine WC.region ?_
              refine WL.val (OV.move rfl) rfl ?_
              refine WL.val (OV.addN (j := 1) rfl rfl (by omega)) rfl ?_
              refine WL.val (OV.assign rfl) rfl ?_
              refine WL.nil ?_
              exact WX.round3 (p + 1) zb.g zc.g ⟨rfl, rfl, rfl, rfl, rfl, rfl, rfl, trivial⟩ (fun w' hw => ⟨⟨by omega, bszb, bszc, hpzb, hpzc⟩, (hw.perm (ow' := cat [baseA zc.g, atsA zc.a zc.c zc.ys, baseA zb.g, atsA zb.a zb.c zb.ys]) (List.Perm.of_eq (by simp [cat]))).pick [baseA zc.g, atsA zc.a zc.c zc.ys, baseA zb.g, atsA zb.a zb.c zb.ys] [2, 0] 4 rfl (by decide) (by decide)⟩) (by show 8 - (p + 1) < 8 - p; omega)
            · try simp only [decide_eq_true_eq, decide_eq_false_iff_not, Bool.not_eq_true', Bool.not_eq_false'] at c104
              refine WC.exit ?_
              refine WX.then_exit ?_
              refine WX.then_exit ?_
              refine WX.block_hit ?_
              refine WX.block_normal ?_
              refine WX.next ?_
              refine WC.region ?_
              refine WL.val (OV.move rfl) rfl ?_
              refine WL.val (OV.addN (j := 1) rfl rfl (by omega)) rfl ?_
              refine WL.val (OV.assign rfl) rfl ?_
              refine WL.nil ?_
              exact WX.round5 (i + 1) gb4 gc4 (turnF (addAll F (r.ys.map AG.x))) (turnF (addAll G seen)) ⟨rfl, rfl, rfl, rfl, rfl, trivial⟩ (fun w' hw => ⟨⟨by omega, turnF_perm hperm, by rw [← hFF]; exact bsgb4, by rw [← hGG]; exact bsgc4, hpgb4, hpgc4⟩, hw⟩) (by show rs.length - (i + 1) < rs.length - i; omega)
        · try simp only [decide_eq_true_eq, decide_eq_false_iff_not, Bool.not_eq_true', Bool.not_eq_false'] at g76
          refine WL.skip (b := false) rfl rfl rfl rfl ?_
          refine WL.skip (b := false) rfl rfl rfl rfl ?_
          refine WL.skip (b := false) rfl rfl rfl rfl ?_
          refine WL.val (OV.pickF rfl rfl) rfl ?_
          refine WL.nil ?_
          refine WX.next ?_
          refine WC.condF rfl ?_
          refine WC.exit ?_
          refine WX.then_exit ?_
          refine WX.then_exit ?_
          refine WX.block_hit ?_
          refine WX.next ?_
          refine WC.seq ?_
          refine WC.seq ?_
          refine WC.region ?_
          refine WL.val (OV.move rfl) rfl ?_
          have hK2 := costS_take tl.length hri
          unfold costR at hK2
          have hK3 : costS (rs.take i) tl.length + 2 * r.ys.length + k ≤ (costS (rs.take (i + 1)) tl.length) := by
            rcases hk0 with h | h
            · omega
            · rw [if_neg (by omega)] at hK2; omega
          have hperm : (addAll F (r.ys.map AG.x)).Perm (addAll G seen) := addAll_perm hFG bsgb.nodup (fun x hx => ⟨fun h => hs2 x h, fun h => hs1 x h hx⟩)
          refine WL.focus (ow' := baseA gb1 ++ baseA gc1) List.perm_append_comm ?_
          refine WL.callTA (ι := BaseG) (vs := [ptr gb1.p]) (vv := fun _ => .int .i64 ((n4F (addAll F (r.ys.map AG.x)) : Nat) : Int)) (pp := fun g' => BS g' (costS (rs.take (i + 1)) tl.length) (turnF (addAll F (r.ys.map AG.x))) ∧ g'.p = gb1.p) (baseA gb1) (AA := fun g' => baseA g') rfl (by kernel_rfl) (by rw [hpgb1]; rfl) rfl (fun w' hw' hH => (bturn_bs gb1 _ _ bsgb1 w' hH).mono (fun en w'' ⟨g', h1, h2, h3⟩ => ⟨g', h1, ⟨h2.1.mono (by omega), h2.2⟩, h3⟩)) ?_
          rintro gb3 ⟨bsgb3, hpgb3⟩
          have hpgb3 : gb3.p = pgb := by rw [hpgb3, hpgb1]
          refine WL.val (OV.move rfl) rfl ?_
          refine WL.focus (ow' := baseA gc1 ++ baseA gb3) List.perm_append_comm ?_
          refine WL.callTA (ι := BaseG) (vs := [ptr gc1.p]) (vv := fun _ => .int .i64 ((n4F (addAll F (r.ys.map AG.x)) : Nat) : Int)) (pp := fun g' => BS g' (costS (rs.take (i + 1)) tl.length) (turnF (addAll G seen)) ∧ g'.p = gc1.p) (baseA gc1) (AA := fun g' => baseA g') rfl (by kernel_rfl) (by rw [hpgc1]; rfl) rfl (fun w' hw' hH => (bturn_bs gc1 _ _ bsgc1 w' hH).mono (fun en w'' ⟨g', h1, h2, h3⟩ => ⟨g', by rw [h1, n4F_perm hperm], ⟨h2.1.mono hK3, h2.2⟩, h3⟩)) ?_
          rintro gc3 ⟨bsgc3, hpgc3⟩
          have hpgc3 : gc3.p = pgc := by rw [hpgc3, hpgc1]
          refine WL.focus (ow' := baseA gb3 ++ baseA gc3) List.perm_append_comm ?_
          refine WL.val (OV.neq rfl rfl) rfl ?_
          refine WL.nil ?_
          refine WX.next ?_
          refine WC.condF (show _ = some (Value.bool false) from by exact congrArg (fun b => some (Value.bool b)) (by simp)) ?_
          refine WC.skip ?_
          refine WX.next ?_
          refine WC.seq ?_
          refine WC.region ?_
          refine WL.val (OV.assign rfl) rfl ?_
          refine WL.nil ?_
          refine WX.next ?_
          refine WC.block ?_
          obtain ⟨FF, hFF⟩ : ∃ FF, FF = turnF (addAll F (r.ys.map AG.x)) := ⟨_, rfl⟩
          obtain ⟨GG, hGG⟩ : ∃ GG, GG = turnF (addAll G seen) := ⟨_, rfl⟩
          have hFG2 : FF.Perm GG := by rw [hFF, hGG]; exact turnF_perm hperm
          rw [← hFF] at bsgb3
          rw [← hGG] at bsgc3
          refine WC.loop3 (fun (p : Nat) (gb4 gc4 : BaseG) => [(0, .slice a rs.length c), (1, .slice ta tl.length tc), (5, ptr pgb), (6, ptr pgc), (7, .int .i64 (i : Int)), (8, .slice r.a r.ys.length r.c), (13, .int .i64 (p : Int))])
              (fun p gb4 gc4 w' => (p ≤ 8 ∧ BS gb4 (costS (rs.take (i + 1)) tl.length) FF ∧ BS gc4 (costS (rs.take (i + 1)) tl.length) GG ∧ gb4.p = pgb ∧ gc4.p = pgc) ∧ Sat w (fun _ => False) (fun b => b < w.heap.size) w (baseA gb4 ++ baseA gc4) w')
              (fun p _ _ => 8 - p) 0 gb3 gc3 ⟨rfl, rfl, rfl, rfl, rfl, rfl, rfl, trivial⟩ (fun w' hw => ⟨⟨by omega, bsgb3, bsgc3, hpgb3, hpgc3⟩, hw⟩) ?_
          intro p gb4 gc4
          refine WC.pure (fun hk => ?_)
          obtain ⟨hp, bsgb4, bsgc4, hpgb4, hpgc4⟩ := hk
          refine WC.seq ?_
          refine WC.seq ?_
          refine WC.region ?_
          refine WL.val (OV.move rfl) rfl ?_
          refine WL.val (OV.lss rfl rfl) rfl ?_
          refine WL.nil ?_
          refine WX.next ?_
          refine WC.cond rfl (fun c104 => ?_) (fun c104 => ?_)
          · try simp only [decide_eq_true_eq, decide_eq_false_iff_not, Bool.not_eq_true', Bool.not_eq_false'] at c104
            refine WC.skip ?_
            refine WX.next ?_
            refine WC.seq ?_
            refine WC.block ?_
            refine WC.seq ?_
            refine WC.region ?_
            refine WL.val (OV.move rfl) rfl ?_
            refine WL.val (OV.move rfl) rfl ?_
            refine WL.callTA (ι := AnsA) (vs := [ptr gb4.p, .int .i64 (p : Int)]) (vv := fun z => .slice z.a z.ys.length z.c) (pp := fun z => z.ys.map AG.x = sortA (selF FF (p : Int)) ∧ BS z.g ((costS (rs.take (i + 1)) tl.length)) FF ∧ z.g.p = gb4.p ∧ (∀ y ∈ z.ys, y.x.args.length ≤ 8) ∧ z.ys.length ≤ (costS (rs.take (i + 1)) tl.length)) (baseA gb4) (AA := fun z => baseA z.g ++ atsA z.a z.c z.ys) rfl (by kernel_rfl) (by rw [hpgb4]; rfl) rfl (fun w' hw' hH => bfacts_bs gb4 ((costS (rs.take (i + 1)) tl.length)) FF bsgb4 (p : Int) w' hH) ?_
            rintro zb ⟨hzbx, bszb, hpzb, hazb, hlzb⟩
            have hpzb : zb.g.p = pgb := by rw [hpzb, hpgb4]
            refine WL.val (OV.move rfl) rfl ?_
            refine WL.val (OV.move rfl) rfl ?_
            refine WL.focus (ow' := baseA gc4 ++ ((baseA zb.g ++ atsA zb.a zb.c zb.ys))) (perm_cat [(baseA zb.g ++ atsA zb.a zb.c zb.ys), baseA gc4] [1, 0] (by decide) rfl) ?_
            refine WL.callTA (ι := AnsA) (vs := [ptr gc4.p, .int .i64 (p : Int)]) (vv := fun z => .slice z.a z.ys.length z.c) (pp := fun z => z.ys.map AG.x = sortA (selF GG (p : Int)) ∧ BS z.g ((costS (rs.take (i + 1)) tl.length)) GG ∧ z.g.p = gc4.p ∧ (∀ y ∈ z.ys, y.x.args.length ≤ 8) ∧ z.ys.length ≤ (costS (rs.take (i + 1)) tl.length)) (baseA gc4) (AA := fun z => baseA z.g ++ atsA z.a z.c z.ys) rfl (by kernel_rfl) (by rw [hpgc4]; rfl) rfl (fun w' hw' hH => bfacts_bs gc4 ((costS (rs.take (i + 1)) tl.length)) GG bsgc4 (p : Int) w' hH) ?_
            rintro zc ⟨hzcx, bszc, hpzc, hazc, hlzc⟩
            have hpzc : zc.g.p = pgc := by rw [hpzc, hpgc4]
            have hcs1 := costS_le rs tl.length (i + 1)
            have hsame : zb.ys.map AG.x = zc.ys.map AG.x := by rw [hzbx, hzcx, sortA_congr (selF_perm hFG2 _)]
            refine WL.call0 (v := .bool true) (vs := [.slice zb.a zb.ys.length zb.c, .slice zc.a zc.ys.length zc.c]) (by kernel_rfl) rfl rfl (fun w' hw' => (sameAtoms_calls zb.ys zc.ys zb.a zc.a zb.c zc.c (by omega) (by omega) (fun y hy => by have := hazb y hy; omega) (fun y hy => by have := hazc y hy; omega) w' (RA.of_row hw' (fun i hi => List.mem_append_right _ (List.mem_append_right _ hi))) (RA.of_row hw' (fun i hi => List.mem_append_left _ (List.mem_append_right _ hi)))).mono (fun en w'' ⟨h1, h2⟩ => ⟨by rw [h1, decide_eq_true hsame], h2⟩)) ?_
            refine WL.val (OV.not rfl) rfl ?_
            refine WL.nil ?_
            refine WX.next ?_
            refine WC.condF (show _ = some (Value.bool false) from by rfl) ?_
            refine WC.skip ?_
            refine WX.block_normal ?_
            refine WX.next ?_
            refine WC.region ?_
            refine WL.val (OV.move rfl) rfl ?_
            refine WL.val (OV.addN (j := 1) rfl rfl (by omega)) rfl ?_
            refine WL.val (OV.assign rfl) rfl ?_
            refine WL.nil ?_
            exact WX.round3 (p + 1) zb.g zc.g ⟨rfl, rfl, rfl, rfl, rfl, rfl, rfl, trivial⟩ (fun w' hw => ⟨⟨by omega, bszb, bszc, hpzb, hpzc⟩, (hw.perm (ow' := cat [baseA zc.g, atsA zc.a zc.c zc.ys, baseA zb.g, atsA zb.a zb.c zb.ys]) (List.Perm.of_eq (by simp [cat]))).pick [baseA zc.g, atsA zc.a zc.c zc.ys, baseA zb.g, atsA zb.a zb.c zb.ys] [2, 0] 4 rfl (by decide) (by decide)⟩) (by show 8 - (p + 1) < 8 - p; omega)
          · try simp only [decide_eq_true_eq, decide_eq_false_iff_not, Bool.not_eq_true', Bool.not_eq_false'] at c104
            refine WC.exit ?_
            refine WX.then_exit ?_
            refine WX.then_exit ?_
            refine WX.block_hit ?_
            refine WX.block_normal ?_
            refine WX.next ?_
            refine WC.region ?_
            refine WL.val (OV.move rfl) rfl ?_
            refine WL.val (OV.addN (j := 1) rfl rfl (by omega)) rfl ?_
            refine WL.val (OV.assign rfl) rfl ?_
            refine WL.nil ?_
            exact WX.round5 (i + 1) gb4 gc4 (turnF (addAll F (r.ys.map AG.x))) (turnF (addAll G seen)) ⟨rfl, rfl, rfl, rfl, rfl, trivial⟩ (fun w' hw => ⟨⟨by omega, turnF_perm hperm, by rw [← hFF]; exact bsgb4, by rw [← hGG]; exact bsgc4, hpgb4, hpgc4⟩, hw⟩) (by show rs.length - (i + 1) < rs.length - i; omega)
  · try simp only [decide_eq_true_eq, decide_eq_false_iff_not, Bool.not_eq_true', Bool.not_eq_false'] at c25
    refine WC.exit ?_
    refine WX.then_exit ?_
    refine WX.then_exit ?_
    refine WX.block_hit ?_
    refine WX.next ?_
    refine WC.seq ?_
    refine WC.region ?_
    refine WL.val (OV.move rfl) rfl ?_
    refine WL.callTA (ι := Option Addr × Nat × List Pd) (vs := [ptr gb.p]) (vv := fun z => .slice z.1 z.2.2.length z.2.1) (pp := fun z => z.2.2 = sortP (prF gb.rs)) (baseA gb) (AA := fun z => baseA gb ++ [rowPd z.1 z.2.1 z.2.2]) rfl (by kernel_rfl) (by rw [hpgb]; rfl) rfl (fun w' hw' hH => (bpreds_calls gb bsgb.ok w' hH).mono (fun en w'' ⟨la, lc, ys, h1, h2, h3⟩ => ⟨(la, lc, ys), h1, h2, h3⟩)) ?_
    rintro ⟨la1, lc1, ps1⟩ hps1
    have hps1 : ps1 = sortP (prF gb.rs) := hps1
    refine WL.val (OV.move rfl) rfl ?_
    refine WL.focus (ow' := baseA gc ++ ((baseA gb ++ [rowPd la1 lc1 ps1]))) (perm_cat [(baseA gb ++ [rowPd la1 lc1 ps1]), baseA gc] [1, 0] (by decide) rfl) ?_
    refine WL.callTA (ι := Option Addr × Nat × List Pd) (vs := [ptr gc.p]) (vv := fun z => .slice z.1 z.2.2.length z.2.1) (pp := fun z => z.2.2 = sortP (prF gc.rs)) (baseA gc) (AA := fun z => baseA gc ++ [rowPd z.1 z.2.1 z.2.2]) rfl (by kernel_rfl) (by rw [hpgc]; rfl) rfl (fun w' hw' hH => (bpreds_calls gc bsgc.ok w' hH).mono (fun en w'' ⟨la, lc, ys, h1, h2, h3⟩ => ⟨(la, lc, ys), h1, h2, h3⟩)) ?_
    rintro ⟨la2, lc2, ps2⟩ hps2
    have hps2 : ps2 = sortP (prF gc.rs) := hps2
    have hcs := costS_le rs tl.length i
    have hsm : ps1 = ps2 := by rw [hps1, hps2, sortP_congr (prF_perm bsgb bsgc hFG)]
    have hl1 : ps1.length ≤ 1099511627776 := by
      have := prF_small bsgb
      rw [hps1, (sortP_perm _).length_eq]; omega
    refine WL.call0 (v := .bool true) (vs := [.slice la1 ps1.length lc1, .slice la2 ps2.length lc2]) (by kernel_rfl) rfl rfl (fun w' hw' => (samePreds_calls ps1 ps2 la1 la2 lc1 lc2 hl1 (by rw [← hsm]; exact hl1) w' (RP.of_row (c := lc1) hw' (by simp)) (RP.of_row (c := lc2) hw' (by simp))).mono (fun en w'' ⟨h1, h2⟩ => ⟨by rw [h1, decide_eq_true hsm], h2⟩)) ?_
    refine WL.val (OV.move rfl) rfl ?_
    refine WL.known (t := 120) (b := true) rfl (by rfl) ?_
    refine WL.go (b := true) rfl rfl rfl ?_
    refine WL.call0 (v := .bool true) (vs := []) (by kernel_rfl) rfl rfl (fun w' hw' => first_calls w' (hN.keeps hw'.keeps)) ?_
    refine WL.val (OV.pickT rfl rfl) rfl ?_
    refine WL.val (OV.assign rfl) rfl ?_
    refine WL.nil ?_
    refine WX.next ?_
    refine WC.ret ?_
    exact WX.ret1 rfl rfl rfl (fun w' hw => ⟨rfl, hw.fr⟩)

end Go.Proofs.YtgiiifadbnpfkaaGreatDoor

namespace Go.Proofs.YtgiiifadbnpfkaaGreatDoor
open Go Go.Hw
set_option linter.unusedSimpArgs false
set_option linter.unusedVariables false
section
open Go.ChangeShapes Go.WideShapes Go.ChangeAt Go.RowKit
variable {H : Type} {enc : TypeId × Value → H} {w : World} {base : Nat} {spare : Nat → Bool} {held : Bool} {r : Reach} {b0 : Nat}
def inI (k : Int) : Prop := -9223372036854775808 ≤ k ∧ k ≤ 9223372036854775807
theorem getD_at {α : Type} {l : List α} {i : Nat} {x d : α} (h : l[i]? = some x) : l.getD i d = x := by rw [List.getD_eq_getElem?_getD, h]; rfl
theorem len_wt {α : Type} (wt : α → Nat) {k : Nat} (h : ∀ y, k ≤ wt y) (ys : List α) : k * ys.length ≤ (ys.map wt).sum := by
  induction ys with
  | nil => simp
  | cons x ys ih => have := h x; simp only [List.map_cons, List.sum_cons, List.length_cons]; rw [Nat.mul_add]; omega
theorem bulk_sum {α : Type} (dflt : α) (wt : α → Nat) : ∀ (elems : List (DataW H)) (ys : List α), elems.length = ys.length → (∀ i d, elems[i]? = some d → wt (ys.getD i dflt) ≤ Rows.uptoBulk d) → (ys.map wt).sum ≤ Rows.uptoBulkAll elems
  | [], [], _, _ => by simp [Rows.uptoBulkAll]
  | [], _ :: _, h, _ => by simp at h
  | _ :: _, [], h, _ => by simp at h
  | d :: elems, y :: ys, h, hd => by
    have h1 := hd 0 d rfl
    have h2 := bulk_sum dflt wt elems ys (by simpa using h) (fun i d hi => hd (i + 1) d hi)
    simp only [List.getD_cons_zero] at h1
    simp only [List.map_cons, List.sum_cons, Rows.uptoBulkAll]
    omega
/-- A list of things of s cells each. -/
theorem trod_listN {α : Type} (dflt : α) {tt t : TypeId} {s : Nat} {fuel : Nat} {cs : List Value} {x : DataW H × List MemPlace} (htt : Program.underlying Tryz.prog tt = some (.slice t)) (hs : Program.cellsOf Tryz.prog t = s) (en : α → List Value) (hl : ∀ y, (en y).length = s) (G : α → Prop) (wt : α → Nat)
    (hel : ∀ fuel cs x, DataW.trod enc Tryz.prog w base spare held fuel t cs = some x → ∃ y, cs = en y ∧ G y ∧ wt y ≤ Rows.uptoBulk x.1) (h : DataW.trod enc Tryz.prog w base spare held fuel tt cs = some x) :
    ∃ a c, ∃ ys : List α, cs = [.slice a ys.length c] ∧ (a = none → ys.length = 0) ∧ (∀ q, a = some q → ∀ i y, ys[i]? = some y → ∀ j v, (en y)[j]? = some v → w.cell? ((q.add (i * s)).add j) = some v) ∧ (∀ y ∈ ys, G y) ∧ (ys.map wt).sum + 1 ≤ Rows.uptoBulk x.1 := by
  rcases DataW.trod_slice htt h with ⟨rfl, rfl⟩ | ⟨a, len, cap, elems, rest, n, rfl, rfl, rfl, hb, hlc, hcm, hlen, hele, _, _⟩
  · exact ⟨none, 0, [], rfl, fun _ => rfl, (fun q hq => (by cases hq)), (fun y hy => by cases hy), by simp [Rows.uptoBulk]⟩
  · have key : ∀ i, i < len → ∃ y : α, ((∀ j v, (en y)[j]? = some v → w.cell? ((a.add (i * s)).add j) = some v) ∧ G y) ∧ ∀ d, (elems.map (·.1))[i]? = some d → wt y ≤ Rows.uptoBulk d := by
      intro i hi
      have h3 := hele i hi
      rw [hs] at h3
      have h4 : i < elems.length := by omega
      rw [List.getElem?_eq_getElem h4] at h3
      obtain ⟨us, hus, h5⟩ := Option.bind_eq_some_iff.1 h3
      obtain ⟨y, rfl, h6, h7⟩ := hel _ _ _ h5
      have h8 := (World.cells?_some hus).2.2
      refine ⟨y, ⟨fun j v hj => ?_, h6⟩, fun d hd => ?_⟩
      · have hj7 : j < s := by have := (List.getElem?_eq_some_iff.1 hj).1; rw [hl] at this; exact this
        rw [h8 j hj7]; exact hj
      · rw [List.getElem?_map, List.getElem?_eq_getElem h4] at hd
        simp only [Option.map_some, Option.some.injEq] at hd
        rw [← hd]; exact h7
    obtain ⟨ys, hyl, hq⟩ := exists_list dflt _ len key
    refine ⟨some a, cap, ys, by rw [hyl], fun h => (by cases h), fun q hq' i y hy => ?_, fun y hy => ?_, ?_⟩
    · simp only [Option.some.injEq] at hq'
      subst hq'
      have hi : i < len := by have := (List.getElem?_eq_some_iff.1 hy).1; omega
      have h9 := (hq i hi).1.1
      rwa [getD_at hy] at h9
    · obtain ⟨i, hi⟩ := List.mem_iff_getElem?.1 hy
      have hil : i < len := by have := (List.getElem?_eq_some_iff.1 hi).1; omega
      have h9 := (hq i hil).1.2
      rwa [getD_at hi] at h9
    · have := bulk_sum dflt wt (elems.map (·.1)) ys (by simp [hyl, hlen]) (fun i d hd => by
        have hi : i < len := by have := (List.getElem?_eq_some_iff.1 hd).1; simp at this; omega
        exact (hq i hi).2 d hd)
      simp only [Rows.uptoBulk]; omega
theorem inI_of {n : Int} (h : (Lit.int .i64 n).wf = true) : inI n := by simpa [inI, Lit.wf, IntKind.min, IntKind.max, IntKind.signed, IntKind.bits] using h
set_option maxRecDepth 100000 in
theorem trod_ints {fuel : Nat} {cs : List Value} {x : DataW H × List MemPlace} (h : DataW.trod enc Tryz.prog w base spare held fuel 74 cs = some x) :
    ∃ a c l, cs = [.slice a l.length c] ∧ RI w a l.length l ∧ i64s l ∧ l.length + 1 ≤ Rows.uptoBulk x.1 := by
  obtain ⟨a, c, ys, hcs, ha, hat, hi, hb⟩ := trod_listN (0 : Int) (s := 1) T.u74 (by kernel_rfl) (fun k => [.int .i64 k]) (fun _ => rfl) inI (fun _ => 1) (fun fuel cs x hx => by
    obtain ⟨k, e0, d0, w0⟩ := DataW.trod_int T.u3 hx
    exact ⟨k, e0, inI_of w0, by rw [d0]; simp [Rows.uptoBulk]⟩) h
  refine ⟨a, c, ys, hcs, ⟨rfl, ha, fun q hq j k hk => ?_⟩, hi, by have := len_wt (fun _ : Int => 1) (k := 1) (fun _ => Nat.le_refl _) ys; omega⟩
  have h1 := hat q hq j k hk 0 _ rfl
  rwa [Nat.mul_one, addr_add0] at h1
/-- A term's weight. -/
def wtT (t : Tm) : Nat := t.s.size + 4
set_option maxRecDepth 100000 in
theorem trod_term {fuel : Nat} {cs : List Value} {x : DataW H × List MemPlace} (h : DataW.trod enc Tryz.prog w base spare held fuel 31 cs = some x) :
    ∃ t : Tm, cs = tmC t ∧ (inI t.kind ∧ inI t.n) ∧ wtT t ≤ Rows.uptoBulk x.1 ∧ x.1 = .agg [.lit (.int .i64 t.kind), .lit (.int .i64 t.n), .lit (.string t.s.data.toList)] := by
  obtain ⟨xs, n, rfl, rfl, hl, hxs, hf⟩ := DataW.trod_struct T.u31 h
  have hl3 : cs.length = 3 := by rw [hl]; kernel_rfl
  have cI : Program.cellsOf Tryz.prog 3 = 1 := by kernel_rfl
  have cS : Program.cellsOf Tryz.prog 9 = 1 := by kernel_rfl
  match cs, hl3 with
  | [v0, v1, v2], _ =>
    match xs, hxs with
    | [x0, x1, x2], _ =>
      have k0 : DataW.trod enc Tryz.prog w base spare held n 3 [v0] = some x0 := by
        have k : DataW.trod enc Tryz.prog w base spare held n 3 (List.take (Program.cellsOf Tryz.prog 3) (List.drop 0 [v0, v1, v2])) = some x0 := hf 0 _ rfl
        rw [cI] at k; exact k
      have k1 : DataW.trod enc Tryz.prog w base spare held n 3 [v1] = some x1 := by
        have k : DataW.trod enc Tryz.prog w base spare held n 3 (List.take (Program.cellsOf Tryz.prog 3) (List.drop 1 [v0, v1, v2])) = some x1 := hf 1 _ rfl
        rw [cI] at k; exact k
      have k2 : DataW.trod enc Tryz.prog w base spare held n 9 [v2] = some x2 := by
        have k : DataW.trod enc Tryz.prog w base spare held n 9 (List.take (Program.cellsOf Tryz.prog 9) (List.drop 2 [v0, v1, v2])) = some x2 := hf 2 _ rfl
        rw [cS] at k; exact k
      obtain ⟨kind, e0, rfl, w0⟩ := DataW.trod_int T.u3 k0
      obtain ⟨num, e1, rfl, w1⟩ := DataW.trod_int T.u3 k1
      obtain ⟨s, e2, rfl, w2⟩ := DataW.trod_string T.u9 k2
      simp only [List.cons.injEq, and_true] at e0 e1 e2
      subst e0; subst e1; subst e2
      refine ⟨⟨kind, num, s⟩, rfl, ⟨inI_of w0, inI_of w1⟩, ?_, rfl⟩
      simp only [List.map_cons, List.map_nil, Rows.uptoBulk, Rows.uptoBulkAll, wtT]
      have : s.data.toList.length = s.size := by simp
      omega
/-- An atom's weight. -/
def wtA (y : AG) : Nat := y.x.name.size + y.x.args.length + 7
set_option maxRecDepth 100000 in
theorem trod_atom {fuel : Nat} {cs : List Value} {x : DataW H × List MemPlace} (h : DataW.trod enc Tryz.prog w base spare held fuel 34 cs = some x) :
    ∃ y : AG, cs = agC y ∧ RT w y.a y.x.args ∧ wtA y ≤ Rows.uptoBulk x.1 := by
  obtain ⟨xs, n, rfl, rfl, hl, hxs, hf⟩ := DataW.trod_struct T.u34 h
  have hl5 : cs.length = 5 := by rw [hl]; kernel_rfl
  have cT : Program.cellsOf Tryz.prog 31 = 3 := by kernel_rfl
  have cS : Program.cellsOf Tryz.prog 9 = 1 := by kernel_rfl
  have cL : Program.cellsOf Tryz.prog 32 = 1 := by kernel_rfl
  match cs, hl5 with
  | [v0, v1, v2, v3, v4], _ =>
    match xs, hxs with
    | [x0, x1, x2], _ =>
      have k0 : DataW.trod enc Tryz.prog w base spare held n 31 [v0, v1, v2] = some x0 := by
        have k : DataW.trod enc Tryz.prog w base spare held n 31 (List.take (Program.cellsOf Tryz.prog 31) (List.drop 0 [v0, v1, v2, v3, v4])) = some x0 := hf 0 _ rfl
        rw [cT] at k; exact k
      have k1 : DataW.trod enc Tryz.prog w base spare held n 9 [v3] = some x1 := by
        have k : DataW.trod enc Tryz.prog w base spare held n 9 (List.take (Program.cellsOf Tryz.prog 9) (List.drop 3 [v0, v1, v2, v3, v4])) = some x1 := hf 1 _ rfl
        rw [cS] at k; exact k
      have k2 : DataW.trod enc Tryz.prog w base spare held n 32 [v4] = some x2 := by
        have k : DataW.trod enc Tryz.prog w base spare held n 32 (List.take (Program.cellsOf Tryz.prog 32) (List.drop 4 [v0, v1, v2, v3, v4])) = some x2 := hf 2 _ rfl
        rw [cL] at k; exact k
      obtain ⟨t, e0, _, b0, _⟩ := trod_term k0
      obtain ⟨s, e1, rfl, w1⟩ := DataW.trod_string T.u9 k1
      obtain ⟨a, c, ts, e2, ha, hat, _, b2⟩ := trod_listN (default : Tm) T.u32 (by kernel_rfl) tmC tmC_len (fun _ => True) wtT (fun fuel cs x hx => by
        obtain ⟨t, e, _, hb, _⟩ := trod_term hx
        exact ⟨t, e, trivial, hb⟩) k2
      simp only [tmC, List.cons.injEq, and_true] at e0 e1 e2
      obtain ⟨rfl, rfl, rfl⟩ := e0
      subst e1; subst e2
      refine ⟨⟨⟨t, s, ts⟩, a, c⟩, rfl, ⟨ha, hat⟩, ?_⟩
      have h1 := len_wt wtT (k := 1) (fun y => by unfold wtT; omega) ts
      have h2 : s.data.toList.length = s.size := by simp
      unfold wtT at b0
      simp only [List.map_cons, List.map_nil, Rows.uptoBulk, Rows.uptoBulkAll, wtA]
      omega
/-- A round's weight. -/
def wtR (r : RG) : Nat := (r.ys.map wtA).sum + 1
set_option maxRecDepth 100000 in
theorem trod_atoms {fuel : Nat} {cs : List Value} {x : DataW H × List MemPlace} (h : DataW.trod enc Tryz.prog w base spare held fuel 27 cs = some x) :
    ∃ a c ys, cs = [.slice a ys.length c] ∧ RA w a ys ∧ (ys.map wtA).sum + 1 ≤ Rows.uptoBulk x.1 := by
  obtain ⟨a, c, ys, e, ha, hat, hg, hb⟩ := trod_listN (⟨default, none, 0⟩ : AG) T.u27 (by kernel_rfl) agC agC_len (fun y => RT w y.a y.x.args) wtA (fun fuel cs x hx => by
    obtain ⟨y, e, h1, h2⟩ := trod_atom hx
    exact ⟨y, e, h1, h2⟩) h
  exact ⟨a, c, ys, e, ⟨ha, hat, hg⟩, hb⟩
set_option maxRecDepth 100000 in
theorem open_rounds {v : Value} {d : DataW H} {p : List MemPlace} (hv : Value.okWide Tryz.prog w r b0 73 v) (h : DataW.Trod enc Tryz.prog w base spare held 73 v d p) :
    ∃ a c rs, v = .slice a rs.length c ∧ RR w a rs ∧ (rs.map wtR).sum + 1 ≤ Rows.uptoBulk d := by
  obtain ⟨fuel, hf⟩ := h
  obtain ⟨a, c, rs, e, ha, hat, hg, hb⟩ := trod_listN (⟨[], none, 0⟩ : RG) (s := 1) T.u73 (by kernel_rfl) (fun r => [.slice r.a r.ys.length r.c]) (fun _ => rfl) (fun r => RA w r.a r.ys) wtR (fun fuel cs x hx => by
    obtain ⟨a, c, ys, e, h1, h2⟩ := trod_atoms hx
    exact ⟨⟨ys, a, c⟩, e, h1, h2⟩) hf
  refine ⟨a, c, rs, slice_of_ok (P := Tryz.prog) T.u73 hv e, ⟨ha, fun q hq i r hr => ?_, hg⟩, hb⟩
  have h1 := hat q hq i r hr 0 _ rfl
  rwa [Nat.mul_one, addr_add0] at h1
set_option maxRecDepth 100000 in
theorem open_ints {v : Value} {d : DataW H} {p : List MemPlace} (hv : Value.okWide Tryz.prog w r b0 74 v) (h : DataW.Trod enc Tryz.prog w base spare held 74 v d p) : ∃ a c l, v = .slice a l.length c ∧ RI w a l.length l ∧ i64s l ∧ l.length + 1 ≤ Rows.uptoBulk d := by
  obtain ⟨fuel, hf⟩ := h
  obtain ⟨a, c, l, hcs, h1, h2, h3⟩ := trod_ints hf
  exact ⟨a, c, l, slice_of_ok (P := Tryz.prog) T.u74 hv hcs, h1, h2, h3⟩
theorem le_sum {α : Type} (wt : α → Nat) {ys : List α} {y : α} (h : y ∈ ys) : wt y ≤ (ys.map wt).sum := by
  induction ys with
  | nil => cases h
  | cons x ys ih =>
    rw [List.map_cons, List.sum_cons]
    rcases List.mem_cons.1 h with rfl | h
    · omega
    · have := ih h; omega
theorem cost_le (rs : List RG) (tn : Nat) : 8 * costS rs tn ≤ (rs.map wtR).sum * (tn + 3) := by
  unfold costS
  induction rs with
  | nil => simp
  | cons r rs ih =>
    simp only [List.map_cons, List.sum_cons]
    rw [Nat.mul_add, Nat.add_mul]
    refine Nat.add_le_add ?_ ih
    have h1 := len_wt wtA (k := 7) (fun y => by unfold wtA; omega) r.ys
    unfold costR wtR
    by_cases h0 : r.ys.length = 0
    · rw [if_pos h0, h0]; simp
    · rw [if_neg h0]
      have h2 : (7 * r.ys.length + 1) * (tn + 3) ≤ ((r.ys.map wtA).sum + 1) * (tn + 3) := Nat.mul_le_mul_right _ (by omega)
      have h3 : (7 * r.ys.length + 1) * (tn + 3) = 7 * (r.ys.length * tn) + 21 * r.ys.length + tn + 3 := by
        rw [Nat.add_mul, Nat.mul_add, Nat.mul_assoc]; omega
      have h4 : tn ≤ r.ys.length * tn := Nat.le_mul_of_pos_left _ (by omega)
      omega
theorem cost_small {rs : List RG} {tn : Nat} (h : (rs.map wtR).sum + 1 + (tn + 1) ≤ 1048576) : costS rs tn ≤ 100000000000 := by
  have h1 := cost_le rs tn
  rcases Nat.lt_or_ge tn 524288 with h2 | h2
  · have h3 : (rs.map wtR).sum * (tn + 3) ≤ 1048576 * 524291 := Nat.mul_le_mul (by omega) (by omega)
    omega
  · have h3 : (rs.map wtR).sum * (tn + 3) ≤ 524288 * 1048579 := Nat.mul_le_mul (by omega) (by omega)
    omega
theorem rounds_ok {rs : List RG} (h : (rs.map wtR).sum + 1 ≤ 1048576) : rs.length ≤ 1048576 ∧ ∀ r ∈ rs, AGs r := by
  have h1 := len_wt wtR (k := 1) (fun y => by unfold wtR; omega) rs
  refine ⟨by omega, fun r hr => ?_⟩
  have h2 := le_sum wtR hr
  unfold wtR at h2
  have h3 := len_wt wtA (k := 7) (fun y => by unfold wtA; omega) r.ys
  refine ⟨by unfold wtR at h; omega, fun y hy => ?_, fun y hy => ?_⟩
  · have h4 := le_sum wtA hy
    have h5 : y.x.args.length ≤ wtA y := by unfold wtA; omega
    unfold wtR at h; omega
  · have h4 := le_sum wtA hy
    have h5 : y.x.name.size ≤ wtA y := by unfold wtA; omega
    unfold wtR at h; omega
/-- term.none, as the row lays it. -/
theorem none_laid {fuel : Nat} {cs : Array Value} {q : List MemPlace} (hg : Program.globalNamed Tryz.prog "hearsay/term.none" = some 1) (hv : w.var? Tryz.prog "hearsay/term.none" = some cs) (hd : DataW.trod enc Tryz.prog w base spare held fuel 31 cs.toList = some (Rows.laid_hearsay_term_none, q)) : NoneAt w := by
  obtain ⟨t, e, _, _, ht⟩ := trod_term hd
  have ht0 : t = T0 := by
    simp only [Rows.laid_hearsay_term_none, DataW.agg.injEq, List.cons.injEq, DataW.lit.injEq, Lit.int.injEq, true_and, Lit.string.injEq, and_true] at ht
    obtain ⟨h1, h2, h3⟩ := ht
    obtain ⟨k, n, s⟩ := t
    simp only at h1 h2 h3
    subst h1; subst h2
    have : s = E0 := by
      obtain ⟨⟨l⟩⟩ := s
      have h4 : ([] : List UInt8) = l := h3
      subst h4; rfl
    rw [this]; rfl
  intro j v hj
  rw [World.var?_cell hg hv j, ← Array.getElem?_toList, e, ht0]
  exact hj
end

end Go.Proofs.YtgiiifadbnpfkaaGreatDoor
