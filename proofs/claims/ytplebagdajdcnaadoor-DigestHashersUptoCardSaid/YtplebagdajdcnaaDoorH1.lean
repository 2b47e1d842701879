/- Contracts of functions of the program: what each returns and leaves in memory. Printed by gen.py and walk.py. -/
import Derived.Test.YtplebagdajdcnaaDoorH0
namespace Go.Proofs.YtplebagdajdcnaaDoor
open Go Go.Hw
set_option linter.unusedSimpArgs false
set_option linter.unusedVariables false
theorem permFE (E1 E2 : List HE) (h : HE) : (own h.hb (.cells (HC h.all h.part).toArray 71 (0, 0)) :: row 5 1 h.a h.all.length h.c (u8s h.all) :: RR E1 E2).Perm ((E1 ++ h :: E2).flatMap itemsE) := by
  have e : (E1 ++ h :: E2).flatMap itemsE = E1.flatMap itemsE ++ (itemsE h ++ E2.flatMap itemsE) := by simp
  rw [e, RR]
  show (itemsE h ++ (E1.flatMap itemsE ++ E2.flatMap itemsE)).Perm _
  rw [← List.append_assoc, ← List.append_assoc]
  exact List.Perm.append_right _ List.perm_append_comm
section
variable {w w' ws : World} {A : List Hw.Item} {I : Nat → Prop} {E E1 E2 : List HE} {h : HE} {a : Option Addr} {cL n : Nat}
theorem turnedS (hn : n = (E1 ++ h :: E2).length) (hw : Sat w (DD A) I ws (own h.hb (.cells (HC h.all h.part).toArray 71 (0, 0)) :: row 5 1 h.a h.all.length h.c (u8s h.all) :: row 48 2 a n cL (cellsE (E1 ++ h :: E2)) :: RR E1 E2) w') :
    Turns A (pairA (E1 ++ h :: E2) a cL) w w' := by
  subst hn
  exact (hw.perm (permF E1 E2 h _).symm).turned
theorem turnedW {all' part' : List UInt8} {a' : Option Addr} {c' : Nat} (hn : n = (E1 ++ h :: E2).length) (hw : Sat w (DD A) I ws (row 48 2 a n cL ((cellsE (E1 ++ h :: E2)).set (2 * E1.length + 1) (.slice a' all'.length c')) :: row 5 1 a' all'.length c' (u8s all') :: own h.hb (.cells (HC all' part').toArray 71 (0, 0)) :: RR E1 E2) w') :
    Turns A (pairA (E1 ++ ⟨h.hb, all', part', a', c'⟩ :: E2) a cL) w w' := by
  have e := cellsE_set E1 E2 h ⟨h.hb, all', part', a', c'⟩ rfl
  simp only at e
  rw [e] at hw
  have hn' : n = (E1 ++ (⟨h.hb, all', part', a', c'⟩ : HE) :: E2).length := by rw [hn]; simp
  have hp : Sat w (DD A) I ws (own h.hb (.cells (HC all' part').toArray 71 (0, 0)) :: row 5 1 a' all'.length c' (u8s all') :: row 48 2 a n cL (cellsE (E1 ++ ⟨h.hb, all', part', a', c'⟩ :: E2)) :: RR E1 E2) w' := (hw.perm perm2).perm (.cons _ perm1)
  exact turnedS (h := ⟨h.hb, all', part', a', c'⟩) hn' hp
theorem turnedN (h : HE) (hn : n = E.length + 1) (hw : Sat w (DD A) I ws (row 5 1 h.a h.all.length h.c (u8s h.all) :: row 48 2 a n cL (cellsE E ++ [.pointer (some ⟨h.hb, 0, none⟩), .slice h.a h.all.length h.c]) :: own h.hb (.cells (HC h.all h.part).toArray 71 (0, 0)) :: E.flatMap itemsE) w') :
    Turns A (pairA (E ++ [h]) a cL) w w' := by
  have e : cellsE E ++ [.pointer (some ⟨h.hb, 0, none⟩), .slice h.a h.all.length h.c] = cellsE (E ++ [h]) := by simp [cellsE]
  rw [e] at hw
  have hn' : n = (E ++ [h]).length := by rw [hn]; simp
  subst hn'
  exact (hw.perm (permN E h _)).turned
theorem pair_cells {M : Nat → Prop} {ow : List Hw.Item} {bL c : Nat} (hw : Sat w M I ws ow w') (hm : row 48 2 (some ⟨bL, 0, none⟩) n c (cellsE (E1 ++ h :: E2)) ∈ ow) :
    w'.cell? ⟨bL, 2 * E1.length, none⟩ = some (.pointer (some ⟨h.hb, 0, none⟩)) ∧ w'.cell? ⟨bL, 2 * E1.length + 1, none⟩ = some (.slice h.a h.all.length h.c) := by
  have hc := cellsE_at E1 E2 h
  have h1 := row_cells hw hm _ _ hc.1
  have h2 := row_cells hw hm _ _ hc.2
  rw [add_off, Nat.zero_add] at h1 h2
  exact ⟨h1, h2⟩
theorem pair_get {M : Nat → Prop} {ow : List Hw.Item} {bL c : Nat} (hw : Sat w M I ws ow w') (hm : row 48 2 (some ⟨bL, 0, none⟩) n c (cellsE (E1 ++ h :: E2)) ∈ ow) :
    ∀ j v, ([.pointer (some ⟨h.hb, 0, none⟩), .slice h.a h.all.length h.c] : List Value)[j]? = some v → w'.cell? ((⟨bL, 2 * E1.length, none⟩ : Addr).add j) = some v := by
  intro j v hj
  have hp := pair_cells hw hm
  rw [add_off]
  match j, hj with
  | 0, hj => simp only [List.getElem?_cons_zero, Option.some.injEq] at hj; subst hj; exact hp.1
  | 1, hj => simp only [List.getElem?_cons_succ, List.getElem?_cons_zero, Option.some.injEq] at hj; subst hj; exact hp.2
end

set_option maxRecDepth 10000 in
set_option maxHeartbeats 1000000 in
theorem plays_calls (E : List HE) (aL : Option Addr) (cL : Nat) (kind hx : Int) (ab : Option Addr) (mb cb : Nat) (lb : List UInt8) (B S : Nat) (hS : S + mb ≤ 1099511627776) (hE : goodE S E) (hlen : E.length ≤ 1099511627776) (hxr : -9223372036854775808 ≤ hx ∧ hx ≤ 9223372036854775807) (w : World) (hA : Holds (pairA E aL cL) w) (hAB : ∀ b, DD (pairA E aL cL) b → B ≤ b) (hBw : B ≤ w.heap.size) (hrb : RB w ab mb lb) (hbB : ∀ q, ab = some q → 0 < mb → q.block < B) (hT : Tabs w) (h4 : 4 ≤ B) : Calls Tryd.prog 22 #[.slice aL E.length cL, .agg ([.int .i64 kind, .int .i64 hx, .slice ab mb cb] : List Value).toArray] w fun e w' => ∃ x : List HE × Option Addr × Nat, e = .returned (.tuple #[.slice x.2.1 x.1.length x.2.2, .bool true]) ∧ (goodE (S + mb) x.1 ∧ x.1.length ≤ E.length + 1) ∧ Turns (pairA E aL cL) (pairA x.1 x.2.1 x.2.2) w w' := by
  refine enterA hA (args := [.slice aL E.length cL, .agg ([.int .i64 kind, .int .i64 hx, .slice ab mb cb] : List Value).toArray]) Tryd.func22 rfl Tryd.ntmps22 rfl rfl ?_
  refine WC.seq ?_
  refine WC.region ?_
  refine WL.box (cs := [.int .i64 kind, .int .i64 hx, .slice ab mb cb]) rfl rfl rfl ?_
  intro b3
  refine WL.val (OV.assign rfl) rfl ?_
  refine WL.val (OV.assign rfl) rfl ?_
  refine WL.nil ?_
  refine WX.next ?_
  refine WC.seq ?_
  refine WC.seq ?_
  refine WC.region ?_
  first
  | (refine WL.val (OV.fieldAddr0 (off := 0) rfl T.u45 rfl) rfl ?_)
  | (refine WL.val (OV.fieldAddr (off := 0) rfl T.u45 rfl) rfl ?_)
  refine WL.val (OV.load1 rfl T.u3 rfl (fun _ hw => cell_own hw (.head _) rfl)) rfl ?_
  refine WL.val (OV.eql rfl rfl) rfl ?_
  refine WL.val (OV.move rfl) rfl ?_
  refine WL.split (t := 16) rfl (fun g16 => ?_) (fun g16 => ?_)
  · simp only [decide_eq_true_eq, decide_eq_false_iff_not, Bool.not_eq_true', Bool.not_eq_false'] at g16
    refine WL.skip (b := true) rfl rfl rfl rfl ?_
    refine WL.skip (b := true) rfl rfl rfl rfl ?_
    refine WL.skip (b := true) rfl rfl rfl rfl ?_
    refine WL.val (OV.pickT rfl rfl) rfl ?_
    refine WL.nil ?_
    refine WX.next ?_
    refine WC.condT rfl ?_
    refine WC.seq ?_
    refine WC.region ?_
    refine WL.callF (it := fun b => own b (.cells (HC [] (List.replicate 64 0)).toArray 71 (0, 0))) (by kernel_rfl) rfl rfl (fun w' hw => new_calls w' (hT.satB h4 hAB hw).df) ?_
    intro b21 _
    refine WL.val (OV.assign rfl) rfl ?_
    refine WL.nil ?_
    refine WX.next ?_
    refine WC.seq ?_
    refine WC.region ?_
    refine WL.val (OV.move rfl) rfl ?_
    refine WL.val (OV.move rfl) rfl ?_
    refine WL.val (OV.buildStruct (xs := [(0, .tmp 23)]) (pl := [(0, 1), (1, 1)]) (cs := [.pointer (some ⟨b21, 0, none⟩), .slice none 0 0]) T.u48 T.zr48 (by kernel_rfl) rfl (fill_pair0 rfl rfl)) rfl ?_
    refine WL.buildSliceA T.u41 T.z48 T.zr48 rfl rfl (by decide) (by decide) rfl ?_
    intro bl25
    refine WL.focus perm3 (WL.append (bytes := 32) rfl rfl (by kernel_rfl) (fun _ hw => own_srcN (.tail _ (.head _)) rfl) (by intro u hu; simp only [List.mem_cons, List.not_mem_nil, or_false] at hu; rcases hu with rfl | rfl <;> rfl) (by simp only [maxLen]; omega) rfl ?_)
    intro a26 c26
    refine WL.val (OV.move rfl) rfl ?_
    refine WL.val (OV.neqNil T.u46 rfl rfl) rfl ?_
    refine WL.val (OV.assign rfl) rfl ?_
    refine WL.val (OV.assign rfl) rfl ?_
    refine WL.nil ?_
    refine WX.next ?_
    refine WC.ret ?_
    refine WX.then_ret ?_
    exact WX.ret2 rfl rfl rfl rfl (fun w' hw => ⟨(E ++ [⟨b21, [], List.replicate 64 0, none, 0⟩], a26, c26), by rw [List.length_append]; rfl, ⟨fun x hx => by
      rcases List.mem_append.1 hx with hx | hx
      · exact ⟨(hE x hx).1, by have := (hE x hx).2; omega⟩
      · simp only [List.mem_singleton] at hx
        subst hx
        exact ⟨hp_nil, Nat.zero_le _⟩, by simp⟩, by
      have h1 := (hw.part (.cons_cons _ (.cons _ (.cons_cons _ (.cons _ (.refl _)))))).rowNil 5 1
      exact turnedN ⟨b21, [], List.replicate 64 0, none, 0⟩ rfl h1⟩)
  · simp only [decide_eq_true_eq, decide_eq_false_iff_not, Bool.not_eq_true', Bool.not_eq_false'] at g16
    refine WL.go (b := false) rfl rfl rfl ?_
    refine WL.val (OV.move rfl) rfl ?_
    refine WL.go (b := false) rfl rfl rfl ?_
    first
    | (refine WL.val (OV.lenSlice rfl T.u41) rfl ?_)
    | (refine WL.val (OV.lenStr rfl T.u41) rfl ?_)
    refine WL.go (b := false) rfl rfl rfl ?_
    refine WL.val (OV.eql rfl rfl) rfl ?_
    refine WL.val (OV.pickF rfl rfl) rfl ?_
    refine WL.nil ?_
    refine WX.next ?_
    refine WC.cond rfl (fun c20 => ?_) (fun c20 => ?_)
    · simp only [decide_eq_true_eq, decide_eq_false_iff_not, Bool.not_eq_true', Bool.not_eq_false'] at c20
      refine WC.seq ?_
      refine WC.region ?_
      refine WL.callF (it := fun b => own b (.cells (HC [] (List.replicate 64 0)).toArray 71 (0, 0))) (by kernel_rfl) rfl rfl (fun w' hw => new_calls w' (hT.satB h4 hAB hw).df) ?_
      intro b21 _
      refine WL.val (OV.assign rfl) rfl ?_
      refine WL.nil ?_
      refine WX.next ?_
      refine WC.seq ?_
      refine WC.region ?_
      refine WL.val (OV.move rfl) rfl ?_
      refine WL.val (OV.move rfl) rfl ?_
      refine WL.val (OV.buildStruct (xs := [(0, .tmp 23)]) (pl := [(0, 1), (1, 1)]) (cs := [.pointer (some ⟨b21, 0, none⟩), .slice none 0 0]) T.u48 T.zr48 (by kernel_rfl) rfl (fill_pair0 rfl rfl)) rfl ?_
      refine WL.buildSliceA T.u41 T.z48 T.zr48 rfl rfl (by decide) (by decide) rfl ?_
      intro bl25
      refine WL.focus perm3 (WL.append (bytes := 32) rfl rfl (by kernel_rfl) (fun _ hw => own_srcN (.tail _ (.head _)) rfl) (by intro u hu; simp only [List.mem_cons, List.not_mem_nil, or_false] at hu; rcases hu with rfl | rfl <;> rfl) (by simp only [maxLen]; omega) rfl ?_)
      intro a26 c26
      refine WL.val (OV.move rfl) rfl ?_
      refine WL.val (OV.neqNil T.u46 rfl rfl) rfl ?_
      refine WL.val (OV.assign rfl) rfl ?_
      refine WL.val (OV.assign rfl) rfl ?_
      refine WL.nil ?_
      refine WX.next ?_
      refine WC.ret ?_
      refine WX.then_ret ?_
      exact WX.ret2 rfl rfl rfl rfl (fun w' hw => ⟨(E ++ [⟨b21, [], List.replicate 64 0, none, 0⟩], a26, c26), by rw [List.length_append]; rfl, ⟨fun x hx => by
        rcases List.mem_append.1 hx with hx | hx
        · exact ⟨(hE x hx).1, by have := (hE x hx).2; omega⟩
        · simp only [List.mem_singleton] at hx
          subst hx
          exact ⟨hp_nil, Nat.zero_le _⟩, by simp⟩, by
        have h1 := (hw.part (.cons_cons _ (.cons _ (.cons_cons _ (.cons _ (.refl _)))))).rowNil 5 1
        exact turnedN ⟨b21, [], List.replicate 64 0, none, 0⟩ rfl h1⟩)
    · simp only [decide_eq_true_eq, decide_eq_false_iff_not, Bool.not_eq_true', Bool.not_eq_false'] at c20
      refine WC.skip ?_
      refine WX.next ?_
      refine WC.seq ?_
      refine WC.region ?_
      first
      | (refine WL.val (OV.fieldAddr0 (off := 1) rfl T.u45 rfl) rfl ?_)
      | (refine WL.val (OV.fieldAddr (off := 1) rfl T.u45 rfl) rfl ?_)
      refine WL.val (OV.load1 rfl T.u3 rfl (fun _ hw => cell_own hw (.head _) rfl)) rfl ?_
      refine WL.val (OV.move rfl) rfl ?_
      first
      | (refine WL.val (OV.lenSlice rfl T.u41) rfl ?_)
      | (refine WL.val (OV.lenStr rfl T.u41) rfl ?_)
      refine WL.val (OV.rem rfl rfl (by rw [beq_eq_false_iff_ne]; omega)) rfl ?_
      refine WL.val (OV.assign rfl) rfl ?_
      refine WL.nil ?_
      refine WX.next ?_
      refine WC.seq ?_
      refine WC.seq ?_
      refine WC.region ?_
      refine WL.val (OV.move rfl) rfl ?_
      refine WL.val (OV.lss rfl rfl) rfl ?_
      refine WL.nil ?_
      refine WX.next ?_
      refine WC.cond rfl (fun c35 => ?_) (fun c35 => ?_)
      · simp only [decide_eq_true_eq, decide_eq_false_iff_not, Bool.not_eq_true', Bool.not_eq_false'] at c35
        refine WC.region ?_
        refine WL.val (OV.move rfl) rfl ?_
        refine WL.val ((OV.neg rfl).cast (u := .int .i64 (((hx.tmod (E.length : Int)).natAbs : Nat) : Int)) (by
          have h1 := natAbs_tmod (a := hx) (n := E.length) (by omega)
          have h2 := Int.ofNat_natAbs_of_nonpos (a := hx.tmod (E.length : Int)) (by omega)
          rw [wrap_i64 (by omega), h2])) rfl ?_
        refine WL.val (OV.assign rfl) rfl ?_
        refine WL.nil ?_
        refine WX.next ?_
        refine WC.seq ?_
        obtain ⟨k, hk⟩ : ∃ k, k = (hx.tmod (E.length : Int)).natAbs := ⟨_, rfl⟩
        have hkl : k < E.length := by rw [hk]; exact natAbs_tmod (by omega)
        rw [← hk]
        clear hk
        obtain ⟨E1, h, E2, rfl, hk1⟩ := split_at hkl
        have hlenE : (E1 ++ h :: E2).length = E1.length + (E2.length + 1) := by simp
        subst hk1
        have hh := hE h (by simp)
        refine WC.focus (.cons _ (permF E1 E2 h _)) ?_
        refine WC.know (fun w' hw => (row_base hw (.tail _ (.tail _ (.tail _ (.head _))))).2) (fun hq => ?_)
        rcases hq with hq | ⟨bL, rfl, hcap⟩
        · exfalso; omega
        refine WC.region ?_
        refine WL.val (OV.move rfl) rfl ?_
        refine WL.val (OV.move rfl) rfl ?_
        refine WL.val ((OV.indexSlice rfl rfl T.u41 T.z48 (by omega)).cast (u := .pointer (some ⟨bL, 2 * E1.length, none⟩)) (by rw [add_off, Int.toNat_natCast, Nat.zero_add, Nat.mul_comm])) rfl ?_
        refine WL.val (OV.loadN (cs := [(.pointer (some ⟨h.hb, 0, none⟩)), (.slice h.a h.all.length h.c)]) rfl T.u48 rfl T.z48 (fun _ hw => pair_get hw (.tail _ (.tail _ (.tail _ (.head _)))))) rfl ?_
        refine WL.alloc T.zr48 rfl ?_
        intro bb8
        refine WL.storeAll (vs := [(.pointer (some ⟨h.hb, 0, none⟩)), (.slice h.a h.all.length h.c)]) rfl rfl rfl T.z48 rfl ?_
        refine WL.nil ?_
        refine WX.next ?_
        refine WC.seq ?_
        refine WC.seq ?_
        refine WC.region ?_
        first
        | (refine WL.val (OV.fieldAddr0 (off := 0) rfl T.u45 rfl) rfl ?_)
        | (refine WL.val (OV.fieldAddr (off := 0) rfl T.u45 rfl) rfl ?_)
        refine WL.val (OV.load1 rfl T.u3 rfl (fun _ hw => cell_own hw (.tail _ (.head _)) rfl)) rfl ?_
        refine WL.nil ?_
        refine WX.next ?_
        refine WC.block ?_
        refine WC.seq ?_
        refine WC.region ?_
        refine WL.val (OV.eql rfl rfl) rfl ?_
        refine WL.val (OV.assign rfl) rfl ?_
        refine WL.nil ?_
        refine WX.next ?_
        refine WC.cond rfl (fun c44 => ?_) (fun c44 => ?_)
        · simp only [decide_eq_true_eq, decide_eq_false_iff_not, Bool.not_eq_true', Bool.not_eq_false'] at c44
          refine WC.seq ?_
          refine WC.region ?_
          first
          | (refine WL.val (OV.fieldAddr0 (off := 2) rfl T.u45 rfl) rfl ?_)
          | (refine WL.val (OV.fieldAddr (off := 2) rfl T.u45 rfl) rfl ?_)
          refine WL.val (OV.load1 rfl T.u22 rfl (fun _ hw => cell_own hw (.tail _ (.head _)) rfl)) rfl ?_
          refine WL.callF (it := fun q : Option Addr × Nat => row 5 1 q.1 (mb + 80) q.2 (u8s (roomL lb))) (by kernel_rfl) rfl rfl (fun w' hw => roomy_calls lb ab mb cb (by omega) w' (RB.satB hAB hw hbB hrb)) ?_
          rintro ⟨a48, c48⟩ _
          refine WL.know (fun w' hw => (RB.of_row hw (.head _)).2) (fun hc48 => ?_)
          refine WL.val (OV.assign rfl) rfl ?_
          refine WL.nil ?_
          refine WX.next ?_
          refine WC.seq ?_
          refine WC.drawnS (fun w' => w'.cell? ⟨bb8, 0, none⟩ = some (.pointer (some ⟨h.hb, 0, none⟩)) ∧ w'.cell? ⟨b3, 2, none⟩ = some (.slice ab mb cb)) (by kernel_rfl) (m := 8) rfl ?_
          first
          | (refine WH.take 0 rfl (by kernel_rfl) (by kernel_rfl) (by kernel_rfl) (fun _ hw => by first | exact ⟨cell_own hw (.tail _ (.head _)) rfl, cell_own hw (.tail _ (.tail _ (.head _))) rfl⟩ | exact ⟨cell_own hw (.tail _ (.tail _ (.head _))) rfl, cell_own hw (.tail _ (.tail _ (.tail _ (.head _)))) rfl⟩) (OV.fieldAddr0 (off := 0) rfl T.u48 rfl) rfl (listed' := [true, false, false, false, false, false, false, false]) rfl ?_)
          | (refine WH.take 0 rfl (by kernel_rfl) (by kernel_rfl) (by kernel_rfl) (fun _ hw => by first | exact ⟨cell_own hw (.tail _ (.head _)) rfl, cell_own hw (.tail _ (.tail _ (.head _))) rfl⟩ | exact ⟨cell_own hw (.tail _ (.tail _ (.head _))) rfl, cell_own hw (.tail _ (.tail _ (.tail _ (.head _)))) rfl⟩) (OV.fieldAddr (off := 0) rfl T.u48 rfl) rfl (listed' := [true, false, false, false, false, false, false, false]) rfl ?_)
          refine WH.take 1 rfl (by kernel_rfl) (by kernel_rfl) (by kernel_rfl) (fun _ hw => by first | exact ⟨cell_own hw (.tail _ (.head _)) rfl, cell_own hw (.tail _ (.tail _ (.head _))) rfl⟩ | exact ⟨cell_own hw (.tail _ (.tail _ (.head _))) rfl, cell_own hw (.tail _ (.tail _ (.tail _ (.head _)))) rfl⟩) (OV.load1 rfl T.u46 rfl (fun _ hw => hw.1)) rfl (listed' := [true, true, false, false, false, false, false, false]) rfl ?_
          refine WH.take 2 rfl (by kernel_rfl) (by kernel_rfl) (by kernel_rfl) (fun _ hw => by first | exact ⟨cell_own hw (.tail _ (.head _)) rfl, cell_own hw (.tail _ (.tail _ (.head _))) rfl⟩ | exact ⟨cell_own hw (.tail _ (.tail _ (.head _))) rfl, cell_own hw (.tail _ (.tail _ (.tail _ (.head _)))) rfl⟩) (OV.move rfl) rfl (listed' := [true, true, true, false, false, false, false, false]) rfl ?_
          first
          | (refine WH.take 3 rfl (by kernel_rfl) (by kernel_rfl) (by kernel_rfl) (fun _ hw => by first | exact ⟨cell_own hw (.tail _ (.head _)) rfl, cell_own hw (.tail _ (.tail _ (.head _))) rfl⟩ | exact ⟨cell_own hw (.tail _ (.tail _ (.head _))) rfl, cell_own hw (.tail _ (.tail _ (.tail _ (.head _)))) rfl⟩) (OV.fieldAddr0 (off := 2) rfl T.u45 rfl) rfl (listed' := [true, true, true, true, false, false, false, false]) rfl ?_)
          | (refine WH.take 3 rfl (by kernel_rfl) (by kernel_rfl) (by kernel_rfl) (fun _ hw => by first | exact ⟨cell_own hw (.tail _ (.head _)) rfl, cell_own hw (.tail _ (.tail _ (.head _))) rfl⟩ | exact ⟨cell_own hw (.tail _ (.tail _ (.head _))) rfl, cell_own hw (.tail _ (.tail _ (.tail _ (.head _)))) rfl⟩) (OV.fieldAddr (off := 2) rfl T.u45 rfl) rfl (listed' := [true, true, true, true, false, false, false, false]) rfl ?_)
          refine WH.take 4 rfl (by kernel_rfl) (by kernel_rfl) (by kernel_rfl) (fun _ hw => by first | exact ⟨cell_own hw (.tail _ (.head _)) rfl, cell_own hw (.tail _ (.tail _ (.head _))) rfl⟩ | exact ⟨cell_own hw (.tail _ (.tail _ (.head _))) rfl, cell_own hw (.tail _ (.tail _ (.tail _ (.head _)))) rfl⟩) (OV.load1 rfl T.u22 rfl (fun _ hw => hw.2)) rfl (listed' := [true, true, true, true, true, false, false, false]) rfl ?_
          first
          | (refine WH.take 5 rfl (by kernel_rfl) (by kernel_rfl) (by kernel_rfl) (fun _ hw => by first | exact ⟨cell_own hw (.tail _ (.head _)) rfl, cell_own hw (.tail _ (.tail _ (.head _))) rfl⟩ | exact ⟨cell_own hw (.tail _ (.tail _ (.head _))) rfl, cell_own hw (.tail _ (.tail _ (.tail _ (.head _)))) rfl⟩) (OV.lenSlice rfl T.u22) rfl (listed' := [true, true, true, true, true, true, false, false]) rfl ?_)
          | (refine WH.take 5 rfl (by kernel_rfl) (by kernel_rfl) (by kernel_rfl) (fun _ hw => by first | exact ⟨cell_own hw (.tail _ (.head _)) rfl, cell_own hw (.tail _ (.tail _ (.head _))) rfl⟩ | exact ⟨cell_own hw (.tail _ (.tail _ (.head _))) rfl, cell_own hw (.tail _ (.tail _ (.tail _ (.head _)))) rfl⟩) (OV.lenStr rfl T.u22) rfl (listed' := [true, true, true, true, true, true, false, false]) rfl ?_)
          refine WH.take 6 rfl (by kernel_rfl) (by kernel_rfl) (by kernel_rfl) (fun _ hw => by first | exact ⟨cell_own hw (.tail _ (.head _)) rfl, cell_own hw (.tail _ (.tail _ (.head _))) rfl⟩ | exact ⟨cell_own hw (.tail _ (.tail _ (.head _))) rfl, cell_own hw (.tail _ (.tail _ (.tail _ (.head _)))) rfl⟩) (OV.sliceTo rfl T.u22 T.z5 rfl (by omega)) rfl (listed' := [true, true, true, true, true, true, true, false]) rfl ?_
          refine WH.only 7 rfl (by kernel_rfl) (listed' := [true, true, true, true, true, true, true, true]) rfl ?_
          refine WL.focus perm3 (WL.callM (ι := List UInt8) (vv := fun _ => .tuple #[]) (pp := fun p' => HP (h.all ++ lb) p') (oo := fun p' => Obj.cells (HC (h.all ++ lb) p').toArray 71) (by kernel_rfl) rfl rfl (fun w' hw => (write_calls h.all h.part h.hb lb a48 mb c48 (by omega) (by have := hh.2; omega) w' hh.1 (RB.room (RB.of_row hw (.tail _ (.head _))).1 hrb.1) (fun q hq _ hqb => hw.apart (j := row 5 1 a48 (mb + 80) c48 (u8s (roomL lb))) (.head _) h.hb rfl ⟨q, hq, hqb⟩) (hw.it _ (.head _)) (by have := ge_of hAB hBw hw (.head _) (b := h.hb) rfl; omega) (hT.satB h4 hAB hw).dk).mono (fun _ _ ⟨x, h1, h2, h3, h4⟩ => ⟨x, h1, h2, h3, h4⟩)) ?_)
          intro p56 hp56
          refine WL.nil ?_
          refine WX.cont (fun _ hw => by first | exact ⟨cell_own hw (.tail _ (.head _)) rfl, cell_own hw (.tail _ (.tail _ (.head _))) rfl⟩ | exact ⟨cell_own hw (.tail _ (.tail _ (.head _))) rfl, cell_own hw (.tail _ (.tail _ (.tail _ (.head _)))) rfl⟩) ?_
          refine WH.done (by kernel_rfl) ?_
          refine WX.next ?_
          refine WC.seq ?_
          refine WC.seq ?_
          refine WC.region ?_
          refine WL.val (OV.move rfl) rfl ?_
          first
          | (refine WL.val (OV.fieldAddr0 (off := 2) rfl T.u45 rfl) rfl ?_)
          | (refine WL.val (OV.fieldAddr (off := 2) rfl T.u45 rfl) rfl ?_)
          refine WL.val (OV.load1 rfl T.u22 rfl (fun _ hw => cell_own hw (.tail _ (.tail _ (.tail _ (.head _)))) rfl)) rfl ?_
          refine WL.callF (it := fun q : Option Addr × Nat => row 5 1 q.1 (mb + 80) q.2 (u8s (roomL lb))) (by kernel_rfl) rfl rfl (fun w' hw => roomy_calls lb ab mb cb (by omega) w' (RB.satB hAB hw hbB hrb)) ?_
          rintro ⟨a60, c60⟩ _
          refine WL.call0 (v := .bool true) (by kernel_rfl) rfl rfl (fun w' hw => same_eq (roomL lb) (roomL lb) rfl a48 a60 (mb + 80) c48 (mb + 80) c60 (by omega) w' (RB.of_row hw (.tail _ (.tail _ (.head _)))).1 (RB.of_row hw (.head _)).1) ?_
          refine WL.val (OV.not rfl) rfl ?_
          refine WL.nil ?_
          refine WX.next ?_
          refine WC.condF rfl ?_
          refine WC.skip ?_
          refine WX.next ?_
          refine WC.seq ?_
          refine WC.seq ?_
          refine WC.region ?_
          refine WL.val (OV.assign rfl) rfl ?_
          refine WL.nil ?_
          refine WX.next ?_
          refine WC.block ?_
          refine WC.know (fun w' hw => (row_base hw (.tail _ (.tail _ (.head _)))).2) (fun hq9 => ?_)
          rcases hq9 with hq9 | ⟨b9, rfl, hcap9⟩
          · exfalso; omega
          refine WC.loop2 (fun (i : Nat) (xs : List Value) => [(0, .slice (some ⟨bL, 0, none⟩) (E1 ++ h :: E2).length cL), (3, .pointer (some ⟨b3, 0, none⟩)), (7, .int .i64 (E1.length : Int)), (9, .slice (some ⟨b9, 0, none⟩) (mb + 80 : Nat) c48), (10, .int .i64 (i : Int))])
              (fun i xs w' => (i ≤ mb + 80 ∧ xs.length = mb + 80) ∧ Sat w (DD (pairA (E1 ++ h :: E2) (some ⟨bL, 0, none⟩) cL)) (fun b => b < w.heap.size ∧ ¬ DD (pairA (E1 ++ h :: E2) (some ⟨bL, 0, none⟩) cL) b) w (row 5 1 (some ⟨b9, 0, none⟩) (mb + 80) c48 xs :: own h.hb (.cells (HC (h.all ++ lb) p56).toArray 71 (0, 0)) :: own b3 (.cells ([.int .i64 kind, .int .i64 hx, .slice ab mb cb] : List Value).toArray 45 (0, 0)) :: row 5 1 h.a h.all.length h.c (u8s h.all) :: row 48 2 (some ⟨bL, 0, none⟩) (E1 ++ h :: E2).length cL (cellsE (E1 ++ h :: E2)) :: RR E1 E2) w')
              (fun i _ => mb + 80 - i) 0 (u8s (roomL lb)) ⟨rfl, rfl, rfl, rfl, rfl, trivial⟩ (fun w' hw => ⟨⟨by omega, by rw [u8s_length, roomL_length, hrb.1]⟩, (hw.part (.cons _ (.cons_cons _ (.cons_cons _ (.cons _ (.refl _)))))).perm perm1⟩) ?_
          intro i xs
          refine WC.pure (fun hi => ?_)
          obtain ⟨hi, hxs⟩ := hi
          refine WC.seq ?_
          refine WC.seq ?_
          refine WC.region ?_
          refine WL.val (OV.move rfl) rfl ?_
          refine WL.val (OV.move rfl) rfl ?_
          first
          | (refine WL.val (OV.lenSlice rfl T.u22) rfl ?_)
          | (refine WL.val (OV.lenStr rfl T.u22) rfl ?_)
          refine WL.val (OV.lss rfl rfl) rfl ?_
          refine WL.nil ?_
          refine WX.next ?_
          refine WC.cond rfl (fun c67 => ?_) (fun c67 => ?_)
          · simp only [decide_eq_true_eq, decide_eq_false_iff_not, Bool.not_eq_true', Bool.not_eq_false'] at c67
            refine WC.skip ?_
            refine WX.next ?_
            refine WC.seq ?_
            refine WC.block ?_
            refine WC.region ?_
            refine WL.val (OV.move rfl) rfl ?_
            refine WL.val (OV.move rfl) rfl ?_
            refine WL.val (OV.indexSliceN (i := i) rfl rfl T.u22 T.z5 (by omega)) rfl ?_
            refine WL.storeRow (v := .int .u8 99) rfl rfl rfl rfl T.z5 (by omega) ?_
            refine WL.nil ?_
            refine WX.block_normal ?_
            refine WX.next ?_
            refine WC.region ?_
            refine WL.val (OV.move rfl) rfl ?_
            refine WL.val (OV.addN (j := 1) rfl rfl (by omega)) rfl ?_
            refine WL.val (OV.assign rfl) rfl ?_
            refine WL.nil ?_
            exact WX.round2 (i + 1) (xs.set i (.int .u8 99)) ⟨rfl, rfl, rfl, rfl, rfl, trivial⟩ (fun w' hw => ⟨⟨by omega, by rw [List.length_set]; omega⟩, hw⟩) (by show mb + 80 - (i + 1) < mb + 80 - i; omega)
          · simp only [decide_eq_true_eq, decide_eq_false_iff_not, Bool.not_eq_true', Bool.not_eq_false'] at c67
            refine WC.exit ?_
            refine WX.then_exit ?_
            refine WX.then_exit ?_
            refine WX.block_hit ?_
            refine WX.next ?_
            refine WC.barred (fun w' => w'.cell? ⟨bL, 2 * E1.length + 1, none⟩ = some (.slice h.a h.all.length h.c) ∧ w'.cell? ⟨b3, 2, none⟩ = some (.slice ab mb cb)) [9] (by kernel_rfl) (m := 13) rfl ?_
            refine WHB.free 0 rfl (by kernel_rfl) (by kernel_rfl) (by kernel_rfl) rfl (fun _ => (fun _ hw => ⟨(pair_cells hw (.tail _ (.tail _ (.tail _ (.tail _ (.head _)))))).2, cell_own hw (.tail _ (.tail _ (.head _))) rfl⟩)) (OV.move rfl) rfl (listed' := [true, false, false, false, false, false, false, false, false, false, false, false, false]) rfl ?_
            refine WHB.free 1 rfl (by kernel_rfl) (by kernel_rfl) (by kernel_rfl) rfl (fun _ => (fun _ hw => ⟨(pair_cells hw (.tail _ (.tail _ (.tail _ (.tail _ (.head _)))))).2, cell_own hw (.tail _ (.tail _ (.head _))) rfl⟩)) (OV.move rfl) rfl (listed' := [true, true, false, false, false, false, false, false, false, false, false, false, false]) rfl ?_
            refine WHB.free 2 rfl (by kernel_rfl) (by kernel_rfl) (by kernel_rfl) rfl (fun _ => (fun _ hw => ⟨(pair_cells hw (.tail _ (.tail _ (.tail _ (.tail _ (.head _)))))).2, cell_own hw (.tail _ (.tail _ (.head _))) rfl⟩)) (OV.move rfl) rfl (listed' := [true, true, true, false, false, false, false, false, false, false, false, false, false]) rfl ?_
            refine WHB.free 3 rfl (by kernel_rfl) (by kernel_rfl) (by kernel_rfl) rfl (fun _ => (fun _ hw => ⟨(pair_cells hw (.tail _ (.tail _ (.tail _ (.tail _ (.head _)))))).2, cell_own hw (.tail _ (.tail _ (.head _))) rfl⟩)) (OV.move rfl) rfl (listed' := [true, true, true, true, false, false, false, false, false, false, false, false, false]) rfl ?_
            refine WHB.free 4 rfl (by kernel_rfl) (by kernel_rfl) (by kernel_rfl) rfl (fun _ => (fun _ hw => ⟨(pair_cells hw (.tail _ (.tail _ (.tail _ (.tail _ (.head _)))))).2, cell_own hw (.tail _ (.tail _ (.head _))) rfl⟩)) ((OV.indexSlice rfl rfl T.u41 T.z48 (by omega)).cast (u := .pointer (some ⟨bL, 2 * E1.length, none⟩)) (by rw [add_off, Int.toNat_natCast, Nat.zero_add, Nat.mul_comm])) rfl (listed' := [true, true, true, true, true, false, false, false, false, false, false, false, false]) rfl ?_
            first
            | (refine WHB.free 5 rfl (by kernel_rfl) (by kernel_rfl) (by kernel_rfl) rfl (fun _ => (fun _ hw => ⟨(pair_cells hw (.tail _ (.tail _ (.tail _ (.tail _ (.head _)))))).2, cell_own hw (.tail _ (.tail _ (.head _))) rfl⟩)) (OV.fieldAddr0 (off := 1) rfl T.u48 rfl) rfl (listed' := [true, true, true, true, true, true, false, false, false, false, false, false, false]) rfl ?_)
            | (refine WHB.free 5 rfl (by kernel_rfl) (by kernel_rfl) (by kernel_rfl) rfl (fun _ => (fun _ hw => ⟨(pair_cells hw (.tail _ (.tail _ (.tail _ (.tail _ (.head _)))))).2, cell_own hw (.tail _ (.tail _ (.head _))) rfl⟩)) (OV.fieldAddr (off := 1) rfl T.u48 rfl) rfl (listed' := [true, true, true, true, true, true, false, false, false, false, false, false, false]) rfl ?_)
            refine WHB.take 6 rfl (by kernel_rfl) (by kernel_rfl) (by kernel_rfl) (by kernel_rfl) (fun _ hw => ⟨(pair_cells hw (.tail _ (.tail _ (.tail _ (.tail _ (.head _)))))).2, cell_own hw (.tail _ (.tail _ (.head _))) rfl⟩) (OV.load1 rfl T.u22 rfl (fun _ hw => hw.1)) rfl (listed' := [true, true, true, true, true, true, true, false, false, false, false, false, false]) rfl ?_
            first
            | (refine WHB.free 7 rfl (by kernel_rfl) (by kernel_rfl) (by kernel_rfl) rfl (fun _ => (fun _ hw => ⟨(pair_cells hw (.tail _ (.tail _ (.tail _ (.tail _ (.head _)))))).2, cell_own hw (.tail _ (.tail _ (.head _))) rfl⟩)) (OV.fieldAddr0 (off := 2) rfl T.u45 rfl) rfl (listed' := [true, true, true, true, true, true, true, true, false, false, false, false, false]) rfl ?_)
            | (refine WHB.free 7 rfl (by kernel_rfl) (by kernel_rfl) (by kernel_rfl) rfl (fun _ => (fun _ hw => ⟨(pair_cells hw (.tail _ (.tail _ (.tail _ (.tail _ (.head _)))))).2, cell_own hw (.tail _ (.tail _ (.head _))) rfl⟩)) (OV.fieldAddr (off := 2) rfl T.u45 rfl) rfl (listed' := [true, true, true, true, true, true, true, true, false, false, false, false, false]) rfl ?_)
            refine WHB.take 8 rfl (by kernel_rfl) (by kernel_rfl) (by kernel_rfl) (by kernel_rfl) (fun _ hw => ⟨(pair_cells hw (.tail _ (.tail _ (.tail _ (.tail _ (.head _)))))).2, cell_own hw (.tail _ (.tail _ (.head _))) rfl⟩) (OV.load1 rfl T.u22 rfl (fun _ hw => hw.2)) rfl (listed' := [true, true, true, true, true, true, true, true, true, false, false, false, false]) rfl ?_
            refine WHB.only 9 rfl (by kernel_rfl) (listed' := [true, true, true, true, true, true, true, true, true, true, false, false, false]) rfl (fl' := true) rfl ?_
            refine WL.focus perm3 (WL.append (bytes := 1) rfl rfl (by kernel_rfl) (fun _ hw => Src.of_rb hrb.1 hrb.2.1 (fun w' hw' => RB.satB hAB hw' hbB hrb)) (u8s_one _) (by have := hh.2; simp only [maxLen]; omega) rfl ?_)
            intro a82 c82
            rw [← u8s_append, show h.all.length + mb = (h.all ++ lb).length from by rw [List.length_append, hrb.1]]
            refine WL.nil ?_
            refine WX.contB (fun h => by cases h) ?_
            refine WHB.free 10 rfl (by kernel_rfl) (by kernel_rfl) (by kernel_rfl) rfl (fun h => by cases h) ((OV.indexSlice rfl rfl T.u41 T.z48 (by omega)).cast (u := .pointer (some ⟨bL, 2 * E1.length, none⟩)) (by rw [add_off, Int.toNat_natCast, Nat.zero_add, Nat.mul_comm])) rfl (listed' := [true, true, true, true, true, true, true, true, true, true, true, false, false]) rfl ?_
            first
            | (refine WHB.free 11 rfl (by kernel_rfl) (by kernel_rfl) (by kernel_rfl) rfl (fun h => by cases h) (OV.fieldAddr0 (off := 1) rfl T.u48 rfl) rfl (listed' := [true, true, true, true, true, true, true, true, true, true, true, true, false]) rfl ?_)
            | (refine WHB.free 11 rfl (by kernel_rfl) (by kernel_rfl) (by kernel_rfl) rfl (fun h => by cases h) (OV.fieldAddr (off := 1) rfl T.u48 rfl) rfl (listed' := [true, true, true, true, true, true, true, true, true, true, true, true, false]) rfl ?_)
            refine WHB.only 12 rfl (by kernel_rfl) (listed' := [true, true, true, true, true, true, true, true, true, true, true, true, true]) rfl (fl' := true) rfl ?_
            refine WL.focus perm4 (WL.storeRow rfl rfl rfl rfl T.z22 (by rw [cellsE_length]; omega) ?_)
            refine WL.nil ?_
            refine WX.contB (fun h => by cases h) ?_
            refine WHB.done (by kernel_rfl) ?_
            refine WX.block_normal ?_
            refine WX.next ?_
            refine WC.seq ?_
            refine WC.region ?_
            refine WL.val (OV.move rfl) rfl ?_
            refine WL.val (OV.assign rfl) rfl ?_
            refine WL.val (OV.assign rfl) rfl ?_
            refine WL.nil ?_
            refine WX.next ?_
            refine WC.ret ?_
            exact WX.ret2 rfl rfl rfl rfl (fun w' hw => ⟨(E1 ++ ⟨h.hb, h.all ++ lb, p56, a82, c82⟩ :: E2, some ⟨bL, 0, none⟩, cL), by simp, ⟨fun x hx => by
              rcases List.mem_append.1 hx with hx | hx
              · have := hE x (List.mem_append_left _ hx); exact ⟨this.1, by omega⟩
              · rcases List.mem_cons.1 hx with rfl | hx
                · exact ⟨hp56, by have := hh.2; have := hrb.1; simp only [List.length_append]; omega⟩
                · have := hE x (List.mem_append_right _ (.tail _ hx)); exact ⟨this.1, by omega⟩, by simp⟩,
              turnedW rfl (hw.part (.cons_cons _ (.cons_cons _ (.cons _ (.cons_cons _ (.cons _ (.refl _)))))))⟩)
        · simp only [decide_eq_true_eq, decide_eq_false_iff_not, Bool.not_eq_true', Bool.not_eq_false'] at c44
          refine WC.seq ?_
          refine WC.region ?_
          refine WL.val (OV.eql rfl rfl) rfl ?_
          refine WL.val (OV.assign rfl) rfl ?_
          refine WL.nil ?_
          refine WX.next ?_
          refine WC.cond rfl (fun c85 => ?_) (fun c85 => ?_)
          · simp only [decide_eq_true_eq, decide_eq_false_iff_not, Bool.not_eq_true', Bool.not_eq_false'] at c85
            refine WC.seq ?_
            refine WC.drawnS (fun w' => w'.cell? ⟨bb8, 0, none⟩ = some (.pointer (some ⟨h.hb, 0, none⟩)) ∧ w'.cell? ⟨bb8, 1, none⟩ = some (.slice h.a h.all.length h.c)) (by kernel_rfl) (m := 10) rfl ?_
            refine WH.take 0 rfl (by kernel_rfl) (by kernel_rfl) (by kernel_rfl) (fun _ hw => ⟨cell_own hw (.head _) rfl, cell_own hw (.head _) rfl⟩) (OV.move rfl) rfl (listed' := [true, false, false, false, false, false, false, false, false, false]) rfl ?_
            first
            | (refine WH.take 1 rfl (by kernel_rfl) (by kernel_rfl) (by kernel_rfl) (fun _ hw => ⟨cell_own hw (.head _) rfl, cell_own hw (.head _) rfl⟩) (OV.fieldAddr0 (off := 0) rfl T.u48 rfl) rfl (listed' := [true, true, false, false, false, false, false, false, false, false]) rfl ?_)
            | (refine WH.take 1 rfl (by kernel_rfl) (by kernel_rfl) (by kernel_rfl) (fun _ hw => ⟨cell_own hw (.head _) rfl, cell_own hw (.head _) rfl⟩) (OV.fieldAddr (off := 0) rfl T.u48 rfl) rfl (listed' := [true, true, false, false, false, false, false, false, false, false]) rfl ?_)
            refine WH.take 2 rfl (by kernel_rfl) (by kernel_rfl) (by kernel_rfl) (fun _ hw => ⟨cell_own hw (.head _) rfl, cell_own hw (.head _) rfl⟩) (OV.load1 rfl T.u46 rfl (fun _ hw => hw.1)) rfl (listed' := [true, true, true, false, false, false, false, false, false, false]) rfl ?_
            first
            | (refine WH.take 4 rfl (by kernel_rfl) (by kernel_rfl) (by kernel_rfl) (fun _ hw => ⟨cell_own hw (.head _) rfl, cell_own hw (.head _) rfl⟩) (OV.fieldAddr0 (off := 1) rfl T.u48 rfl) rfl (listed' := [true, true, true, false, true, false, false, false, false, false]) rfl ?_)
            | (refine WH.take 4 rfl (by kernel_rfl) (by kernel_rfl) (by kernel_rfl) (fun _ hw => ⟨cell_own hw (.head _) rfl, cell_own hw (.head _) rfl⟩) (OV.fieldAddr (off := 1) rfl T.u48 rfl) rfl (listed' := [true, true, true, false, true, false, false, false, false, false]) rfl ?_)
            refine WH.take 5 rfl (by kernel_rfl) (by kernel_rfl) (by kernel_rfl) (fun _ hw => ⟨cell_own hw (.head _) rfl, cell_own hw (.head _) rfl⟩) (OV.load1 rfl T.u22 rfl (fun _ hw => hw.2)) rfl (listed' := [true, true, true, false, true, true, false, false, false, false]) rfl ?_
            refine WH.only 3 rfl (by kernel_rfl) (listed' := [true, true, true, true, true, true, false, false, false, false]) rfl ?_
            refine WL.call0 (by kernel_rfl) rfl rfl (fun w' hw => hsum_calls h.all h.part h.hb (by have := hh.2; omega) w' hh.1 (hw.it _ (.tail _ (.tail _ (.head _)))) (hT.satB h4 hAB hw).dk) ?_
            refine WL.nil ?_
            refine WX.cont (fun _ hw => ⟨cell_own hw (.head _) rfl, cell_own hw (.head _) rfl⟩) ?_
            refine WH.only 6 rfl (by kernel_rfl) (listed' := [true, true, true, true, true, true, true, false, false, false]) rfl ?_
            refine WL.call0 (by kernel_rfl) rfl rfl (fun w' hw => refSum_calls h.all h.a h.all.length h.c (by have := hh.2; omega) w' (RB.of_row hw (.tail _ (.tail _ (.tail _ (.head _))))).1 (hT.satB h4 hAB hw).rf (hT.satB h4 hAB hw).rk) ?_
            refine WL.nil ?_
            refine WX.cont (fun _ hw => ⟨cell_own hw (.head _) rfl, cell_own hw (.head _) rfl⟩) ?_
            refine WH.take 7 rfl (by kernel_rfl) (by kernel_rfl) (by kernel_rfl) (fun _ hw => ⟨cell_own hw (.head _) rfl, cell_own hw (.head _) rfl⟩) ((OV.eqlA T.u25 T.u5 T.z5 (by kernel_rfl) rfl rfl (shaD_length _) (shaD_length _)).cast (u := .bool true) (by simp)) rfl (listed' := [true, true, true, true, true, true, true, true, false, false]) rfl ?_
            refine WH.take 8 rfl (by kernel_rfl) (by kernel_rfl) (by kernel_rfl) (fun _ hw => ⟨cell_own hw (.head _) rfl, cell_own hw (.head _) rfl⟩) (OV.assign rfl) rfl (listed' := [true, true, true, true, true, true, true, true, true, false]) rfl ?_
            refine WH.take 9 rfl (by kernel_rfl) (by kernel_rfl) (by kernel_rfl) (fun _ hw => ⟨cell_own hw (.head _) rfl, cell_own hw (.head _) rfl⟩) (OV.assign rfl) rfl (listed' := [true, true, true, true, true, true, true, true, true, true]) rfl ?_
            refine WH.done (by kernel_rfl) ?_
            refine WX.next ?_
            refine WC.ret ?_
            refine WX.block_ret ?_
            refine WX.then_ret ?_
            exact WX.ret2 rfl rfl rfl rfl (fun w' hw => ⟨(E1 ++ h :: E2, some ⟨bL, 0, none⟩, cL), rfl, ⟨hE.mono (by omega), Nat.le_succ _⟩, turnedS rfl (hw.part (.cons _ (.cons _ (.refl _))))⟩)
          · simp only [decide_eq_true_eq, decide_eq_false_iff_not, Bool.not_eq_true', Bool.not_eq_false'] at c85
            refine WC.seq ?_
            refine WC.region ?_
            refine WL.val (OV.eql rfl rfl) rfl ?_
            refine WL.val (OV.assign rfl) rfl ?_
            refine WL.nil ?_
            refine WX.next ?_
            refine WC.cond rfl (fun c95 => ?_) (fun c95 => ?_)
            · simp only [decide_eq_true_eq, decide_eq_false_iff_not, Bool.not_eq_true', Bool.not_eq_false'] at c95
              refine WC.seq ?_
              refine WC.drawnS (fun w' => w'.cell? ⟨bb8, 0, none⟩ = some (.pointer (some ⟨h.hb, 0, none⟩)) ∧ w'.cell? ⟨bb8, 1, none⟩ = some (.slice h.a h.all.length h.c)) (by kernel_rfl) (m := 10) rfl ?_
              refine WH.take 0 rfl (by kernel_rfl) (by kernel_rfl) (by kernel_rfl) (fun _ hw => ⟨cell_own hw (.head _) rfl, cell_own hw (.head _) rfl⟩) (OV.move rfl) rfl (listed' := [true, false, false, false, false, false, false, false, false, false]) rfl ?_
              first
              | (refine WH.take 1 rfl (by kernel_rfl) (by kernel_rfl) (by kernel_rfl) (fun _ hw => ⟨cell_own hw (.head _) rfl, cell_own hw (.head _) rfl⟩) (OV.fieldAddr0 (off := 0) rfl T.u48 rfl) rfl (listed' := [true, true, false, false, false, false, false, false, false, false]) rfl ?_)
              | (refine WH.take 1 rfl (by kernel_rfl) (by kernel_rfl) (by kernel_rfl) (fun _ hw => ⟨cell_own hw (.head _) rfl, cell_own hw (.head _) rfl⟩) (OV.fieldAddr (off := 0) rfl T.u48 rfl) rfl (listed' := [true, true, false, false, false, false, false, false, false, false]) rfl ?_)
              refine WH.take 2 rfl (by kernel_rfl) (by kernel_rfl) (by kernel_rfl) (fun _ hw => ⟨cell_own hw (.head _) rfl, cell_own hw (.head _) rfl⟩) (OV.load1 rfl T.u46 rfl (fun _ hw => hw.1)) rfl (listed' := [true, true, true, false, false, false, false, false, false, false]) rfl ?_
              first
              | (refine WH.take 4 rfl (by kernel_rfl) (by kernel_rfl) (by kernel_rfl) (fun _ hw => ⟨cell_own hw (.head _) rfl, cell_own hw (.head _) rfl⟩) (OV.fieldAddr0 (off := 1) rfl T.u48 rfl) rfl (listed' := [true, true, true, false, true, false, false, false, false, false]) rfl ?_)
              | (refine WH.take 4 rfl (by kernel_rfl) (by kernel_rfl) (by kernel_rfl) (fun _ hw => ⟨cell_own hw (.head _) rfl, cell_own hw (.head _) rfl⟩) (OV.fieldAddr (off := 1) rfl T.u48 rfl) rfl (listed' := [true, true, true, false, true, false, false, false, false, false]) rfl ?_)
              refine WH.take 5 rfl (by kernel_rfl) (by kernel_rfl) (by kernel_rfl) (fun _ hw => ⟨cell_own hw (.head _) rfl, cell_own hw (.head _) rfl⟩) (OV.load1 rfl T.u22 rfl (fun _ hw => hw.2)) rfl (listed' := [true, true, true, false, true, true, false, false, false, false]) rfl ?_
              first
              | (refine WH.take 6 rfl (by kernel_rfl) (by kernel_rfl) (by kernel_rfl) (fun _ hw => ⟨cell_own hw (.head _) rfl, cell_own hw (.head _) rfl⟩) (OV.lenSlice rfl T.u22) rfl (listed' := [true, true, true, false, true, true, true, false, false, false]) rfl ?_)
              | (refine WH.take 6 rfl (by kernel_rfl) (by kernel_rfl) (by kernel_rfl) (fun _ hw => ⟨cell_own hw (.head _) rfl, cell_own hw (.head _) rfl⟩) (OV.lenStr rfl T.u22) rfl (listed' := [true, true, true, false, true, true, true, false, false, false]) rfl ?_)
              refine WH.only 3 rfl (by kernel_rfl) (listed' := [true, true, true, true, true, true, true, false, false, false]) rfl ?_
              refine WL.call0 (by kernel_rfl) rfl rfl (fun w' hw => len_calls h.all h.part h.hb w' hh.1 (hw.it _ (.tail _ (.tail _ (.head _))))) ?_
              refine WL.nil ?_
              refine WX.cont (fun _ hw => ⟨cell_own hw (.head _) rfl, cell_own hw (.head _) rfl⟩) ?_
              refine WH.take 7 rfl (by kernel_rfl) (by kernel_rfl) (by kernel_rfl) (fun _ hw => ⟨cell_own hw (.head _) rfl, cell_own hw (.head _) rfl⟩) ((OV.eql rfl rfl).cast (u := .bool true) (by simp)) rfl (listed' := [true, true, true, true, true, true, true, true, false, false]) rfl ?_
              refine WH.take 8 rfl (by kernel_rfl) (by kernel_rfl) (by kernel_rfl) (fun _ hw => ⟨cell_own hw (.head _) rfl, cell_own hw (.head _) rfl⟩) (OV.assign rfl) rfl (listed' := [true, true, true, true, true, true, true, true, true, false]) rfl ?_
              refine WH.take 9 rfl (by kernel_rfl) (by kernel_rfl) (by kernel_rfl) (fun _ hw => ⟨cell_own hw (.head _) rfl, cell_own hw (.head _) rfl⟩) (OV.assign rfl) rfl (listed' := [true, true, true, true, true, true, true, true, true, true]) rfl ?_
              refine WH.done (by kernel_rfl) ?_
              refine WX.next ?_
              refine WC.ret ?_
              refine WX.block_ret ?_
              refine WX.then_ret ?_
              exact WX.ret2 rfl rfl rfl rfl (fun w' hw => ⟨(E1 ++ h :: E2, some ⟨bL, 0, none⟩, cL), rfl, ⟨hE.mono (by omega), Nat.le_succ _⟩, turnedS rfl (hw.part (.cons _ (.cons _ (.refl _))))⟩)
            · simp only [decide_eq_true_eq, decide_eq_false_iff_not, Bool.not_eq_true', Bool.not_eq_false'] at c95
              refine WC.seq ?_
              refine WC.region ?_
              refine WL.val (OV.eql rfl rfl) rfl ?_
              refine WL.val (OV.assign rfl) rfl ?_
              refine WL.nil ?_
              refine WX.next ?_
              refine WC.cond rfl (fun c105 => ?_) (fun c105 => ?_)
              · simp only [decide_eq_true_eq, decide_eq_false_iff_not, Bool.not_eq_true', Bool.not_eq_false'] at c105
                refine WC.seq ?_
                refine WC.region ?_
                first
                | (refine WL.val (OV.fieldAddr0 (off := 0) rfl T.u48 rfl) rfl ?_)
                | (refine WL.val (OV.fieldAddr (off := 0) rfl T.u48 rfl) rfl ?_)
                refine WL.val (OV.load1 rfl T.u46 rfl (fun _ hw => cell_own hw (.head _) rfl)) rfl ?_
                refine WL.callF (it := fun b => own b (.cells (HC h.all h.part).toArray 71 (0, 0))) (by kernel_rfl) rfl rfl (fun w' hw => copy_calls h.all h.part h.hb w' hh.1 (hw.it _ (.tail _ (.tail _ (.head _))))) ?_
                intro b109 _
                refine WL.val (OV.assign rfl) rfl ?_
                refine WL.nil ?_
                refine WX.next ?_
                refine WC.seq ?_
                refine WC.region ?_
                refine WL.val (OV.assign rfl) rfl ?_
                refine WL.nil ?_
                refine WX.next ?_
                refine WC.seq ?_
                refine WC.region ?_
                refine WL.val (OV.move rfl) rfl ?_
                first
                | (refine WL.val (OV.fieldAddr0 (off := 1) rfl T.u48 rfl) rfl ?_)
                | (refine WL.val (OV.fieldAddr (off := 1) rfl T.u48 rfl) rfl ?_)
                refine WL.val (OV.load1 rfl T.u22 rfl (fun _ hw => cell_own hw (.tail _ (.head _)) rfl)) rfl ?_
                refine WL.nilRow 5 ?_
                refine WL.append (bytes := 1) rfl rfl (by kernel_rfl) (fun _ hw => row_src (.tail _ (.tail _ (.tail _ (.tail _ (.tail _ (.head _)))))) hw) (u8s_one _) (by have := hh.2; simp only [maxLen]; omega) rfl ?_
                intro a113 c113
                rw [List.nil_append, Nat.zero_add]
                refine WL.val (OV.assign rfl) rfl ?_
                refine WL.nil ?_
                refine WX.next ?_
                refine WC.seq ?_
                refine WC.region ?_
                refine WL.val (OV.move rfl) rfl ?_
                refine WL.val (OV.move rfl) rfl ?_
                refine WL.val (OV.move rfl) rfl ?_
                refine WL.val (OV.buildStruct (xs := [(0, .tmp 115), (1, .tmp 116)]) (pl := [(0, 1), (1, 1)]) (cs := [.pointer (some ⟨b109, 0, none⟩), .slice a113 h.all.length c113]) T.u48 T.zr48 (by kernel_rfl) rfl (fill_pair (P := Tryd.prog) rfl rfl rfl)) rfl ?_
                refine WL.buildSliceA T.u41 T.z48 T.zr48 rfl rfl (by decide) (by decide) rfl ?_
                intro bl118
                refine WL.focus perm7 (WL.append (bytes := 32) rfl rfl (by kernel_rfl) (fun _ hw => own_srcN (.tail _ (.head _)) rfl) (by intro u hu; simp only [List.mem_cons, List.not_mem_nil, or_false] at hu; rcases hu with rfl | rfl <;> rfl) (by simp only [maxLen]; omega) rfl ?_)
                intro a119 c119
                refine WL.val (OV.move rfl) rfl ?_
                refine WL.val (OV.neqNil T.u46 rfl rfl) rfl ?_
                refine WL.val (OV.assign rfl) rfl ?_
                refine WL.val (OV.assign rfl) rfl ?_
                refine WL.nil ?_
                refine WX.next ?_
                refine WC.ret ?_
                refine WX.block_ret ?_
                refine WX.then_ret ?_
                exact WX.ret2 rfl rfl rfl rfl (fun w' hw => ⟨((E1 ++ h :: E2) ++ [⟨b109, h.all, h.part, a113, c113⟩], a119, c119), by simp only [List.length_append, List.length_cons, List.length_nil]; rfl, ⟨fun x hx => by
                  rcases List.mem_append.1 hx with hx | hx
                  · exact ⟨(hE x hx).1, by have := (hE x hx).2; omega⟩
                  · simp only [List.mem_singleton] at hx
                    subst hx
                    exact ⟨hh.1, by have := hh.2; simp only; omega⟩, by rw [List.length_append]; simp⟩, by
                  have h1 := hw.part (.cons_cons _ (.cons _ (.cons_cons _ (.cons_cons _ (.cons _ (.cons _ (.refl _)))))))
                  exact turnedN ⟨b109, h.all, h.part, a113, c113⟩ rfl ((h1.perm perm1).perm (.cons _ (.cons _ (.cons _ (permFE E1 E2 h).symm))))⟩)
              · simp only [decide_eq_true_eq, decide_eq_false_iff_not, Bool.not_eq_true', Bool.not_eq_false'] at c105
                refine WC.skip ?_
                refine WX.block_normal ?_
                refine WX.next ?_
                refine WC.seq ?_
                refine WC.region ?_
                refine WL.val (OV.move rfl) rfl ?_
                refine WL.val (OV.assign rfl) rfl ?_
                refine WL.val (OV.assign rfl) rfl ?_
                refine WL.nil ?_
                refine WX.next ?_
                refine WC.ret ?_
                exact WX.ret2 rfl rfl rfl rfl (fun w' hw => ⟨(E1 ++ h :: E2, some ⟨bL, 0, none⟩, cL), rfl, ⟨hE.mono (by omega), Nat.le_succ _⟩, turnedS rfl (hw.part (.cons _ (.cons _ (.refl _))))⟩)
      · simp only [decide_eq_true_eq, decide_eq_false_iff_not, Bool.not_eq_true', Bool.not_eq_false'] at c35
        refine WC.skip ?_
        refine WX.next ?_
        refine WC.seq ?_
        rw [show hx.tmod (E.length : Int) = (((hx.tmod (E.length : Int)).natAbs : Nat) : Int) from (Int.natAbs_of_nonneg (by omega)).symm]
        obtain ⟨k, hk⟩ : ∃ k, k = (hx.tmod (E.length : Int)).natAbs := ⟨_, rfl⟩
        have hkl : k < E.length := by rw [hk]; exact natAbs_tmod (by omega)
        rw [← hk]
        clear hk
        obtain ⟨E1, h, E2, rfl, hk1⟩ := split_at hkl
        have hlenE : (E1 ++ h :: E2).length = E1.length + (E2.length + 1) := by simp
        subst hk1
        have hh := hE h (by simp)
        refine WC.focus (.cons _ (permF E1 E2 h _)) ?_
        refine WC.know (fun w' hw => (row_base hw (.tail _ (.tail _ (.tail _ (.head _))))).2) (fun hq => ?_)
        rcases hq with hq | ⟨bL, rfl, hcap⟩
        · exfalso; omega
        refine WC.region ?_
        refine WL.val (OV.move rfl) rfl ?_
        refine WL.val (OV.move rfl) rfl ?_
        refine WL.val ((OV.indexSlice rfl rfl T.u41 T.z48 (by omega)).cast (u := .pointer (some ⟨bL, 2 * E1.length, none⟩)) (by rw [add_off, Int.toNat_natCast, Nat.zero_add, Nat.mul_comm])) rfl ?_
        refine WL.val (OV.loadN (cs := [(.pointer (some ⟨h.hb, 0, none⟩)), (.slice h.a h.all.length h.c)]) rfl T.u48 rfl T.z48 (fun _ hw => pair_get hw (.tail _ (.tail _ (.tail _ (.head _)))))) rfl ?_
        refine WL.alloc T.zr48 rfl ?_
        intro bb8
        refine WL.storeAll (vs := [(.pointer (some ⟨h.hb, 0, none⟩)), (.slice h.a h.all.length h.c)]) rfl rfl rfl T.z48 rfl ?_
        refine WL.nil ?_
        refine WX.next ?_
        refine WC.seq ?_
        refine WC.seq ?_
        refine WC.region ?_
        first
        | (refine WL.val (OV.fieldAddr0 (off := 0) rfl T.u45 rfl) rfl ?_)
        | (refine WL.val (OV.fieldAddr (off := 0) rfl T.u45 rfl) rfl ?_)
        refine WL.val (OV.load1 rfl T.u3 rfl (fun _ hw => cell_own hw (.tail _ (.head _)) rfl)) rfl ?_
        refine WL.nil ?_
        refine WX.next ?_
        refine WC.block ?_
        refine WC.seq ?_
        refine WC.region ?_
        refine WL.val (OV.eql rfl rfl) rfl ?_
        refine WL.val (OV.assign rfl) rfl ?_
        refine WL.nil ?_
        refine WX.next ?_
        refine WC.cond rfl (fun c44 => ?_) (fun c44 => ?_)
        · simp only [decide_eq_true_eq, decide_eq_false_iff_not, Bool.not_eq_true', Bool.not_eq_false'] at c44
          refine WC.seq ?_
          refine WC.region ?_
          first
          | (refine WL.val (OV.fieldAddr0 (off := 2) rfl T.u45 rfl) rfl ?_)
          | (refine WL.val (OV.fieldAddr (off := 2) rfl T.u45 rfl) rfl ?_)
          refine WL.val (OV.load1 rfl T.u22 rfl (fun _ hw => cell_own hw (.tail _ (.head _)) rfl)) rfl ?_
          refine WL.callF (it := fun q : Option Addr × Nat => row 5 1 q.1 (mb + 80) q.2 (u8s (roomL lb))) (by kernel_rfl) rfl rfl (fun w' hw => roomy_calls lb ab mb cb (by omega) w' (RB.satB hAB hw hbB hrb)) ?_
          rintro ⟨a48, c48⟩ _
          refine WL.know (fun w' hw => (RB.of_row hw (.head _)).2) (fun hc48 => ?_)
          refine WL.val (OV.assign rfl) rfl ?_
          refine WL.nil ?_
          refine WX.next ?_
          refine WC.seq ?_
          refine WC.drawnS (fun w' => w'.cell? ⟨bb8, 0, none⟩ = some (.pointer (some ⟨h.hb, 0, none⟩)) ∧ w'.cell? ⟨b3, 2, none⟩ = some (.slice ab mb cb)) (by kernel_rfl) (m := 8) rfl ?_
          first
          | (refine WH.take 0 rfl (by kernel_rfl) (by kernel_rfl) (by kernel_rfl) (fun _ hw => by first | exact ⟨cell_own hw (.tail _ (.head _)) rfl, cell_own hw (.tail _ (.tail _ (.head _))) rfl⟩ | exact ⟨cell_own hw (.tail _ (.tail _ (.head _))) rfl, cell_own hw (.tail _ (.tail _ (.tail _ (.head _)))) rfl⟩) (OV.fieldAddr0 (off := 0) rfl T.u48 rfl) rfl (listed' := [true, false, false, false, false, false, false, false]) rfl ?_)
          | (refine WH.take 0 rfl (by kernel_rfl) (by kernel_rfl) (by kernel_rfl) (fun _ hw => by first | exact ⟨cell_own hw (.tail _ (.head _)) rfl, cell_own hw (.tail _ (.tail _ (.head _))) rfl⟩ | exact ⟨cell_own hw (.tail _ (.tail _ (.head _))) rfl, cell_own hw (.tail _ (.tail _ (.tail _ (.head _)))) rfl⟩) (OV.fieldAddr (off := 0) rfl T.u48 rfl) rfl (listed' := [true, false, false, false, false, false, false, false]) rfl ?_)
          refine WH.take 1 rfl (by kernel_rfl) (by kernel_rfl) (by kernel_rfl) (fun _ hw => by first | exact ⟨cell_own hw (.tail _ (.head _)) rfl, cell_own hw (.tail _ (.tail _ (.head _))) rfl⟩ | exact ⟨cell_own hw (.tail _ (.tail _ (.head _))) rfl, cell_own hw (.tail _ (.tail _ (.tail _ (.head _)))) rfl⟩) (OV.load1 rfl T.u46 rfl (fun _ hw => hw.1)) rfl (listed' := [true, true, false, false, false, false, false, false]) rfl ?_
          refine WH.take 2 rfl (by kernel_rfl) (by kernel_rfl) (by kernel_rfl) (fun _ hw => by first | exact ⟨cell_own hw (.tail _ (.head _)) rfl, cell_own hw (.tail _ (.tail _ (.head _))) rfl⟩ | exact ⟨cell_own hw (.tail _ (.tail _ (.head _))) rfl, cell_own hw (.tail _ (.tail _ (.tail _ (.head _)))) rfl⟩) (OV.move rfl) rfl (listed' := [true, true, true, false, false, false, false, false]) rfl ?_
          first
          | (refine WH.take 3 rfl (by kernel_rfl) (by kernel_rfl) (by kernel_rfl) (fun _ hw => by first | exact ⟨cell_own hw (.tail _ (.head _)) rfl, cell_own hw (.tail _ (.tail _ (.head _))) rfl⟩ | exact ⟨cell_own hw (.tail _ (.tail _ (.head _))) rfl, cell_own hw (.tail _ (.tail _ (.tail _ (.head _)))) rfl⟩) (OV.fieldAddr0 (off := 2) rfl T.u45 rfl) rfl (listed' := [true, true, true, true, false, false, false, false]) rfl ?_)
          | (refine WH.take 3 rfl (by kernel_rfl) (by kernel_rfl) (by kernel_rfl) (fun _ hw => by first | exact ⟨cell_own hw (.tail _ (.head _)) rfl, cell_own hw (.tail _ (.tail _ (.head _))) rfl⟩ | exact ⟨cell_own hw (.tail _ (.tail _ (.head _))) rfl, cell_own hw (.tail _ (.tail _ (.tail _ (.head _)))) rfl⟩) (OV.fieldAddr (off := 2) rfl T.u45 rfl) rfl (listed' := [true, true, true, true, false, false, false, false]) rfl ?_)
          refine WH.take 4 rfl (by kernel_rfl) (by kernel_rfl) (by kernel_rfl) (fun _ hw => by first | exact ⟨cell_own hw (.tail _ (.head _)) rfl, cell_own hw (.tail _ (.tail _ (.head _))) rfl⟩ | exact ⟨cell_own hw (.tail _ (.tail _ (.head _))) rfl, cell_own hw (.tail _ (.tail _ (.tail _ (.head _)))) rfl⟩) (OV.load1 rfl T.u22 rfl (fun _ hw => hw.2)) rfl (listed' := [true, true, true, true, true, false, false, false]) rfl ?_
          first
          | (refine WH.take 5 rfl (by kernel_rfl) (by kernel_rfl) (by kernel_rfl) (fun _ hw => by first | exact ⟨cell_own hw (.tail _ (.head _)) rfl, cell_own hw (.tail _ (.tail _ (.head _))) rfl⟩ | exact ⟨cell_own hw (.tail _ (.tail _ (.head _))) rfl, cell_own hw (.tail _ (.tail _ (.tail _ (.head _)))) rfl⟩) (OV.lenSlice rfl T.u22) rfl (listed' := [true, true, true, true, true, true, false, false]) rfl ?_)
          | (refine WH.take 5 rfl (by kernel_rfl) (by kernel_rfl) (by kernel_rfl) (fun _ hw => by first | exact ⟨cell_own hw (.tail _ (.head _)) rfl, cell_own hw (.tail _ (.tail _ (.head _))) rfl⟩ | exact ⟨cell_own hw (.tail _ (.tail _ (.head _))) rfl, cell_own hw (.tail _ (.tail _ (.tail _ (.head _)))) rfl⟩) (OV.lenStr rfl T.u22) rfl (listed' := [true, true, true, true, true, true, false, false]) rfl ?_)
          refine WH.take 6 rfl (by kernel_rfl) (by kernel_rfl) (by kernel_rfl) (fun _ hw => by first | exact ⟨cell_own hw (.tail _ (.head _)) rfl, cell_own hw (.tail _ (.tail _ (.head _))) rfl⟩ | exact ⟨cell_own hw (.tail _ (.tail _ (.head _))) rfl, cell_own hw (.tail _ (.tail _ (.tail _ (.head _)))) rfl⟩) (OV.sliceTo rfl T.u22 T.z5 rfl (by omega)) rfl (listed' := [true, true, true, true, true, true, true, false]) rfl ?_
          refine WH.only 7 rfl (by kernel_rfl) (listed' := [true, true, true, true, true, true, true, true]) rfl ?_
          refine WL.focus perm3 (WL.callM (ι := List UInt8) (vv := fun _ => .tuple #[]) (pp := fun p' => HP (h.all ++ lb) p') (oo := fun p' => Obj.cells (HC (h.all ++ lb) p').toArray 71) (by kernel_rfl) rfl rfl (fun w' hw => (write_calls h.all h.part h.hb lb a48 mb c48 (by omega) (by have := hh.2; omega) w' hh.1 (RB.room (RB.of_row hw (.tail _ (.head _))).1 hrb.1) (fun q hq _ hqb => hw.apart (j := row 5 1 a48 (mb + 80) c48 (u8s (roomL lb))) (.head _) h.hb rfl ⟨q, hq, hqb⟩) (hw.it _ (.head _)) (by have := ge_of hAB hBw hw (.head _) (b := h.hb) rfl; omega) (hT.satB h4 hAB hw).dk).mono (fun _ _ ⟨x, h1, h2, h3, h4⟩ => ⟨x, h1, h2, h3, h4⟩)) ?_)
          intro p56 hp56
          refine WL.nil ?_
          refine WX.cont (fun _ hw => by first | exact ⟨cell_own hw (.tail _ (.head _)) rfl, cell_own hw (.tail _ (.tail _ (.head _))) rfl⟩ | exact ⟨cell_own hw (.tail _ (.tail _ (.head _))) rfl, cell_own hw (.tail _ (.tail _ (.tail _ (.head _)))) rfl⟩) ?_
          refine WH.done (by kernel_rfl) ?_
          refine WX.next ?_
          refine WC.seq ?_
          refine WC.seq ?_
          refine WC.region ?_
          refine WL.val (OV.move rfl) rfl ?_
          first
          | (refine WL.val (OV.fieldAddr0 (off := 2) rfl T.u45 rfl) rfl ?_)
          | (refine WL.val (OV.fieldAddr (off := 2) rfl T.u45 rfl) rfl ?_)
          refine WL.val (OV.load1 rfl T.u22 rfl (fun _ hw => cell_own hw (.tail _ (.tail _ (.tail _ (.head _)))) rfl)) rfl ?_
          refine WL.callF (it := fun q : Option Addr × Nat => row 5 1 q.1 (mb + 80) q.2 (u8s (roomL lb))) (by kernel_rfl) rfl rfl (fun w' hw => roomy_calls lb ab mb cb (by omega) w' (RB.satB hAB hw hbB hrb)) ?_
          rintro ⟨a60, c60⟩ _
          refine WL.call0 (v := .bool true) (by kernel_rfl) rfl rfl (fun w' hw => same_eq (roomL lb) (roomL lb) rfl a48 a60 (mb + 80) c48 (mb + 80) c60 (by omega) w' (RB.of_row hw (.tail _ (.tail _ (.head _)))).1 (RB.of_row hw (.head _)).1) ?_
          refine WL.val (OV.not rfl) rfl ?_
          refine WL.nil ?_
          refine WX.next ?_
          refine WC.condF rfl ?_
          refine WC.skip ?_
          refine WX.next ?_
          refine WC.seq ?_
          refine WC.seq ?_
          refine WC.region ?_
          refine WL.val (OV.assign rfl) rfl ?_
          refine WL.nil ?_
          refine WX.next ?_
          refine WC.block ?_
          refine WC.know (fun w' hw => (row_base hw (.tail _ (.tail _ (.head _)))).2) (fun hq9 => ?_)
          rcases hq9 with hq9 | ⟨b9, rfl, hcap9⟩
          · exfalso; omega
          refine WC.loop2 (fun (i : Nat) (xs : List Value) => [(0, .slice (some ⟨bL, 0, none⟩) (E1 ++ h :: E2).length cL), (3, .pointer (some ⟨b3, 0, none⟩)), (7, .int .i64 (E1.length : Int)), (9, .slice (some ⟨b9, 0, none⟩) (mb + 80 : Nat) c48), (10, .int .i64 (i : Int))])
              (fun i xs w' => (i ≤ mb + 80 ∧ xs.length = mb + 80) ∧ Sat w (DD (pairA (E1 ++ h :: E2) (some ⟨bL, 0, none⟩) cL)) (fun b => b < w.heap.size ∧ ¬ DD (pairA (E1 ++ h :: E2) (some ⟨bL, 0, none⟩) cL) b) w (row 5 1 (some ⟨b9, 0, none⟩) (mb + 80) c48 xs :: own h.hb (.cells (HC (h.all ++ lb) p56).toArray 71 (0, 0)) :: own b3 (.cells ([.int .i64 kind, .int .i64 hx, .slice ab mb cb] : List Value).toArray 45 (0, 0)) :: row 5 1 h.a h.all.length h.c (u8s h.all) :: row 48 2 (some ⟨bL, 0, none⟩) (E1 ++ h :: E2).length cL (cellsE (E1 ++ h :: E2)) :: RR E1 E2) w')
              (fun i _ => mb + 80 - i) 0 (u8s (roomL lb)) ⟨rfl, rfl, rfl, rfl, rfl, trivial⟩ (fun w' hw => ⟨⟨by omega, by rw [u8s_length, roomL_length, hrb.1]⟩, (hw.part (.cons _ (.cons_cons _ (.cons_cons _ (.cons _ (.refl _)))))).perm perm1⟩) ?_
          intro i xs
          refine WC.pure (fun hi => ?_)
          obtain ⟨hi, hxs⟩ := hi
          refine WC.seq ?_
          refine WC.seq ?_
          refine WC.region ?_
          refine WL.val (OV.move rfl) rfl ?_
          refine WL.val (OV.move rfl) rfl ?_
          first
          | (refine WL.val (OV.lenSlice rfl T.u22) rfl ?_)
          | (refine WL.val (OV.lenStr rfl T.u22) rfl ?_)
          refine WL.val (OV.lss rfl rfl) rfl ?_
          refine WL.nil ?_
          refine WX.next ?_
          refine WC.cond rfl (fun c67 => ?_) (fun c67 => ?_)
          · simp only [decide_eq_true_eq, decide_eq_false_iff_not, Bool.not_eq_true', Bool.not_eq_false'] at c67
            refine WC.skip ?_
            refine WX.next ?_
            refine WC.seq ?_
            refine WC.block ?_
            refine WC.region ?_
            refine WL.val (OV.move rfl) rfl ?_
            refine WL.val (OV.move rfl) rfl ?_
            refine WL.val (OV.indexSliceN (i := i) rfl rfl T.u22 T.z5 (by omega)) rfl ?_
            refine WL.storeRow (v := .int .u8 99) rfl rfl rfl rfl T.z5 (by omega) ?_
            refine WL.nil ?_
            refine WX.block_normal ?_
            refine WX.next ?_
            refine WC.region ?_
            refine WL.val (OV.move rfl) rfl ?_
            refine WL.val (OV.addN (j := 1) rfl rfl (by omega)) rfl ?_
            refine WL.val (OV.assign rfl) rfl ?_
            refine WL.nil ?_
            exact WX.round2 (i + 1) (xs.set i (.int .u8 99)) ⟨rfl, rfl, rfl, rfl, rfl, trivial⟩ (fun w' hw => ⟨⟨by omega, by rw [List.length_set]; omega⟩, hw⟩) (by show mb + 80 - (i + 1) < mb + 80 - i; omega)
          · simp only [decide_eq_true_eq, decide_eq_false_iff_not, Bool.not_eq_true', Bool.not_eq_false'] at c67
            refine WC.exit ?_
            refine WX.then_exit ?_
            refine WX.then_exit ?_
            refine WX.block_hit ?_
            refine WX.next ?_
            refine WC.barred (fun w' => w'.cell? ⟨bL, 2 * E1.length + 1, none⟩ = some (.slice h.a h.all.length h.c) ∧ w'.cell? ⟨b3, 2, none⟩ = some (.slice ab mb cb)) [9] (by kernel_rfl) (m := 13) rfl ?_
            refine WHB.free 0 rfl (by kernel_rfl) (by kernel_rfl) (by kernel_rfl) rfl (fun _ => (fun _ hw => ⟨(pair_cells hw (.tail _ (.tail _ (.tail _ (.tail _ (.head _)))))).2, cell_own hw (.tail _ (.tail _ (.head _))) rfl⟩)) (OV.move rfl) rfl (listed' := [true, false, false, false, false, false, false, false, false, false, false, false, false]) rfl ?_
            refine WHB.free 1 rfl (by kernel_rfl) (by kernel_rfl) (by kernel_rfl) rfl (fun _ => (fun _ hw => ⟨(pair_cells hw (.tail _ (.tail _ (.tail _ (.tail _ (.head _)))))).2, cell_own hw (.tail _ (.tail _ (.head _))) rfl⟩)) (OV.move rfl) rfl (listed' := [true, true, false, false, false, false, false, false, false, false, false, false, false]) rfl ?_
            refine WHB.free 2 rfl (by kernel_rfl) (by kernel_rfl) (by kernel_rfl) rfl (fun _ => (fun _ hw => ⟨(pair_cells hw (.tail _ (.tail _ (.tail _ (.tail _ (.head _)))))).2, cell_own hw (.tail _ (.tail _ (.head _))) rfl⟩)) (OV.move rfl) rfl (listed' := [true, true, true, false, false, false, false, false, false, false, false, false, false]) rfl ?_
            refine WHB.free 3 rfl (by kernel_rfl) (by kernel_rfl) (by kernel_rfl) rfl (fun _ => (fun _ hw => ⟨(pair_cells hw (.tail _ (.tail _ (.tail _ (.tail _ (.head _)))))).2, cell_own hw (.tail _ (.tail _ (.head _))) rfl⟩)) (OV.move rfl) rfl (listed' := [true, true, true, true, false, false, false, false, false, false, false, false, false]) rfl ?_
            refine WHB.free 4 rfl (by kernel_rfl) (by kernel_rfl) (by kernel_rfl) rfl (fun _ => (fun _ hw => ⟨(pair_cells hw (.tail _ (.tail _ (.tail _ (.tail _ (.head _)))))).2, cell_own hw (.tail _ (.tail _ (.head _))) rfl⟩)) ((OV.indexSlice rfl rfl T.u41 T.z48 (by omega)).cast (u := .pointer (some ⟨bL, 2 * E1.length, none⟩)) (by rw [add_off, Int.toNat_natCast, Nat.zero_add, Nat.mul_comm])) rfl (listed' := [true, true, true, true, true, false, false, false, false, false, false, false, false]) rfl ?_
            first
            | (refine WHB.free 5 rfl (by kernel_rfl) (by kernel_rfl) (by kernel_rfl) rfl (fun _ => (fun _ hw => ⟨(pair_cells hw (.tail _ (.tail _ (.tail _ (.tail _ (.head _)))))).2, cell_own hw (.tail _ (.tail _ (.head _))) rfl⟩)) (OV.fieldAddr0 (off := 1) rfl T.u48 rfl) rfl (listed' := [true, true, true, true, true, true, false, false, false, false, false, false, false]) rfl ?_)
            | (refine WHB.free 5 rfl (by kernel_rfl) (by kernel_rfl) (by kernel_rfl) rfl (fun _ => (fun _ hw => ⟨(pair_cells hw (.tail _ (.tail _ (.tail _ (.tail _ (.head _)))))).2, cell_own hw (.tail _ (.tail _ (.head _))) rfl⟩)) (OV.fieldAddr (off := 1) rfl T.u48 rfl) rfl (listed' := [true, true, true, true, true, true, false, false, false, false, false, false, false]) rfl ?_)
            refine WHB.take 6 rfl (by kernel_rfl) (by kernel_rfl) (by kernel_rfl) (by kernel_rfl) (fun _ hw => ⟨(pair_cells hw (.tail _ (.tail _ (.tail _ (.tail _ (.head _)))))).2, cell_own hw (.tail _ (.tail _ (.head _))) rfl⟩) (OV.load1 rfl T.u22 rfl (fun _ hw => hw.1)) rfl (listed' := [true, true, true, true, true, true, true, false, false, false, false, false, false]) rfl ?_
            first
            | (refine WHB.free 7 rfl (by kernel_rfl) (by kernel_rfl) (by kernel_rfl) rfl (fun _ => (fun _ hw => ⟨(pair_cells hw (.tail _ (.tail _ (.tail _ (.tail _ (.head _)))))).2, cell_own hw (.tail _ (.tail _ (.head _))) rfl⟩)) (OV.fieldAddr0 (off := 2) rfl T.u45 rfl) rfl (listed' := [true, true, true, true, true, true, true, true, false, false, false, false, false]) rfl ?_)
            | (refine WHB.free 7 rfl (by kernel_rfl) (by kernel_rfl) (by kernel_rfl) rfl (fun _ => (fun _ hw => ⟨(pair_cells hw (.tail _ (.tail _ (.tail _ (.tail _ (.head _)))))).2, cell_own hw (.tail _ (.tail _ (.head _))) rfl⟩)) (OV.fieldAddr (off := 2) rfl T.u45 rfl) rfl (listed' := [true, true, true, true, true, true, true, true, false, false, false, false, false]) rfl ?_)
            refine WHB.take 8 rfl (by kernel_rfl) (by kernel_rfl) (by kernel_rfl) (by kernel_rfl) (fun _ hw => ⟨(pair_cells hw (.tail _ (.tail _ (.tail _ (.tail _ (.head _)))))).2, cell_own hw (.tail _ (.tail _ (.head _))) rfl⟩) (OV.load1 rfl T.u22 rfl (fun _ hw => hw.2)) rfl (listed' := [true, true, true, true, true, true, true, true, true, false, false, false, false]) rfl ?_
            refine WHB.only 9 rfl (by kernel_rfl) (listed' := [true, true, true, true, true, true, true, true, true, true, false, false, false]) rfl (fl' := true) rfl ?_
            refine WL.focus perm3 (WL.append (bytes := 1) rfl rfl (by kernel_rfl) (fun _ hw => Src.of_rb hrb.1 hrb.2.1 (fun w' hw' => RB.satB hAB hw' hbB hrb)) (u8s_one _) (by have := hh.2; simp only [maxLen]; omega) rfl ?_)
            intro a82 c82
            rw [← u8s_append, show h.all.length + mb = (h.all ++ lb).length from by rw [List.length_append, hrb.1]]
            refine WL.nil ?_
            refine WX.contB (fun h => by cases h) ?_
            refine WHB.free 10 rfl (by kernel_rfl) (by kernel_rfl) (by kernel_rfl) rfl (fun h => by cases h) ((OV.indexSlice rfl rfl T.u41 T.z48 (by omega)).cast (u := .pointer (some ⟨bL, 2 * E1.length, none⟩)) (by rw [add_off, Int.toNat_natCast, Nat.zero_add, Nat.mul_comm])) rfl (listed' := [true, true, true, true, true, true, true, true, true, true, true, false, false]) rfl ?_
            first
            | (refine WHB.free 11 rfl (by kernel_rfl) (by kernel_rfl) (by kernel_rfl) rfl (fun h => by cases h) (OV.fieldAddr0 (off := 1) rfl T.u48 rfl) rfl (listed' := [true, true, true, true, true, true, true, true, true, true, true, true, false]) rfl ?_)
            | (refine WHB.free 11 rfl (by kernel_rfl) (by kernel_rfl) (by kernel_rfl) rfl (fun h => by cases h) (OV.fieldAddr (off := 1) rfl T.u48 rfl) rfl (listed' := [true, true, true, true, true, true, true, true, true, true, true, true, false]) rfl ?_)
            refine WHB.only 12 rfl (by kernel_rfl) (listed' := [true, true, true, true, true, true, true, true, true, true, true, true, true]) rfl (fl' := true) rfl ?_
            refine WL.focus perm4 (WL.storeRow rfl rfl rfl rfl T.z22 (by rw [cellsE_length]; omega) ?_)
            refine WL.nil ?_
            refine WX.contB (fun h => by cases h) ?_
            refine WHB.done (by kernel_rfl) ?_
            refine WX.block_normal ?_
            refine WX.next ?_
            refine WC.seq ?_
            refine WC.region ?_
            refine WL.val (OV.move rfl) rfl ?_
            refine WL.val (OV.assign rfl) rfl ?_
            refine WL.val (OV.assign rfl) rfl ?_
            refine WL.nil ?_
            refine WX.next ?_
            refine WC.ret ?_
            exact WX.ret2 rfl rfl rfl rfl (fun w' hw => ⟨(E1 ++ ⟨h.hb, h.all ++ lb, p56, a82, c82⟩ :: E2, some ⟨bL, 0, none⟩, cL), by simp, ⟨fun x hx => by
              rcases List.mem_append.1 hx with hx | hx
              · have := hE x (List.mem_append_left _ hx); exact ⟨this.1, by omega⟩
              · rcases List.mem_cons.1 hx with rfl | hx
                · exact ⟨hp56, by have := hh.2; have := hrb.1; simp only [List.length_append]; omega⟩
                · have := hE x (List.mem_append_right _ (.tail _ hx)); exact ⟨this.1, by omega⟩, by simp⟩,
              turnedW rfl (hw.part (.cons_cons _ (.cons_cons _ (.cons _ (.cons_cons _ (.cons _ (.refl _)))))))⟩)
        · simp only [decide_eq_true_eq, decide_eq_false_iff_not, Bool.not_eq_true', Bool.not_eq_false'] at c44
          refine WC.seq ?_
          refine WC.region ?_
          refine WL.val (OV.eql rfl rfl) rfl ?_
          refine WL.val (OV.assign rfl) rfl ?_
          refine WL.nil ?_
          refine WX.next ?_
          refine WC.cond rfl (fun c85 => ?_) (fun c85 => ?_)
          · simp only [decide_eq_true_eq, decide_eq_false_iff_not, Bool.not_eq_true', Bool.not_eq_false'] at c85
            refine WC.seq ?_
            refine WC.drawnS (fun w' => w'.cell? ⟨bb8, 0, none⟩ = some (.pointer (some ⟨h.hb, 0, none⟩)) ∧ w'.cell? ⟨bb8, 1, none⟩ = some (.slice h.a h.all.length h.c)) (by kernel_rfl) (m := 10) rfl ?_
            refine WH.take 0 rfl (by kernel_rfl) (by kernel_rfl) (by kernel_rfl) (fun _ hw => ⟨cell_own hw (.head _) rfl, cell_own hw (.head _) rfl⟩) (OV.move rfl) rfl (listed' := [true, false, false, false, false, false, false, false, false, false]) rfl ?_
            first
            | (refine WH.take 1 rfl (by kernel_rfl) (by kernel_rfl) (by kernel_rfl) (fun _ hw => ⟨cell_own hw (.head _) rfl, cell_own hw (.head _) rfl⟩) (OV.fieldAddr0 (off := 0) rfl T.u48 rfl) rfl (listed' := [true, true, false, false, false, false, false, false, false, false]) rfl ?_)
            | (refine WH.take 1 rfl (by kernel_rfl) (by kernel_rfl) (by kernel_rfl) (fun _ hw => ⟨cell_own hw (.head _) rfl, cell_own hw (.head _) rfl⟩) (OV.fieldAddr (off := 0) rfl T.u48 rfl) rfl (listed' := [true, true, false, false, false, false, false, false, false, false]) rfl ?_)
            refine WH.take 2 rfl (by kernel_rfl) (by kernel_rfl) (by kernel_rfl) (fun _ hw => ⟨cell_own hw (.head _) rfl, cell_own hw (.head _) rfl⟩) (OV.load1 rfl T.u46 rfl (fun _ hw => hw.1)) rfl (listed' := [true, true, true, false, false, false, false, false, false, false]) rfl ?_
            first
            | (refine WH.take 4 rfl (by kernel_rfl) (by kernel_rfl) (by kernel_rfl) (fun _ hw => ⟨cell_own hw (.head _) rfl, cell_own hw (.head _) rfl⟩) (OV.fieldAddr0 (off := 1) rfl T.u48 rfl) rfl (listed' := [true, true, true, false, true, false, false, false, false, false]) rfl ?_)
            | (refine WH.take 4 rfl (by kernel_rfl) (by kernel_rfl) (by kernel_rfl) (fun _ hw => ⟨cell_own hw (.head _) rfl, cell_own hw (.head _) rfl⟩) (OV.fieldAddr (off := 1) rfl T.u48 rfl) rfl (listed' := [true, true, true, false, true, false, false, false, false, false]) rfl ?_)
            refine WH.take 5 rfl (by kernel_rfl) (by kernel_rfl) (by kernel_rfl) (fun _ hw => ⟨cell_own hw (.head _) rfl, cell_own hw (.head _) rfl⟩) (OV.load1 rfl T.u22 rfl (fun _ hw => hw.2)) rfl (listed' := [true, true, true, false, true, true, false, false, false, false]) rfl ?_
            refine WH.only 3 rfl (by kernel_rfl) (listed' := [true, true, true, true, true, true, false, false, false, false]) rfl ?_
            refine WL.call0 (by kernel_rfl) rfl rfl (fun w' hw => hsum_calls h.all h.part h.hb (by have := hh.2; omega) w' hh.1 (hw.it _ (.tail _ (.tail _ (.head _)))) (hT.satB h4 hAB hw).dk) ?_
            refine WL.nil ?_
            refine WX.cont (fun _ hw => ⟨cell_own hw (.head _) rfl, cell_own hw (.head _) rfl⟩) ?_
            refine WH.only 6 rfl (by kernel_rfl) (listed' := [true, true, true, true, true, true, true, false, false, false]) rfl ?_
            refine WL.call0 (by kernel_rfl) rfl rfl (fun w' hw => refSum_calls h.all h.a h.all.length h.c (by have := hh.2; omega) w' (RB.of_row hw (.tail _ (.tail _ (.tail _ (.head _))))).1 (hT.satB h4 hAB hw).rf (hT.satB h4 hAB hw).rk) ?_
            refine WL.nil ?_
            refine WX.cont (fun _ hw => ⟨cell_own hw (.head _) rfl, cell_own hw (.head _) rfl⟩) ?_
            refine WH.take 7 rfl (by kernel_rfl) (by kernel_rfl) (by kernel_rfl) (fun _ hw => ⟨cell_own hw (.head _) rfl, cell_own hw (.head _) rfl⟩) ((OV.eqlA T.u25 T.u5 T.z5 (by kernel_rfl) rfl rfl (shaD_length _) (shaD_length _)).cast (u := .bool true) (by simp)) rfl (listed' := [true, true, true, true, true, true, true, true, false, false]) rfl ?_
            refine WH.take 8 rfl (by kernel_rfl) (by kernel_rfl) (by kernel_rfl) (fun _ hw => ⟨cell_own hw (.head _) rfl, cell_own hw (.head _) rfl⟩) (OV.assign rfl) rfl (listed' := [true, true, true, true, true, true, true, true, true, false]) rfl ?_
            refine WH.take 9 rfl (by kernel_rfl) (by kernel_rfl) (by kernel_rfl) (fun _ hw => ⟨cell_own hw (.head _) rfl, cell_own hw (.head _) rfl⟩) (OV.assign rfl) rfl (listed' := [true, true, true, true, true, true, true, true, true, true]) rfl ?_
            refine WH.done (by kernel_rfl) ?_
            refine WX.next ?_
            refine WC.ret ?_
            refine WX.block_ret ?_
            refine WX.then_ret ?_
            exact WX.ret2 rfl rfl rfl rfl (fun w' hw => ⟨(E1 ++ h :: E2, some ⟨bL, 0, none⟩, cL), rfl, ⟨hE.mono (by omega), Nat.le_succ _⟩, turnedS rfl (hw.part (.cons _ (.cons _ (.refl _))))⟩)
          · simp only [decide_eq_true_eq, decide_eq_false_iff_not, Bool.not_eq_true', Bool.not_eq_false'] at c85
            refine WC.seq ?_
            refine WC.region ?_
            refine WL.val (OV.eql rfl rfl) rfl ?_
            refine WL.val (OV.assign rfl) rfl ?_
            refine WL.nil ?_
            refine WX.next ?_
            refine WC.cond rfl (fun c95 => ?_) (fun c95 => ?_)
            · simp only [decide_eq_true_eq, decide_eq_false_iff_not, Bool.not_eq_true', Bool.not_eq_false'] at c95
              refine WC.seq ?_
              refine WC.drawnS (fun w' => w'.cell? ⟨bb8, 0, none⟩ = some (.pointer (some ⟨h.hb, 0, none⟩)) ∧ w'.cell? ⟨bb8, 1, none⟩ = some (.slice h.a h.all.length h.c)) (by kernel_rfl) (m := 10) rfl ?_
              refine WH.take 0 rfl (by kernel_rfl) (by kernel_rfl) (by kernel_rfl) (fun _ hw => ⟨cell_own hw (.head _) rfl, cell_own hw (.head _) rfl⟩) (OV.move rfl) rfl (listed' := [true, false, false, false, false, false, false, false, false, false]) rfl ?_
              first
              | (refine WH.take 1 rfl (by kernel_rfl) (by kernel_rfl) (by kernel_rfl) (fun _ hw => ⟨cell_own hw (.head _) rfl, cell_own hw (.head _) rfl⟩) (OV.fieldAddr0 (off := 0) rfl T.u48 rfl) rfl (listed' := [true, true, false, false, false, false, false, false, false, false]) rfl ?_)
              | (refine WH.take 1 rfl (by kernel_rfl) (by kernel_rfl) (by kernel_rfl) (fun _ hw => ⟨cell_own hw (.head _) rfl, cell_own hw (.head _) rfl⟩) (OV.fieldAddr (off := 0) rfl T.u48 rfl) rfl (listed' := [true, true, false, false, false, false, false, false, false, false]) rfl ?_)
              refine WH.take 2 rfl (by kernel_rfl) (by kernel_rfl) (by kernel_rfl) (fun _ hw => ⟨cell_own hw (.head _) rfl, cell_own hw (.head _) rfl⟩) (OV.load1 rfl T.u46 rfl (fun _ hw => hw.1)) rfl (listed' := [true, true, true, false, false, false, false, false, false, false]) rfl ?_
              first
              | (refine WH.take 4 rfl (by kernel_rfl) (by kernel_rfl) (by kernel_rfl) (fun _ hw => ⟨cell_own hw (.head _) rfl, cell_own hw (.head _) rfl⟩) (OV.fieldAddr0 (off := 1) rfl T.u48 rfl) rfl (listed' := [true, true, true, false, true, false, false, false, false, false]) rfl ?_)
              | (refine WH.take 4 rfl (by kernel_rfl) (by kernel_rfl) (by kernel_rfl) (fun _ hw => ⟨cell_own hw (.head _) rfl, cell_own hw (.head _) rfl⟩) (OV.fieldAddr (off := 1) rfl T.u48 rfl) rfl (listed' := [true, true, true, false, true, false, false, false, false, false]) rfl ?_)
              refine WH.take 5 rfl (by kernel_rfl) (by kernel_rfl) (by kernel_rfl) (fun _ hw => ⟨cell_own hw (.head _) rfl, cell_own hw (.head _) rfl⟩) (OV.load1 rfl T.u22 rfl (fun _ hw => hw.2)) rfl (listed' := [true, true, true, false, true, true, false, false, false, false]) rfl ?_
              first
              | (refine WH.take 6 rfl (by kernel_rfl) (by kernel_rfl) (by kernel_rfl) (fun _ hw => ⟨cell_own hw (.head _) rfl, cell_own hw (.head _) rfl⟩) (OV.lenSlice rfl T.u22) rfl (listed' := [true, true, true, false, true, true, true, false, false, false]) rfl ?_)
              | (refine WH.take 6 rfl (by kernel_rfl) (by kernel_rfl) (by kernel_rfl) (fun _ hw => ⟨cell_own hw (.head _) rfl, cell_own hw (.head _) rfl⟩) (OV.lenStr rfl T.u22) rfl (listed' := [true, true, true, false, true, true, true, false, false, false]) rfl ?_)
              refine WH.only 3 rfl (by kernel_rfl) (listed' := [true, true, true, true, true, true, true, false, false, false]) rfl ?_
              refine WL.call0 (by kernel_rfl) rfl rfl (fun w' hw => len_calls h.all h.part h.hb w' hh.1 (hw.it _ (.tail _ (.tail _ (.head _))))) ?_
              refine WL.nil ?_
              refine WX.cont (fun _ hw => ⟨cell_own hw (.head _) rfl, cell_own hw (.head _) rfl⟩) ?_
              refine WH.take 7 rfl (by kernel_rfl) (by kernel_rfl) (by kernel_rfl) (fun _ hw => ⟨cell_own hw (.head _) rfl, cell_own hw (.head _) rfl⟩) ((OV.eql rfl rfl).cast (u := .bool true) (by simp)) rfl (listed' := [true, true, true, true, true, true, true, true, false, false]) rfl ?_
              refine WH.take 8 rfl (by kernel_rfl) (by kernel_rfl) (by kernel_rfl) (fun _ hw => ⟨cell_own hw (.head _) rfl, cell_own hw (.head _) rfl⟩) (OV.assign rfl) rfl (listed' := [true, true, true, true, true, true, true, true, true, false]) rfl ?_
              refine WH.take 9 rfl (by kernel_rfl) (by kernel_rfl) (by kernel_rfl) (fun _ hw => ⟨cell_own hw (.head _) rfl, cell_own hw (.head _) rfl⟩) (OV.assign rfl) rfl (listed' := [true, true, true, true, true, true, true, true, true, true]) rfl ?_
              refine WH.done (by kernel_rfl) ?_
              refine WX.next ?_
              refine WC.ret ?_
              refine WX.block_ret ?_
              refine WX.then_ret ?_
              exact WX.ret2 rfl rfl rfl rfl (fun w' hw => ⟨(E1 ++ h :: E2, some ⟨bL, 0, none⟩, cL), rfl, ⟨hE.mono (by omega), Nat.le_succ _⟩, turnedS rfl (hw.part (.cons _ (.cons _ (.refl _))))⟩)
            · simp only [decide_eq_true_eq, decide_eq_false_iff_not, Bool.not_eq_true', Bool.not_eq_false'] at c95
              refine WC.seq ?_
              refine WC.region ?_
              refine WL.val (OV.eql rfl rfl) rfl ?_
              refine WL.val (OV.assign rfl) rfl ?_
              refine WL.nil ?_
              refine WX.next ?_
              refine WC.cond rfl (fun c105 => ?_) (fun c105 => ?_)
              · simp only [decide_eq_true_eq, decide_eq_false_iff_not, Bool.not_eq_true', Bool.not_eq_false'] at c105
                refine WC.seq ?_
                refine WC.region ?_
                first
                | (refine WL.val (OV.fieldAddr0 (off := 0) rfl T.u48 rfl) rfl ?_)
                | (refine WL.val (OV.fieldAddr (off := 0) rfl T.u48 rfl) rfl ?_)
                refine WL.val (OV.load1 rfl T.u46 rfl (fun _ hw => cell_own hw (.head _) rfl)) rfl ?_
                refine WL.callF (it := fun b => own b (.cells (HC h.all h.part).toArray 71 (0, 0))) (by kernel_rfl) rfl rfl (fun w' hw => copy_calls h.all h.part h.hb w' hh.1 (hw.it _ (.tail _ (.tail _ (.head _))))) ?_
                intro b109 _
                refine WL.val (OV.assign rfl) rfl ?_
                refine WL.nil ?_
                refine WX.next ?_
                refine WC.seq ?_
                refine WC.region ?_
                refine WL.val (OV.assign rfl) rfl ?_
                refine WL.nil ?_
                refine WX.next ?_
                refine WC.seq ?_
                refine WC.region ?_
                refine WL.val (OV.move rfl) rfl ?_
                first
                | (refine WL.val (OV.fieldAddr0 (off := 1) rfl T.u48 rfl) rfl ?_)
                | (refine WL.val (OV.fieldAddr (off := 1) rfl T.u48 rfl) rfl ?_)
                refine WL.val (OV.load1 rfl T.u22 rfl (fun _ hw => cell_own hw (.tail _ (.head _)) rfl)) rfl ?_
                refine WL.nilRow 5 ?_
                refine WL.append (bytes := 1) rfl rfl (by kernel_rfl) (fun _ hw => row_src (.tail _ (.tail _ (.tail _ (.tail _ (.tail _ (.head _)))))) hw) (u8s_one _) (by have := hh.2; simp only [maxLen]; omega) rfl ?_
                intro a113 c113
                rw [List.nil_append, Nat.zero_add]
                refine WL.val (OV.assign rfl) rfl ?_
                refine WL.nil ?_
                refine WX.next ?_
                refine WC.seq ?_
                refine WC.region ?_
                refine WL.val (OV.move rfl) rfl ?_
                refine WL.val (OV.move rfl) rfl ?_
                refine WL.val (OV.move rfl) rfl ?_
                refine WL.val (OV.buildStruct (xs := [(0, .tmp 115), (1, .tmp 116)]) (pl := [(0, 1), (1, 1)]) (cs := [.pointer (some ⟨b109, 0, none⟩), .slice a113 h.all.length c113]) T.u48 T.zr48 (by kernel_rfl) rfl (fill_pair (P := Tryd.prog) rfl rfl rfl)) rfl ?_
                refine WL.buildSliceA T.u41 T.z48 T.zr48 rfl rfl (by decide) (by decide) rfl ?_
                intro bl118
                refine WL.focus perm7 (WL.append (bytes := 32) rfl rfl (by kernel_rfl) (fun _ hw => own_srcN (.tail _ (.head _)) rfl) (by intro u hu; simp only [List.mem_cons, List.not_mem_nil, or_false] at hu; rcases hu with rfl | rfl <;> rfl) (by simp only [maxLen]; omega) rfl ?_)
                intro a119 c119
                refine WL.val (OV.move rfl) rfl ?_
                refine WL.val (OV.neqNil T.u46 rfl rfl) rfl ?_
                refine WL.val (OV.assign rfl) rfl ?_
                refine WL.val (OV.assign rfl) rfl ?_
                refine WL.nil ?_
                refine WX.next ?_
                refine WC.ret ?_
                refine WX.block_ret ?_
                refine WX.then_ret ?_
                exact WX.ret2 rfl rfl rfl rfl (fun w' hw => ⟨((E1 ++ h :: E2) ++ [⟨b109, h.all, h.part, a113, c113⟩], a119, c119), by simp only [List.length_append, List.length_cons, List.length_nil]; rfl, ⟨fun x hx => by
                  rcases List.mem_append.1 hx with hx | hx
                  · exact ⟨(hE x hx).1, by have := (hE x hx).2; omega⟩
                  · simp only [List.mem_singleton] at hx
                    subst hx
                    exact ⟨hh.1, by have := hh.2; simp only; omega⟩, by rw [List.length_append]; simp⟩, by
                  have h1 := hw.part (.cons_cons _ (.cons _ (.cons_cons _ (.cons_cons _ (.cons _ (.cons _ (.refl _)))))))
                  exact turnedN ⟨b109, h.all, h.part, a113, c113⟩ rfl ((h1.perm perm1).perm (.cons _ (.cons _ (.cons _ (permFE E1 E2 h).symm))))⟩)
              · simp only [decide_eq_true_eq, decide_eq_false_iff_not, Bool.not_eq_true', Bool.not_eq_false'] at c105
                refine WC.skip ?_
                refine WX.block_normal ?_
                refine WX.next ?_
                refine WC.seq ?_
                refine WC.region ?_
                refine WL.val (OV.move rfl) rfl ?_
                refine WL.val (OV.assign rfl) rfl ?_
                refine WL.val (OV.assign rfl) rfl ?_
                refine WL.nil ?_
                refine WX.next ?_
                refine WC.ret ?_
                exact WX.ret2 rfl rfl rfl rfl (fun w' hw => ⟨(E1 ++ h :: E2, some ⟨bL, 0, none⟩, cL), rfl, ⟨hE.mono (by omega), Nat.le_succ _⟩, turnedS rfl (hw.part (.cons _ (.cons _ (.refl _))))⟩)

end Go.Proofs.YtplebagdajdcnaaDoor
