/- Contracts of functions of the program: what each returns and leaves in memory. Printed by gen.py and walk.py. -/
import Derived.Test.YtplebagdajdcnaaDoorS3
namespace Go.Proofs.YtplebagdajdcnaaDoor
open Go Go.Hw
set_option linter.unusedSimpArgs false
set_option linter.unusedVariables false
theorem turn_calls' (H : List UInt32) (part : List UInt8) (x : Value) (hb : Nat) (hH : H.length = 8) (hp : part.length = 64) (w : World) (hc : w.heap[hb]? = some (.cells (w32s H ++ (u8s part ++ [x])).toArray 71 (0, 0))) (hne : hb ≠ 3) (hK : Tab w 3 kW) :
    Calls Tryd.prog 38 #[.pointer (some ⟨hb, 0, none⟩), .slice (some ⟨hb, 8, none⟩) 64 64] w fun e w' => e = .returned (.tuple #[]) ∧ Fr (fun i => i = hb) w w' ∧ w'.heap[hb]? = some (.cells (w32s (turnL H part) ++ (u8s part ++ [x])).toArray 71 (0, 0)) := by
  have h := turn_calls (S8.ofL H) part x hb hp w (by rw [ofL_toL hH]; exact hc) hne hK
  rw [ofL_toL hH] at h
  exact h
def HX (H : List UInt32) (part : List UInt8) (n : Nat) : List Value := w32s H ++ (u8s part ++ [.int .i64 (n : Int)])
theorem WL.calm {P : Program} {ops : Array Oper} {Q : Post} {n : Nat} {ds : List Deferred} {e : Env} {S S' : World → Prop} {l : List Oper} (h : ∀ w, S w → S' w) (k : WL P ops Q n ds e S' l) : WL P ops Q n ds e S l := k.weak h

set_option maxRecDepth 10000 in
theorem write_calls (all part : List UInt8) (hb : Nat) (l : List UInt8) (a : Option Addr) (m c : Nat) (hm : m ≤ c) (hsz : all.length + m < 1152921504606846976) (w : World) (hP : HP all part) (hl : RB w a m l) (hbl : ∀ q, a = some q → 0 < m → q.block ≠ hb) (hc : w.heap[hb]? = some (.cells (HC all part).toArray 71 (0, 0))) (hne : hb ≠ 3) (hK : Tab w 3 kW) : Calls Tryd.prog 30 #[.pointer (some ⟨hb, 0, none⟩), .slice a m c] w fun e w' => ∃ part' : List UInt8, e = .returned (.tuple #[]) ∧ HP (all ++ l) part' ∧ Fr (fun i => i = hb) w w' ∧ w'.heap[hb]? = some (.cells (HC (all ++ l) part').toArray 71 (0, 0)) := by
  refine enterOwn hc (args := [.pointer (some ⟨hb, 0, none⟩), .slice a m c]) Tryd.func30 rfl Tryd.ntmps30 rfl rfl ?_
  refine WC.block ?_
  have hlm : l.length = m := hl.1
  refine WC.loop4 (fun (k : Nat) (a' : Option Addr) (c' : Nat) (p' : List UInt8) => [(0, .pointer (some ⟨hb, 0, none⟩)), (1, .slice a' (m - k : Nat) c')])
      (fun k a' c' p' w' => (k ≤ m ∧ m - k ≤ c' ∧ RB w a' (m - k) (l.drop k) ∧ (∀ q, a' = some q → 0 < m - k → q.block ≠ hb) ∧ HP (all ++ l.take k) p') ∧ Sat w (fun i => i = hb) (fun i => i < w.heap.size ∧ i ≠ hb) w [own hb (.cells (HC (all ++ l.take k) p').toArray 71 (0, 0))] w')
      (fun k _ _ _ => m - k) 0 a c part ⟨rfl, rfl, trivial⟩ (fun w' hw => ⟨⟨by omega, hm, hl, hbl, by simpa using hP⟩, by simpa using hw⟩) ?_
  intro k a' c' p'
  refine WC.pure (fun hR => ?_)
  obtain ⟨hk, hkc, hRB, hab, hPP⟩ := hR
  have hlk : (all ++ l.take k).length = all.length + k := by simp; omega
  have hH8 : (foldB h0W (all ++ l.take k) ((all ++ l.take k).length / 64)).length = 8 := foldB_length _ _ _
  have hp64 := hPP.1
  obtain ⟨A, hA⟩ : ∃ A, A = all ++ l.take k := ⟨_, rfl⟩
  rw [← hA] at hlk hH8 hPP ⊢
  obtain ⟨j, hj⟩ : ∃ j, j = min (m - k) (64 - A.length % 64) := ⟨_, rfl⟩
  obtain ⟨ch, hch⟩ : ∃ ch, ch = (l.drop k).take j := ⟨_, rfl⟩
  have hcl : ch.length = j := by rw [hch]; simp; omega
  have hA' : A ++ ch = all ++ l.take (k + j) := by
    rw [hA, hch, List.append_assoc, List.take_add]
  refine WC.seq ?_
  refine WC.seq ?_
  refine WC.region ?_
  refine WL.val (OV.move rfl) rfl ?_
  first
  | (refine WL.val (OV.lenSlice rfl T.u22) rfl ?_)
  | (refine WL.val (OV.lenStr rfl T.u22) rfl ?_)
  refine WL.val (OV.gtr rfl rfl) rfl ?_
  refine WL.nil ?_
  refine WX.next ?_
  refine WC.cond rfl (fun c8 => ?_) (fun c8 => ?_)
  · simp only [decide_eq_true_eq, decide_eq_false_iff_not, Bool.not_eq_true', Bool.not_eq_false'] at c8
    refine WC.skip ?_
    refine WX.next ?_
    refine WC.block ?_
    refine WC.seq ?_
    refine WC.region ?_
    refine WL.val (OV.move rfl) rfl ?_
    refine WL.val (OV.nilCheck rfl) rfl ?_
    first
    | (refine WL.val (OV.fieldAddr0 (off := 72) rfl T.u71 rfl) rfl ?_)
    | (refine WL.val (OV.fieldAddr (off := 72) rfl T.u71 rfl) rfl ?_)
    refine WL.val (OV.load1 rfl T.u3 rfl (fun _ hw => cell_own hw (.head _) (hc_n hH8 hp64))) rfl ?_
    refine WL.val (OV.remNat (j := 64) rfl rfl (by omega)) rfl ?_
    refine WL.val (OV.assign rfl) rfl ?_
    refine WL.nil ?_
    refine WX.next ?_
    refine WC.seq ?_
    refine WC.region ?_
    refine WL.val (OV.move rfl) rfl ?_
    refine WL.val (OV.nilCheck rfl) rfl ?_
    first
    | (refine WL.val (OV.fieldAddr0 (off := 8) rfl T.u71 rfl) rfl ?_)
    | (refine WL.val (OV.fieldAddr (off := 8) rfl T.u71 rfl) rfl ?_)
    refine WL.val (OV.move rfl) rfl ?_
    refine WL.val (OV.sliceArrFrom rfl T.u65 T.z5 rfl (by omega)) rfl ?_
    refine WL.val (OV.move rfl) rfl ?_
    refine WL.copy rfl rfl T.u22 T.z5 (fun _ _ => hRB.srcO hab) (u8s_one _) (by rw [HC, hc_length hH8 hp64]; omega) rfl ?_
    rw [← hj, ← u8s_take, ← hch, HC]
    rw [show 8 + A.length % 64 + j = 8 + A.length % 64 + ch.length from by omega, hc_copy hH8 hp64 (by omega)]
    refine WL.val (OV.assign rfl) rfl ?_
    refine WL.nil ?_
    refine WX.next ?_
    refine WC.seq ?_
    refine WC.region ?_
    refine WL.val (OV.move rfl) rfl ?_
    refine WL.val (OV.move rfl) rfl ?_
    refine WL.val (OV.sliceSl (ml := some j) (mh := none) (l := j) (h := m - k) rfl T.u22 T.z5 rfl rfl rfl rfl (by omega)) rfl ?_
    refine WL.val (OV.assign rfl) rfl ?_
    refine WL.nil ?_
    refine WX.next ?_
    refine WC.seq ?_
    refine WC.region ?_
    refine WL.val (OV.move rfl) rfl ?_
    refine WL.val (OV.nilCheck rfl) rfl ?_
    first
    | (refine WL.val (OV.fieldAddr0 (off := 72) rfl T.u71 rfl) rfl ?_)
    | (refine WL.val (OV.fieldAddr (off := 72) rfl T.u71 rfl) rfl ?_)
    refine WL.val (OV.load1 rfl T.u3 rfl (fun _ hw => cell_own hw (.head _) (hc_n hH8 (putP_length hp64 (by omega))))) rfl ?_
    refine WL.val (OV.move rfl) rfl ?_
    refine WL.val (OV.addN rfl rfl (by omega)) rfl ?_
    refine WL.val (OV.nilCheck rfl) rfl ?_
    first
    | (refine WL.val (OV.fieldAddr0 (off := 72) rfl T.u71 rfl) rfl ?_)
    | (refine WL.val (OV.fieldAddr (off := 72) rfl T.u71 rfl) rfl ?_)
    refine WL.store1 rfl rfl rfl T.z3 (by rw [hc_length hH8 (putP_length hp64 (by omega))]; omega) ?_
    rw [hc_set hH8 (putP_length hp64 (by omega))]
    rw [show ((A.length + j : Nat) : Int) = ((A ++ ch).length : Int) from by simp [hcl]]
    refine WL.nil ?_
    refine WX.next ?_
    refine WC.seq ?_
    refine WC.region ?_
    refine WL.val (OV.move rfl) rfl ?_
    refine WL.val (OV.nilCheck rfl) rfl ?_
    first
    | (refine WL.val (OV.fieldAddr0 (off := 72) rfl T.u71 rfl) rfl ?_)
    | (refine WL.val (OV.fieldAddr (off := 72) rfl T.u71 rfl) rfl ?_)
    refine WL.val (OV.load1 rfl T.u3 rfl (fun _ hw => cell_own hw (.head _) (hc_n hH8 (putP_length hp64 (by omega))))) rfl ?_
    refine WL.val (OV.remNat (j := 64) rfl rfl (by omega)) rfl ?_
    refine WL.val (OV.eql rfl rfl) rfl ?_
    refine WL.nil ?_
    refine WX.next ?_
    refine WC.cond rfl (fun c37 => ?_) (fun c37 => ?_)
    · simp only [decide_eq_true_eq, decide_eq_false_iff_not, Bool.not_eq_true', Bool.not_eq_false'] at c37
      refine WC.tail 7 (by kernel_rfl) (by kernel_rfl) ?_
      refine WS.val (OV.move rfl) rfl ?_
      refine WS.val (OV.nilCheck rfl) rfl ?_
      first
      | (refine WS.val (OV.fieldAddr0 (off := 0) rfl T.u71 rfl) rfl ?_)
      | (refine WS.val (OV.fieldAddr (off := 0) rfl T.u71 rfl) rfl ?_)
      refine WS.val (OV.move rfl) rfl ?_
      refine WS.val (OV.nilCheck rfl) rfl ?_
      first
      | (refine WS.val (OV.fieldAddr0 (off := 8) rfl T.u71 rfl) rfl ?_)
      | (refine WS.val (OV.fieldAddr (off := 8) rfl T.u71 rfl) rfl ?_)
      refine WS.val (OV.sliceArrAll rfl T.u65 T.z5) rfl ?_
      refine WS.nil ?_
      refine WL.callM (ι := Unit) (vv := fun _ => .tuple #[]) (pp := fun _ => True) (oo := fun _ => Obj.cells (HX (turnL (foldB h0W A (A.length / 64)) (putP p' ch (A.length % 64))) (putP p' ch (A.length % 64)) (A ++ ch).length).toArray 71 (0, 0)) (by kernel_rfl) rfl rfl (fun w' hw => (turn_calls' _ (putP p' ch (A.length % 64)) _ hb hH8 (putP_length hp64 (by omega)) w' (hw.it _ (.head _)) hne (hK.satO hw hne)).mono (fun _ _ ⟨h1, h2, h3⟩ => ⟨(), h1, trivial, h2, h3⟩)) ?_
      intro _ _
      refine WL.nil ?_
      refine WX.block_normal ?_
      have hfull : A.length % 64 + ch.length = 64 := by
        have h1 : (A ++ ch).length = A.length + j := by simp [hcl]
        omega
      exact WX.round4 (k + j) _ (c' - j) (putP p' ch (A.length % 64)) ⟨rfl, by rw [show m - (k + j) = m - k - j from by omega]; rfl, trivial⟩ (fun w' hw => by
        rw [← hA']
        refine ⟨⟨by omega, by omega, ?_, ?_, (hPP.full hfull).1⟩, ?_⟩
        · have := rb_next hRB (show j ≤ m - k by omega) hkc
          rw [List.drop_drop, show m - k - j = m - (k + j) from by omega] at this
          exact this
        · intro q hq h0
          obtain ⟨q', hq', e⟩ := part_block hq
          rw [← e]
          exact hab q' hq' (by omega)
        · rw [HC, (hPP.full hfull).2]
          exact hw) (by show m - (k + j) < m - k; omega)
    · simp only [decide_eq_true_eq, decide_eq_false_iff_not, Bool.not_eq_true', Bool.not_eq_false'] at c37
      refine WC.skip ?_
      refine WX.block_normal ?_
      have hmore : A.length % 64 + ch.length < 64 := by
        have h1 : (A ++ ch).length = A.length + j := by simp [hcl]
        omega
      exact WX.round4 (k + j) _ (c' - j) (putP p' ch (A.length % 64)) ⟨rfl, by rw [show m - (k + j) = m - k - j from by omega]; rfl, trivial⟩ (fun w' hw => by
        rw [← hA']
        refine ⟨⟨by omega, by omega, ?_, ?_, (hPP.more hmore).1⟩, ?_⟩
        · have := rb_next hRB (show j ≤ m - k by omega) hkc
          rw [List.drop_drop, show m - k - j = m - (k + j) from by omega] at this
          exact this
        · intro q hq h0
          obtain ⟨q', hq', e⟩ := part_block hq
          rw [← e]
          exact hab q' hq' (by omega)
        · rw [HC, (hPP.more hmore).2]
          exact hw) (by show m - (k + j) < m - k; omega)
  · simp only [decide_eq_true_eq, decide_eq_false_iff_not, Bool.not_eq_true', Bool.not_eq_false'] at c8
    refine WC.exit ?_
    refine WX.then_exit ?_
    refine WX.then_exit ?_
    refine WX.block_hit ?_
    have hkm : k = m := by omega
    subst hkm
    rw [List.take_of_length_le (by omega)] at hA
    subst hA
    exact WX.ret0 rfl rfl (fun w' hw => ⟨p', rfl, hPP, hw.fr, hw.it _ (.head _)⟩)

end Go.Proofs.YtplebagdajdcnaaDoor
