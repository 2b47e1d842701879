/- Contracts of functions of the program: what each returns and leaves in memory. Printed by gen.py and walk.py. -/
import Derived.Test.YtplebagdajdcnaaDoorS10
namespace Go.Proofs.YtplebagdajdcnaaDoor
open Go Go.Hw
set_option linter.unusedSimpArgs false
set_option linter.unusedVariables false
def roomP (k : Nat) : List UInt8 := (List.range k).map fun j => UInt8.ofNat (201 + j % 50)
theorem roomP_succ (k : Nat) : roomP k ++ [UInt8.ofNat (201 + k % 50)] = roomP (k + 1) := by simp [roomP, List.range_succ]
theorem roomP_length (k : Nat) : (roomP k).length = k := by simp [roomP]
def roomL (l : List UInt8) : List UInt8 := l ++ roomP 80
theorem roomL_length (l : List UInt8) : (roomL l).length = l.length + 80 := by simp [roomL, roomP_length]

set_option maxRecDepth 10000 in
theorem same_calls (l1 l2 : List UInt8) (a1 a2 : Option Addr) (m1 c1 m2 c2 : Nat) (hsz : m1 < 4611686018427387904 ∧ m2 < 4611686018427387904) (w : World) (h1 : RB w a1 m1 l1) (h2 : RB w a2 m2 l2) : Calls Tryd.prog 14 #[.slice a1 m1 c1, .slice a2 m2 c2] w fun e w' => e = .returned (.bool (decide (l1 = l2))) ∧ Fr0 w w' := by
  refine enterS (args := [.slice a1 m1 c1, .slice a2 m2 c2]) (fun _ => False) Tryd.func14 rfl Tryd.ntmps14 rfl rfl ?_
  refine WC.seq ?_
  refine WC.region ?_
  refine WL.val (OV.assign rfl) rfl ?_
  refine WL.nil ?_
  refine WX.next ?_
  refine WC.seq ?_
  refine WC.seq ?_
  refine WC.region ?_
  refine WL.val (OV.move rfl) rfl ?_
  first
  | (refine WL.val (OV.lenSlice rfl T.u22) rfl ?_)
  | (refine WL.val (OV.lenStr rfl T.u22) rfl ?_)
  refine WL.val (OV.move rfl) rfl ?_
  first
  | (refine WL.val (OV.lenSlice rfl T.u22) rfl ?_)
  | (refine WL.val (OV.lenStr rfl T.u22) rfl ?_)
  refine WL.val (OV.neq rfl rfl) rfl ?_
  refine WL.nil ?_
  refine WX.next ?_
  refine WC.cond rfl (fun c10 => ?_) (fun c10 => ?_)
  · simp only [decide_eq_true_eq, decide_eq_false_iff_not, Bool.not_eq_true', Bool.not_eq_false'] at c10
    refine WC.seq ?_
    refine WC.region ?_
    refine WL.val (OV.assign rfl) rfl ?_
    refine WL.nil ?_
    refine WX.next ?_
    refine WC.ret ?_
    refine WX.then_ret ?_
    exact WX.ret1 rfl rfl rfl (fun w' hw => ⟨by rw [decide_eq_false (fun h => by subst h; have := h1.1; have := h2.1; omega)], hw.fr⟩)
  · simp only [decide_eq_true_eq, decide_eq_false_iff_not, Bool.not_eq_true', Bool.not_eq_false'] at c10
    refine WC.skip ?_
    refine WX.next ?_
    refine WC.seq ?_
    refine WC.seq ?_
    refine WC.region ?_
    refine WL.val (OV.assign rfl) rfl ?_
    refine WL.nil ?_
    refine WX.next ?_
    refine WC.block ?_
    have hm : m1 = m2 := by omega
    subst hm
    have hl1 := h1.1
    have hl2 := h2.1
    refine WC.loop1 (fun (i : Nat) => [(0, .slice a1 m1 c1), (1, .slice a2 m1 c2), (5, .int .i64 (i : Int))])
        (fun i w' => (i ≤ m1 ∧ l1.take i = l2.take i) ∧ Sat w (fun _ => False) (fun b => b < w.heap.size) w [] w')
        (fun i => m1 - i) 0 ⟨rfl, rfl, rfl, trivial⟩ (fun w' hw => ⟨⟨by omega, rfl⟩, hw⟩) ?_
    intro i
    refine WC.pure (fun hi => ?_)
    refine WC.seq ?_
    refine WC.seq ?_
    refine WC.region ?_
    refine WL.val (OV.move rfl) rfl ?_
    refine WL.val (OV.move rfl) rfl ?_
    first
    | (refine WL.val (OV.lenSlice rfl T.u22) rfl ?_)
    | (refine WL.val (OV.lenStr rfl T.u22) rfl ?_)
    refine WL.val (OV.lss rfl rfl) rfl ?_
    refine WL.nil ?_
    refine WX.next ?_
    refine WC.cond rfl (fun c14 => ?_) (fun c14 => ?_)
    · simp only [decide_eq_true_eq, decide_eq_false_iff_not, Bool.not_eq_true', Bool.not_eq_false'] at c14
      refine WC.skip ?_
      refine WX.next ?_
      refine WC.seq ?_
      refine WC.block ?_
      refine WC.seq ?_
      refine WC.quietS (by kernel_rfl) (m := 9) rfl ?_
      refine WH.take 0 rfl (by kernel_rfl) (by kernel_rfl) (by kernel_rfl) (fun _ h => h) (OV.move rfl) rfl (listed' := [true, false, false, false, false, false, false, false, false]) rfl ?_
      refine WH.take 1 rfl (by kernel_rfl) (by kernel_rfl) (by kernel_rfl) (fun _ h => h) (OV.move rfl) rfl (listed' := [true, true, false, false, false, false, false, false, false]) rfl ?_
      have hs1 : ∃ q, a1 = some q := by
        cases a1 with
        | none => have := h1.2.1 rfl; omega
        | some q => exact ⟨q, rfl⟩
      obtain ⟨q1, rfl⟩ := hs1
      have hs2 : ∃ q, a2 = some q := by
        cases a2 with
        | none => have := h2.2.1 rfl; omega
        | some q => exact ⟨q, rfl⟩
      obtain ⟨q2, rfl⟩ := hs2
      refine WH.take 2 rfl (by kernel_rfl) (by kernel_rfl) (by kernel_rfl) (fun _ h => h) (OV.indexSliceA (i := i) rfl rfl T.u22 T.z5 (by omega)) rfl (listed' := [true, true, true, false, false, false, false, false, false]) rfl ?_
      refine WH.take 3 rfl (by kernel_rfl) (by kernel_rfl) (by kernel_rfl) (fun _ h => h) (OV.load1 rfl T.u5 rfl (fun _ hw => snapL hw (h1.cell (by omega)))) rfl (listed' := [true, true, true, true, false, false, false, false, false]) rfl ?_
      refine WH.take 4 rfl (by kernel_rfl) (by kernel_rfl) (by kernel_rfl) (fun _ h => h) (OV.move rfl) rfl (listed' := [true, true, true, true, true, false, false, false, false]) rfl ?_
      refine WH.take 5 rfl (by kernel_rfl) (by kernel_rfl) (by kernel_rfl) (fun _ h => h) (OV.move rfl) rfl (listed' := [true, true, true, true, true, true, false, false, false]) rfl ?_
      refine WH.take 6 rfl (by kernel_rfl) (by kernel_rfl) (by kernel_rfl) (fun _ h => h) (OV.indexSliceA (i := i) rfl rfl T.u22 T.z5 (by omega)) rfl (listed' := [true, true, true, true, true, true, true, false, false]) rfl ?_
      refine WH.take 7 rfl (by kernel_rfl) (by kernel_rfl) (by kernel_rfl) (fun _ h => h) (OV.load1 rfl T.u5 rfl (fun _ hw => snapL hw (h2.cell (by omega)))) rfl (listed' := [true, true, true, true, true, true, true, true, false]) rfl ?_
      refine WH.take 8 rfl (by kernel_rfl) (by kernel_rfl) (by kernel_rfl) (fun _ h => h) (OV.neq rfl rfl) rfl (listed' := [true, true, true, true, true, true, true, true, true]) rfl ?_
      refine WH.done (by kernel_rfl) ?_
      refine WX.next ?_
      refine WC.cond rfl (fun c25 => ?_) (fun c25 => ?_)
      · simp only [decide_eq_true_eq, decide_eq_false_iff_not, Bool.not_eq_true', Bool.not_eq_false'] at c25
        refine WC.seq ?_
        refine WC.region ?_
        refine WL.val (OV.assign rfl) rfl ?_
        refine WL.nil ?_
        refine WX.next ?_
        refine WC.ret ?_
        refine WX.block_ret ?_
        refine WX.then_ret ?_
        refine WX.then_ret ?_
        refine WX.block_ret ?_
        refine WX.then_ret ?_
        exact WX.ret1 rfl rfl rfl (fun w' hw => ⟨by rw [decide_eq_false (fun h => by subst h; omega)], hw.fr⟩)
      · simp only [decide_eq_true_eq, decide_eq_false_iff_not, Bool.not_eq_true', Bool.not_eq_false'] at c25
        refine WC.skip ?_
        refine WX.block_normal ?_
        refine WX.next ?_
        refine WC.region ?_
        refine WL.val (OV.move rfl) rfl ?_
        refine WL.val (OV.addN (j := 1) rfl rfl (by omega)) rfl ?_
        refine WL.val (OV.assign rfl) rfl ?_
        refine WL.nil ?_
        exact WX.round1 (i + 1) ⟨rfl, rfl, rfl, trivial⟩ (fun w' hw => ⟨⟨by omega, takes_eq (by omega) (by omega) hi.2 (UInt8.toNat_inj.1 (by omega))⟩, hw⟩) (by show m1 - (i + 1) < m1 - i; omega)
    · simp only [decide_eq_true_eq, decide_eq_false_iff_not, Bool.not_eq_true', Bool.not_eq_false'] at c14
      refine WC.exit ?_
      refine WX.then_exit ?_
      refine WX.then_exit ?_
      refine WX.block_hit ?_
      refine WX.next ?_
      refine WC.seq ?_
      refine WC.region ?_
      refine WL.val (OV.assign rfl) rfl ?_
      refine WL.nil ?_
      refine WX.next ?_
      refine WC.ret ?_
      have him : i = m1 := by omega
      subst him
      exact WX.ret1 rfl rfl rfl (fun w' hw => ⟨by rw [decide_eq_true]; have := hi.2; rw [List.take_of_length_le (by omega), List.take_of_length_le (by omega)] at this; exact this, hw.fr⟩)

set_option maxRecDepth 10000 in
theorem roomy_calls (l : List UInt8) (a : Option Addr) (m c : Nat) (hsz : m ≤ 140737488355000) (w : World) (hl : RB w a m l) : Calls Tryd.prog 11 #[.slice a m c] w fun e w' => ∃ q : Option Addr × Nat, e = .returned (.slice q.1 (m + 80 : Nat) q.2) ∧ True ∧ Fr0 w w' ∧ New w w' (row 5 1 q.1 (m + 80) q.2 (u8s (roomL l))) := by
  refine enterS (args := [.slice a m c]) (fun _ => False) Tryd.func11 rfl Tryd.ntmps11 rfl rfl ?_
  refine WC.seq ?_
  refine WC.region ?_
  refine WL.val (OV.assign rfl) rfl ?_
  refine WL.nil ?_
  refine WX.next ?_
  refine WC.seq ?_
  refine WC.region ?_
  refine WL.val (OV.assign rfl) rfl ?_
  refine WL.nil ?_
  refine WX.next ?_
  refine WC.seq ?_
  refine WC.region ?_
  refine WL.val (OV.move rfl) rfl ?_
  refine WL.val (OV.move rfl) rfl ?_
  refine WL.nilRow 5 ?_
  refine WL.append (bytes := 1) rfl rfl (by kernel_rfl) (fun _ hw => hl.src) (by first | exact u8s_one _ | (intro u hu; simp only [List.mem_singleton] at hu; subst hu; rfl)) (by simp only [maxLen]; omega) rfl ?_
  intro a7 c7
  rw [List.nil_append]
  refine WL.val (OV.assign rfl) rfl ?_
  refine WL.nil ?_
  refine WX.next ?_
  refine WC.seq ?_
  refine WC.seq ?_
  refine WC.region ?_
  refine WL.val (OV.assign rfl) rfl ?_
  refine WL.nil ?_
  refine WX.next ?_
  refine WC.block ?_
  have hlm := hl.1
  refine WC.loop3 (fun (k : Nat) (a' : Option Addr) (c' : Nat) => [(3, .slice a' (0 + m + k) c'), (4, .int .i64 (k : Int))])
      (fun k a' c' w' => k ≤ 80 ∧ Sat w (fun _ => False) (fun b => b < w.heap.size) w [row 5 1 a' (0 + m + k) c' (u8s (l ++ roomP k))] w')
      (fun k _ _ => 80 - k) 0 a7 c7 ⟨rfl, rfl, trivial⟩ (fun w' hw => ⟨by omega, by rw [show l ++ roomP 0 = l from List.append_nil l]; exact hw⟩) ?_
  intro k a' c'
  refine WC.pure (fun hk => ?_)
  refine WC.seq ?_
  refine WC.seq ?_
  refine WC.region ?_
  refine WL.val (OV.move rfl) rfl ?_
  refine WL.val (OV.lss rfl rfl) rfl ?_
  refine WL.nil ?_
  refine WX.next ?_
  refine WC.cond rfl (fun c9 => ?_) (fun c9 => ?_)
  · simp only [decide_eq_true_eq, decide_eq_false_iff_not, Bool.not_eq_true', Bool.not_eq_false'] at c9
    refine WC.skip ?_
    refine WX.next ?_
    refine WC.seq ?_
    refine WC.block ?_
    refine WC.region ?_
    refine WL.val (OV.move rfl) rfl ?_
    refine WL.val (OV.move rfl) rfl ?_
    refine WL.val (OV.remNat (j := 50) rfl rfl (by omega)) rfl ?_
    refine WL.val (OV.addN (i := 201) rfl rfl (by omega)) rfl ?_
    refine WL.val (OV.convI_8 (m := 201 + k % 50) T.u3 T.u5 rfl) rfl ?_
    refine WL.buildSlice1 T.u22 T.z5 T.zr5 rfl rfl rfl ?_
    intro bl17
    refine WL.focus perm1 (WL.append (bytes := 1) rfl rfl (by kernel_rfl) (fun _ hw => own_src (.tail _ (.head _)) rfl) (by first | exact u8s_one _ | (intro u hu; simp only [List.mem_singleton] at hu; subst hu; rfl)) (by simp only [maxLen]; omega) rfl ?_)
    intro a18 c18
    refine WL.val (OV.assign rfl) rfl ?_
    refine WL.nil ?_
    refine WX.block_normal ?_
    refine WX.next ?_
    refine WC.region ?_
    refine WL.val (OV.move rfl) rfl ?_
    refine WL.val (OV.addN (j := 1) rfl rfl (by omega)) rfl ?_
    refine WL.val (OV.assign rfl) rfl ?_
    refine WL.nil ?_
    exact WX.round3 (k + 1) a18 c18 ⟨rfl, rfl, trivial⟩ (fun w' hw => ⟨by omega, by
      have h1 := (hw.perm perm1).drop
      rw [u8s_snoc, List.append_assoc, roomP_succ] at h1
      exact h1⟩) (by show 80 - (k + 1) < 80 - k; omega)
  · simp only [decide_eq_true_eq, decide_eq_false_iff_not, Bool.not_eq_true', Bool.not_eq_false'] at c9
    refine WC.exit ?_
    refine WX.then_exit ?_
    refine WX.then_exit ?_
    refine WX.block_hit ?_
    refine WX.next ?_
    refine WC.seq ?_
    refine WC.region ?_
    refine WL.val (OV.move rfl) rfl ?_
    refine WL.val (OV.assign rfl) rfl ?_
    refine WL.nil ?_
    refine WX.next ?_
    refine WC.ret ?_
    have hk80 : k = 80 := by omega
    subst hk80
    rw [Nat.zero_add]
    exact WX.ret1 rfl rfl rfl (fun w' hw => ⟨(a', c'), rfl, trivial, hw.fr, by exact hw.new0 (.head _)⟩)

end Go.Proofs.YtplebagdajdcnaaDoor
