/- Contracts of functions of the program: what each returns and leaves in memory. Printed by gen.py and walk.py. -/
import Derived.Test.YtijplknkpkmblaaGreatDoorK1
namespace Go.Proofs.YtijplknkpkmblaaGreatDoor
open Go Go.Hw
set_option linter.unusedSimpArgs false
set_option linter.unusedVariables false
set_option maxRecDepth 10000 in
theorem AppendUint_calls (u : Nat) (hu : u < 18446744073709551616) (a : Option Addr) (m c : Nat) (xs : List UInt8) (hm : m + 22 ≤ 140737488355328) (w : World) (hA : Holds [row 5 1 a m c (u8s xs)] w) :
  Calls Tryz.prog 88 #[.slice a m c, .int .u64 (u : Int), .int .i64 36] w fun e w' => ∃ a' c', e = .returned (.slice a' (m + (fmt36 u).length) c') ∧ Turns [row 5 1 a m c (u8s xs)] [row 5 1 a' (m + (fmt36 u).length) c' (u8s (xs ++ fmt36 u))] w w' := by
  refine enterA hA (args := [.slice a m c, .int .u64 (u : Int), .int .i64 36]) Tryz.func88 rfl Tryz.ntmps88 rfl rfl ?_
  refine WC.seq ?_
  refine WC.region ?_
  refine WL.val (OV.assign rfl) rfl ?_
  refine WL.nil ?_
  refine WX.next ?_
  refine WC.seq ?_
  refine WC.seq ?_
  refine WC.region ?_
  refine WL.val (OV.move rfl) rfl ?_
  refine WL.val (OV.eql rfl rfl) rfl ?_
  refine WL.nil ?_
  refine WX.next ?_
  refine WC.condF rfl ?_
  refine WC.skip ?_
  refine WX.next ?_
  refine WC.seq ?_
  refine WC.region ?_
  refine WL.val (OV.move rfl) rfl ?_
  refine WL.val (OV.move rfl) rfl ?_
  refine WL.val (OV.move rfl) rfl ?_
  refine WL.callT1 (ι := Option Addr × Nat) (vv := fun x => .tuple #[.slice x.1 (m + (fmt36 u).length) x.2, .string ⟨#[]⟩]) (pp := fun _ => True) (jj := fun x => row 5 1 x.1 (m + (fmt36 u).length) x.2 (u8s (xs ++ fmt36 u))) (by kernel_rfl) rfl rfl (fun w' hw' hH => (formatBits_calls u hu a m c xs (by omega) w' hH).mono (fun e w' ⟨a', c', h1, h2⟩ => ⟨(a', c'), h1, trivial, h2⟩)) ?_
  rintro ⟨a1, c1⟩ _
  refine WL.val (OV.move rfl) rfl ?_
  refine WL.val (OV.extract rfl rfl) rfl ?_
  refine WL.val (OV.extract rfl rfl) rfl ?_
  refine WL.val (OV.assign rfl) rfl ?_
  refine WL.nil ?_
  refine WX.next ?_
  refine WC.seq ?_
  refine WC.region ?_
  refine WL.val (OV.move rfl) rfl ?_
  refine WL.val (OV.assign rfl) rfl ?_
  refine WL.nil ?_
  refine WX.next ?_
  refine WC.ret ?_
  exact WX.ret1 rfl rfl rfl (fun w hw => ⟨_, _, rfl, hw.turned⟩)

set_option maxRecDepth 10000 in
theorem AppendInt_in_calls (n : Int) (hn : -9223372036854775808 ≤ n ∧ n ≤ 9223372036854775807) (a : Option Addr) (m c : Nat) (xs : List UInt8) (hm : m + 24 ≤ 140737488355328) (w : World) (hA : Holds [row 5 1 a m c (u8s xs)] w) :
  Calls Tryz.prog 65 #[.slice a m c, .int .i64 n, .int .i64 36] w fun e w' => ∃ a' c', e = .returned (.slice a' (m + (itoa36 n).length) c') ∧ Turns [row 5 1 a m c (u8s xs)] [row 5 1 a' (m + (itoa36 n).length) c' (u8s (xs ++ itoa36 n))] w w' := by
  refine enterA hA (args := [.slice a m c, .int .i64 n, .int .i64 36]) Tryz.func65 rfl Tryz.ntmps65 rfl rfl ?_
  refine WC.seq ?_
  refine WC.region ?_
  refine WL.val (OV.assign rfl) rfl ?_
  refine WL.nil ?_
  refine WX.next ?_
  refine WC.seq ?_
  refine WC.region ?_
  refine WL.val (OV.move rfl) rfl ?_
  refine WL.val ((OV.conv T.u2 T.u109 rfl).cast (u := .int .u64 ((if n < 0 then 18446744073709551616 - n.natAbs else n.natAbs : Nat) : Int)) (by congr 1; unfold IntKind.wrap; simp only [IntKind.bits, IntKind.signed, Bool.false_and, Bool.false_eq_true, if_false]; by_cases hn0 : n < 0 <;> simp only [hn0, if_true, if_false] <;> omega)) rfl ?_
  refine WL.val (OV.assign rfl) rfl ?_
  refine WL.nil ?_
  refine WX.next ?_
  refine WC.seq ?_
  refine WC.seq ?_
  refine WC.region ?_
  refine WL.val (OV.move rfl) rfl ?_
  refine WL.val (OV.lss rfl rfl) rfl ?_
  refine WL.nil ?_
  refine WX.next ?_
  refine WC.cond rfl (fun c11 => ?_) (fun c11 => ?_)
  · simp only [decide_eq_true_eq, decide_eq_false_iff_not] at c11
    refine WC.seq ?_
    refine WC.region ?_
    refine WL.val (OV.move rfl) rfl ?_
    refine WL.buildSlice1 T.u94 T.z5 T.zr5 rfl rfl rfl ?_
    intro b13
    refine WL.focus perm1 (WL.append (news := u8s [45]) rfl rfl T.apB (fun _ _ => own_src (.tail _ (.head _)) rfl) (u8s_one _) ⟨by omega, by unfold maxLen; omega⟩ rfl ?_)
    intro a14 c14
    refine WL.val (OV.assign rfl) rfl ?_
    refine WL.nil ?_
    refine WX.next ?_
    refine WC.region ?_
    refine WL.val (OV.move rfl) rfl ?_
    refine WL.val ((OV.neg rfl).cast (u := .int .u64 (n.natAbs : Int)) (by congr 1; rw [if_pos c11]; unfold IntKind.wrap; simp only [IntKind.bits, IntKind.signed, Bool.false_and, Bool.false_eq_true, if_false]; rw [show (-((18446744073709551616 - n.natAbs : Nat) : Int)) = (n.natAbs : Int) + (-1) * 18446744073709551616 from by omega, show (2 ^ 64 : Int) = 18446744073709551616 from rfl, Int.add_mul_emod_self_right, Int.emod_eq_of_lt (by omega) (by omega)])) rfl ?_
    refine WL.val (OV.assign rfl) rfl ?_
    refine WL.nil ?_
    refine WX.next ?_
    refine WC.seq ?_
    refine WC.region ?_
    refine WL.val (OV.move rfl) rfl ?_
    refine WL.val (OV.move (v := .int .u64 (n.natAbs : Int)) (by first | rfl | (simp only [if_neg c11]; rfl))) rfl ?_
    refine WL.val (OV.move rfl) rfl ?_
    refine WL.callTA [row 5 1 a14 (m + 1) c14 (u8s xs ++ u8s [45])] rfl (by kernel_rfl) rfl rfl (ι := Option Addr × Nat) (vv := fun x => .slice x.1 (m + 1 + (fmt36 n.natAbs).length) x.2) (pp := fun _ => True) (AA := fun x => [row 5 1 x.1 (m + 1 + (fmt36 n.natAbs).length) x.2 (u8s (xs ++ [45] ++ fmt36 n.natAbs))]) (fun w' hw' hH => (by rw [← u8s_append] at hH ⊢; exact (AppendUint_calls n.natAbs (by omega) a14 (m + 1) c14 (xs ++ [45]) (by omega) w' hH).mono (fun e w' ⟨a', c', h1, h2⟩ => ⟨(a', c'), h1, trivial, h2⟩))) ?_
    rintro ⟨a1, c1⟩ _
    refine WL.val (OV.assign rfl) rfl ?_
    refine WL.nil ?_
    refine WX.next ?_
    refine WC.ret ?_
    have e1 : m + 1 + (fmt36 n.natAbs).length = m + (itoa36 n).length := by unfold itoa36; rw [if_pos c11]; simp only [List.length_cons]; omega
    have e2 : xs ++ [45] ++ fmt36 n.natAbs = xs ++ itoa36 n := by unfold itoa36; rw [if_pos c11]; simp
    exact WX.ret1 rfl rfl rfl (fun w hw => ⟨a1, c1, by rw [e1], by rw [← e1, ← e2]; exact (hw.perm perm1).drop.turned⟩)
  · simp only [decide_eq_true_eq, decide_eq_false_iff_not] at c11
    refine WC.skip ?_
    refine WX.next ?_
    refine WC.seq ?_
    refine WC.region ?_
    refine WL.val (OV.move rfl) rfl ?_
    refine WL.val (OV.move (v := .int .u64 (n.natAbs : Int)) (by first | rfl | (simp only [if_neg c11]; rfl))) rfl ?_
    refine WL.val (OV.move rfl) rfl ?_
    refine WL.callT1 (ι := Option Addr × Nat) (vv := fun x => .slice x.1 (m + (fmt36 n.natAbs).length) x.2) (pp := fun _ => True) (jj := fun x => row 5 1 x.1 (m + (fmt36 n.natAbs).length) x.2 (u8s (xs ++ fmt36 n.natAbs))) (by kernel_rfl) rfl rfl (fun w' hw' hH => (AppendUint_calls n.natAbs (by omega) a m c xs (by omega) w' hH).mono (fun e w' ⟨a', c', h1, h2⟩ => ⟨(a', c'), h1, trivial, h2⟩)) ?_
    rintro ⟨a1, c1⟩ _
    refine WL.val (OV.assign rfl) rfl ?_
    refine WL.nil ?_
    refine WX.next ?_
    refine WC.ret ?_
    have e1 : fmt36 n.natAbs = itoa36 n := by unfold itoa36; rw [if_neg c11]
    exact WX.ret1 rfl rfl rfl (fun w hw => ⟨a1, c1, by rw [e1], by rw [← e1]; exact hw.turned⟩)

set_option maxRecDepth 10000 in
theorem AppendInt_calls (n : Int) (hn : -9223372036854775808 ≤ n ∧ n ≤ 9223372036854775807) (a : Option Addr) (m c : Nat) (xs : List UInt8) (hm : m + 26 ≤ 140737488355328) (w : World) (hA : Holds [row 5 1 a m c (u8s xs)] w) :
  Calls Tryz.prog 47 #[.slice a m c, .int .i64 n, .int .i64 36] w fun e w' => ∃ a' c', e = .returned (.slice a' (m + (itoa36 n).length) c') ∧ Turns [row 5 1 a m c (u8s xs)] [row 5 1 a' (m + (itoa36 n).length) c' (u8s (xs ++ itoa36 n))] w w' := by
  refine enterA hA (args := [.slice a m c, .int .i64 n, .int .i64 36]) Tryz.func47 rfl Tryz.ntmps47 rfl rfl ?_
  refine WC.seq ?_
  refine WC.region ?_
  refine WL.val (OV.assign rfl) rfl ?_
  refine WL.nil ?_
  refine WX.next ?_
  refine WC.seq ?_
  refine WC.region ?_
  refine WL.val (OV.move rfl) rfl ?_
  refine WL.val (OV.move rfl) rfl ?_
  refine WL.val (OV.move rfl) rfl ?_
  refine WL.callT1 (ι := Option Addr × Nat) (vv := fun x => .slice x.1 (m + (itoa36 n).length) x.2) (pp := fun _ => True) (jj := fun x => row 5 1 x.1 (m + (itoa36 n).length) x.2 (u8s (xs ++ itoa36 n))) (by kernel_rfl) rfl rfl (fun w' hw' hH => (AppendInt_in_calls n hn a m c xs (by omega) w' hH).mono (fun e w' ⟨a', c', h1, h2⟩ => ⟨(a', c'), h1, trivial, h2⟩)) ?_
  rintro ⟨a1, c1⟩ _
  refine WL.val (OV.assign rfl) rfl ?_
  refine WL.nil ?_
  refine WX.next ?_
  refine WC.ret ?_
  exact WX.ret1 rfl rfl rfl (fun w hw => ⟨_, _, rfl, hw.turned⟩)

set_option maxRecDepth 10000 in
theorem key_calls (l : List Int) (a : Option Addr) (m c : Nat) (hi : i64s l) (hm : m ≤ 1099511627776) (w : World) (hr : RI w a m l) : Calls Tryz.prog 35 #[.slice a m c] w fun e w' => e = .returned (.string (keyB l)) ∧ Fr0 w w' := by
  refine enterS (args := [.slice a m c]) (fun _ => False) Tryz.func35 rfl Tryz.ntmps35 rfl rfl ?_
  refine WC.seq ?_
  refine WC.region ?_
  refine WL.val (OV.assign rfl) rfl ?_
  refine WL.nil ?_
  refine WX.next ?_
  refine WC.seq ?_
  refine WC.region ?_
  refine WL.val (OV.assign rfl) rfl ?_
  refine WL.nil ?_
  refine WX.next ?_
  refine WC.seq ?_
  refine WC.seq ?_
  refine WC.region ?_
  refine WL.val (OV.move rfl) rfl ?_
  first
  | (refine WL.val (OV.lenSlice rfl T.u32) rfl ?_)
  | (refine WL.val (OV.lenStr rfl T.u32) rfl ?_)
  refine WL.val (OV.move rfl) rfl ?_
  refine WL.nil ?_
  refine WX.next ?_
  refine WC.block ?_
  have hml := hr.1
  refine WC.loop3 (fun (i : Nat) ab cb => [(3, .slice ab (keyL (l.take i)).length cb), (6, .slice a m c), (7, .int .i64 (m : Int)), (8, .int .i64 (i : Int))])
      (fun i ab cb w' => i ≤ m ∧ Sat w (fun _ => False) (fun b => b < w.heap.size) w [row 5 1 ab (keyL (l.take i)).length cb (u8s (keyL (l.take i)))] w')
      (fun i _ _ => m - i) 0 none 0 ⟨rfl, rfl, rfl, rfl, trivial⟩ (fun w' hw => ⟨by omega, by simpa [keyL, u8s] using Sat.rowNil 5 1 hw⟩) ?_
  intro i ab cb
  refine WC.pure (fun hi' => ?_)
  refine WC.seq ?_
  refine WC.region ?_
  refine WL.val (OV.lss rfl rfl) rfl ?_
  refine WL.nil ?_
  refine WX.next ?_
  refine WC.seq ?_
  refine WC.cond rfl (fun c9 => ?_) (fun c9 => ?_)
  · try simp only [decide_eq_true_eq, decide_eq_false_iff_not, Bool.not_eq_true', Bool.not_eq_false'] at c9
    refine WC.skip ?_
    refine WX.next ?_
    refine WC.seq ?_
    refine WC.block ?_
    refine WC.seq ?_
    refine WC.region ?_
    have hil : i < l.length := by omega
    obtain ⟨q, rfl⟩ : ∃ q, a = some q := by
      cases a with
      | none => have := hr.2.1 rfl; omega
      | some q => exact ⟨q, rfl⟩
    refine WL.val (OV.indexSliceA rfl rfl T.u32 T.z3 (by omega)) rfl ?_
    refine WL.val (OV.load1 rfl T.u3 rfl (fun _ hw => (hr.sat hw).cell hil)) rfl ?_
    refine WL.val (OV.assign rfl) rfl ?_
    refine WL.nil ?_
    refine WX.next ?_
    refine WC.seq ?_
    refine WC.region ?_
    refine WL.val (OV.move rfl) rfl ?_
    refine WL.val (OV.move rfl) rfl ?_
    have hlen := keyL_len (i64s_take hi i)
    have hin := i64s_getD hi hil
    have hit := itoa36_len hin
    rw [List.length_take] at hlen
    refine WL.callT1 (ι := Option Addr × Nat) (vv := fun x => .slice x.1 ((keyL (l.take i)).length + (itoa36 (l.getD i 0)).length) x.2) (pp := fun _ => True) (jj := fun x => row 5 1 x.1 ((keyL (l.take i)).length + (itoa36 (l.getD i 0)).length) x.2 (u8s (keyL (l.take i) ++ itoa36 (l.getD i 0)))) (by kernel_rfl) rfl rfl (fun w' hw' hH => (AppendInt_calls (l.getD i 0) hin ab (keyL (l.take i)).length cb (keyL (l.take i)) (by omega) w' hH).mono (fun e w' ⟨a', c', h1, h2⟩ => ⟨(a', c'), h1, trivial, h2⟩)) ?_
    rintro ⟨a1, c1⟩ _
    refine WL.val (OV.assign rfl) rfl ?_
    refine WL.nil ?_
    refine WX.next ?_
    refine WC.region ?_
    refine WL.val (OV.move rfl) rfl ?_
    refine WL.buildSlice1 T.u94 T.z5 T.zr5 rfl rfl rfl ?_
    intro b16
    refine WL.focus perm1 (WL.append (news := u8s [32]) rfl rfl T.apB (fun _ _ => own_src (.tail _ (.head _)) rfl) (u8s_one _) ⟨by omega, by unfold maxLen; omega⟩ rfl ?_)
    intro a17 c17
    refine WL.val (OV.assign rfl) rfl ?_
    refine WL.nil ?_
    refine WX.block_normal ?_
    refine WX.next ?_
    refine WC.region ?_
    first
    | (refine WL.val (OV.addI rfl rfl (by omega)) rfl ?_)
    | (refine WL.val (OV.add rfl rfl) rfl ?_)
    refine WL.val (OV.move rfl) rfl ?_
    refine WL.nil ?_
    have e : keyL (l.take i) ++ itoa36 (l.getD i 0) ++ [32] = keyL (l.take (i + 1)) := by rw [take_snoc hil, keyL_snoc]
    have el : (keyL (l.take i)).length + (itoa36 (l.getD i 0)).length + 1 = (keyL (l.take (i + 1))).length := by rw [← e]; simp only [List.length_append, List.length_singleton]
    exact WX.round3 (i + 1) a17 c17 ⟨by rw [← el]; rfl, rfl, rfl, rfl, trivial⟩ (fun w' hw => ⟨by omega, by
      rw [← el, ← e, u8s_append]
      exact (hw.perm perm1).drop⟩) (by show m - (i + 1) < m - i; omega)
  · try simp only [decide_eq_true_eq, decide_eq_false_iff_not, Bool.not_eq_true', Bool.not_eq_false'] at c9
    refine WC.exit ?_
    refine WX.then_exit ?_
    refine WX.then_exit ?_
    refine WX.block_hit ?_
    refine WX.next ?_
    refine WC.seq ?_
    refine WC.region ?_
    refine WL.val (OV.move rfl) rfl ?_
    have him : l.length ≤ i := by have := hr.1; omega
    rw [List.take_of_length_le him]
    refine WL.val (OV.bytesToStr (l := keyL l) rfl (fun _ hw => row_src (.head _) hw) T.u94 T.u5 T.u9) rfl ?_
    refine WL.val (OV.assign rfl) rfl ?_
    refine WL.nil ?_
    refine WX.next ?_
    refine WC.ret ?_
    exact WX.ret1 rfl rfl rfl (fun w hw => ⟨rfl, hw.fr⟩)

set_option maxRecDepth 10000 in
theorem picked_calls (l : List Int) (cs : List Int) (a : Option Addr) (m c : Nat) (a2 : Option Addr) (m2 c2 : Nat) (hcs : ∀ k ∈ cs, 0 ≤ k ∧ k < l.length) (hm : m2 ≤ 1099511627776) (hmm : m ≤ 1099511627776) (w : World) (hr : RI w a m l) (hr2 : RI w a2 m2 cs) :
  Calls Tryz.prog 48 #[.slice a m c, .slice a2 m2 c2] w fun e w' => ∃ a' c', e = .returned (.slice a' cs.length c') ∧ Fr0 w w' ∧ New w w' (row 3 1 a' cs.length c' (ints (pickL l cs))) := by
  refine enterS (args := [.slice a m c, .slice a2 m2 c2]) (fun _ => False) Tryz.func48 rfl Tryz.ntmps48 rfl rfl ?_
  refine WC.seq ?_
  refine WC.region ?_
  refine WL.val (OV.assign rfl) rfl ?_
  refine WL.nil ?_
  refine WX.next ?_
  refine WC.seq ?_
  refine WC.region ?_
  refine WL.val (OV.assign rfl) rfl ?_
  refine WL.nil ?_
  refine WX.next ?_
  refine WC.seq ?_
  refine WC.seq ?_
  refine WC.region ?_
  refine WL.val (OV.move rfl) rfl ?_
  first
  | (refine WL.val (OV.lenSlice rfl T.u32) rfl ?_)
  | (refine WL.val (OV.lenStr rfl T.u32) rfl ?_)
  refine WL.val (OV.move rfl) rfl ?_
  refine WL.nil ?_
  refine WX.next ?_
  refine WC.block ?_
  have hml := hr2.1
  refine WC.loop3 (fun (i : Nat) ab cb => [(0, .slice a m c), (5, .slice ab i cb), (8, .slice a2 m2 c2), (9, .int .i64 (m2 : Int)), (10, .int .i64 (i : Int))])
      (fun i ab cb w' => i ≤ m2 ∧ Sat w (fun _ => False) (fun b => b < w.heap.size) w [row 3 1 ab i cb (ints (pickL l (cs.take i)))] w')
      (fun i _ _ => m2 - i) 0 none 0 ⟨rfl, rfl, rfl, rfl, rfl, trivial⟩ (fun w' hw => ⟨by omega, by simpa [pickL, ints] using Sat.rowNil 3 1 hw⟩) ?_
  intro i ab cb
  refine WC.pure (fun hi' => ?_)
  refine WC.seq ?_
  refine WC.region ?_
  refine WL.val (OV.lss rfl rfl) rfl ?_
  refine WL.nil ?_
  refine WX.next ?_
  refine WC.seq ?_
  refine WC.cond rfl (fun c11 => ?_) (fun c11 => ?_)
  · try simp only [decide_eq_true_eq, decide_eq_false_iff_not, Bool.not_eq_true', Bool.not_eq_false'] at c11
    refine WC.skip ?_
    refine WX.next ?_
    refine WC.seq ?_
    refine WC.block ?_
    refine WC.seq ?_
    refine WC.region ?_
    have hil : i < cs.length := by omega
    obtain ⟨q2, rfl⟩ : ∃ q, a2 = some q := by
      cases a2 with
      | none => have := hr2.2.1 rfl; omega
      | some q => exact ⟨q, rfl⟩
    have hki := hcs _ (getD_mem hil)
    obtain ⟨q, rfl⟩ : ∃ q, a = some q := by
      cases a with
      | none => have := hr.2.1 rfl; have := hr.1; omega
      | some q => exact ⟨q, rfl⟩
    obtain ⟨kk, hkk⟩ : ∃ kk : Nat, cs.getD i 0 = (kk : Int) := ⟨(cs.getD i 0).toNat, by omega⟩
    have hkl : kk < l.length := by omega
    refine WL.val (OV.indexSliceA rfl rfl T.u32 T.z3 (by omega)) rfl ?_
    refine WL.val (OV.load1 (v := .int .i64 (kk : Int)) rfl T.u3 rfl (fun _ hw => by rw [← hkk]; exact (hr2.sat hw).cell hil)) rfl ?_
    refine WL.val (OV.assign rfl) rfl ?_
    refine WL.nil ?_
    refine WX.next ?_
    refine WC.region ?_
    refine WL.val (OV.move rfl) rfl ?_
    refine WL.val (OV.move rfl) rfl ?_
    refine WL.val (OV.move rfl) rfl ?_
    refine WL.val (OV.indexSliceA (i := kk) rfl rfl T.u32 T.z3 (by have := hr.1; omega)) rfl ?_
    refine WL.val (OV.load1 rfl T.u3 rfl (fun _ hw => (hr.sat hw).cell hkl)) rfl ?_
    refine WL.buildSlice1 T.u32 T.z3 T.zr3 rfl rfl rfl ?_
    intro b19
    refine WL.focus perm1 (WL.append (news := ints [l.getD kk 0]) rfl rfl T.apI (fun _ _ => own_src (.tail _ (.head _)) rfl) (ints_one _) ⟨by omega, by unfold maxLen; omega⟩ rfl ?_)
    intro a20 c20
    refine WL.val (OV.assign rfl) rfl ?_
    refine WL.nil ?_
    refine WX.block_normal ?_
    refine WX.next ?_
    refine WC.region ?_
    first
    | (refine WL.val (OV.addI rfl rfl (by omega)) rfl ?_)
    | (refine WL.val (OV.add rfl rfl) rfl ?_)
    refine WL.val (OV.move rfl) rfl ?_
    refine WL.nil ?_
    have e : pickL l (cs.take i) ++ [l.getD kk 0] = pickL l (cs.take (i + 1)) := by
      rw [take_snoc hil, pickL, pickL, List.map_append, List.map_singleton, hkk, Int.toNat_natCast]
    exact WX.round3 (i + 1) a20 c20 ⟨rfl, rfl, rfl, rfl, rfl, trivial⟩ (fun w' hw => ⟨by omega, by
      rw [← e, ints_append]
      exact (hw.perm perm1).drop⟩) (by show m2 - (i + 1) < m2 - i; omega)
  · try simp only [decide_eq_true_eq, decide_eq_false_iff_not, Bool.not_eq_true', Bool.not_eq_false'] at c11
    refine WC.exit ?_
    refine WX.then_exit ?_
    refine WX.then_exit ?_
    refine WX.block_hit ?_
    refine WX.next ?_
    refine WC.seq ?_
    refine WC.region ?_
    refine WL.val (OV.move rfl) rfl ?_
    refine WL.val (OV.assign rfl) rfl ?_
    refine WL.nil ?_
    refine WX.next ?_
    refine WC.ret ?_
    have hic : i = cs.length := by omega
    subst hic
    rw [List.take_length]
    exact WX.ret1 rfl rfl rfl (fun w hw => ⟨_, _, rfl, hw.fr, hw.new0 (.head _)⟩)

end Go.Proofs.YtijplknkpkmblaaGreatDoor
