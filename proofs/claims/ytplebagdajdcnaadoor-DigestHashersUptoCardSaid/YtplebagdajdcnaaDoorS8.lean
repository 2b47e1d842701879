/- Contracts of functions of the program: what each returns and leaves in memory. Printed by gen.py and walk.py. -/
import Derived.Test.YtplebagdajdcnaaDoorS7
namespace Go.Proofs.YtplebagdajdcnaaDoor
open Go Go.Hw
set_option linter.unusedSimpArgs false
set_option linter.unusedVariables false


set_option maxRecDepth 10000 in
theorem refEight_calls (n : Nat) (hn : n < 9223372036854775808) (w : World) : Calls Tryd.prog 39 #[.int .i64 (n : Int)] w fun e w' => ∃ q : Option Addr × Nat, e = .returned (.slice q.1 8 q.2) ∧ True ∧ Fr0 w w' ∧ New w w' (row 5 1 q.1 8 q.2 (u8s (be8 n))) := by
  refine enterS (args := [.int .i64 (n : Int)]) (fun _ => False) Tryd.func39 rfl Tryd.ntmps39 rfl rfl ?_
  refine WC.seq ?_
  refine WC.region ?_
  refine WL.val (OV.assign rfl) rfl ?_
  refine WL.nil ?_
  refine WX.next ?_
  refine WC.seq ?_
  refine WC.region ?_
  refine WL.val (OV.assign rfl) rfl ?_
  refine WL.nil ?_
  refine WX.next ?_
  refine WC.seq ?_
  refine WC.seq ?_
  refine WC.region ?_
  refine WL.val (OV.assign rfl) rfl ?_
  refine WL.nil ?_
  refine WX.next ?_
  refine WC.block ?_
  refine WC.nilRow 5 ?_
  refine WC.loop3 (fun (k : Nat) (a : Option Addr) (c : Nat) => [(0, .int .i64 (n : Int)), (3, .slice a k c), (4, .int .i64 (7 - (k : Int)))])
      (fun k a c w' => k ≤ 8 ∧ Sat w (fun _ => False) (fun b => b < w.heap.size) w [row 5 1 a k c (u8s (beP n k))] w')
      (fun k _ _ => 8 - k) 0 none 0 ⟨rfl, rfl, rfl, trivial⟩ (fun w' hw => ⟨by omega, hw⟩) ?_
  intro k a c
  refine WC.pure (fun hk => ?_)
  refine WC.seq ?_
  refine WC.seq ?_
  refine WC.region ?_
  refine WL.val (OV.move rfl) rfl ?_
  refine WL.val (OV.geq rfl rfl) rfl ?_
  refine WL.nil ?_
  refine WX.next ?_
  refine WC.cond rfl (fun c6 => ?_) (fun c6 => ?_)
  · simp only [decide_eq_true_eq, decide_eq_false_iff_not, Bool.not_eq_true', Bool.not_eq_false'] at c6
    refine WC.skip ?_
    refine WX.next ?_
    refine WC.seq ?_
    refine WC.block ?_
    refine WC.region ?_
    refine WL.val (OV.move rfl) rfl ?_
    refine WL.val (OV.move rfl) rfl ?_
    refine WL.val (OV.convU64 T.u3 T.u63 rfl (by omega)) rfl ?_
    refine WL.val (OV.move rfl) rfl ?_
    first
    | (refine WL.val (OV.mulI rfl rfl (by omega)) rfl ?_)
    | (refine WL.val (OV.mulU64 rfl rfl (by omega)) rfl ?_)
    | (refine WL.val (OV.mulB (b := 8) rfl rfl) rfl ?_)
    | (refine WL.val (OV.mul rfl rfl) rfl ?_)
    refine WL.val (OV.convU64 T.u3 T.u61 rfl (by omega)) rfl ?_
    refine WL.val ((OV.shr rfl rfl (decide_eq_true (by show _ ∧ _ ≤ ((64 : Nat) : Int); omega))).cast (u := .int .u64 ((n / 2 ^ (56 - 8 * k) : Nat) : Int)) (by rw [show (8 * (7 - (k : Int))).toNat = 56 - 8 * k from by omega]; congr 1)) rfl ?_
    refine WL.val (OV.convI_8 (m := n / 2 ^ (56 - 8 * k)) T.u63 T.u5 rfl) rfl ?_
    refine WL.buildSlice1 T.u22 T.z5 T.zr5 rfl rfl rfl ?_
    intro bl17
    refine WL.focus perm1 (WL.append (bytes := 1) rfl rfl (by kernel_rfl) (fun _ hw => own_src (.tail _ (.head _)) rfl) (by first | exact u8s_one _ | (intro u hu; simp only [List.mem_singleton] at hu; subst hu; rfl)) (by simp only [maxLen]; omega) rfl ?_)
    intro a18 c18
    refine WL.val (OV.assign rfl) rfl ?_
    refine WL.nil ?_
    refine WX.block_normal ?_
    refine WX.next ?_
    refine WC.region ?_
    refine WL.val (OV.move rfl) rfl ?_
    refine WL.val ((OV.subI rfl rfl (by omega)).cast (u := .int .i64 (7 - ((k + 1 : Nat) : Int))) (by congr 1; omega)) rfl ?_
    refine WL.val (OV.assign rfl) rfl ?_
    refine WL.nil ?_
    exact WX.round3 (k + 1) a18 c18 ⟨rfl, rfl, rfl, trivial⟩ (fun w' hw => ⟨by omega, by
      have h1 := (hw.perm perm1).drop
      rw [u8s_snoc, ← beP_succ] at h1
      exact h1⟩) (by show 8 - (k + 1) < 8 - k; omega)
  · simp only [decide_eq_true_eq, decide_eq_false_iff_not, Bool.not_eq_true', Bool.not_eq_false'] at c6
    refine WC.exit ?_
    refine WX.then_exit ?_
    refine WX.then_exit ?_
    refine WX.block_hit ?_
    refine WX.next ?_
    refine WC.seq ?_
    refine WC.region ?_
    refine WL.val (OV.move rfl) rfl ?_
    refine WL.val (OV.assign rfl) rfl ?_
    refine WL.nil ?_
    refine WX.next ?_
    refine WC.ret ?_
    have hk8 : k = 8 := by omega
    subst hk8
    exact WX.ret1 rfl rfl rfl (fun w' hw => ⟨(a, c), rfl, trivial, hw.fr, by exact hw.new0 (.head _)⟩)

def padZs (l : List UInt8) (k : Nat) : List UInt8 := l ++ 128 :: List.replicate k 0
theorem padZs_length (l : List UInt8) (k : Nat) : (padZs l k).length = l.length + 1 + k := by simp [padZs]; omega
theorem padZs_succ (l : List UInt8) (k : Nat) : padZs l k ++ [0] = padZs l (k + 1) := by simp [padZs, List.replicate_succ' (n := k)]
theorem padZs_padL (l : List UInt8) : padZs l (padK l.length) ++ be8 (8 * l.length) = padL l := by simp [padZs, padL]

set_option maxRecDepth 10000 in
theorem padded_calls (l : List UInt8) (a : Option Addr) (m c : Nat) (hsz : m ≤ 140737488355000) (w : World) (hl : RB w a m l) : Calls Tryd.prog 31 #[.slice a m c] w fun e w' => ∃ q : Option Addr × Nat, e = .returned (.slice q.1 (padL l).length q.2) ∧ True ∧ Fr0 w w' ∧ New w w' (row 5 1 q.1 (padL l).length q.2 (u8s (padL l))) := by
  refine enterS (args := [.slice a m c]) (fun _ => False) Tryd.func31 rfl Tryd.ntmps31 rfl rfl ?_
  refine WC.seq ?_
  refine WC.region ?_
  refine WL.val (OV.assign rfl) rfl ?_
  refine WL.nil ?_
  refine WX.next ?_
  refine WC.seq ?_
  refine WC.region ?_
  refine WL.val (OV.assign rfl) rfl ?_
  refine WL.nil ?_
  refine WX.next ?_
  refine WC.seq ?_
  refine WC.region ?_
  refine WL.val (OV.move rfl) rfl ?_
  refine WL.val (OV.move rfl) rfl ?_
  refine WL.nilRow 5 ?_
  refine WL.append (bytes := 1) rfl rfl (by kernel_rfl) (fun _ hw => hl.src) (by first | exact u8s_one _ | (intro u hu; simp only [List.mem_singleton] at hu; subst hu; rfl)) (by simp only [maxLen]; omega) rfl ?_
  intro a6 c6
  rw [List.nil_append]
  refine WL.val (OV.assign rfl) rfl ?_
  refine WL.nil ?_
  refine WX.next ?_
  refine WC.seq ?_
  refine WC.region ?_
  refine WL.val (OV.move rfl) rfl ?_
  refine WL.buildSlice1 T.u22 T.z5 T.zr5 rfl rfl rfl ?_
  intro bl8
  refine WL.focus perm1 (WL.append (bytes := 1) rfl rfl (by kernel_rfl) (fun _ hw => own_src (.tail _ (.head _)) rfl) (one8 (x := 128)) (by simp only [maxLen]; omega) rfl ?_)
  intro a9 c9
  rw [show [Value.int .u8 128] = [b8 128] from rfl, u8s_snoc, show l ++ [128] = padZs l 0 from rfl]
  refine WL.val (OV.assign rfl) rfl ?_
  refine WL.nil ?_
  refine WX.next ?_
  refine WC.seq ?_
  refine WC.block ?_
  refine WC.loop3 (fun (k : Nat) (a' : Option Addr) (c' : Nat) => [(0, .slice a m c), (3, .slice a' (0 + m + 1 + k) c')])
      (fun k a' c' w' => k ≤ padK l.length ∧ Sat w (fun _ => False) (fun b => b < w.heap.size) w [row 5 1 a' (0 + m + 1 + k) c' (u8s (padZs l k))] w')
      (fun k _ _ => padK l.length - k) 0 a9 c9 ⟨rfl, rfl, trivial⟩ (fun w' hw => ⟨by omega, (hw.perm perm1).drop⟩) ?_
  intro k a' c'
  refine WC.pure (fun hk => ?_)
  have hlm := hl.1
  have hpk : padK l.length < 64 := by unfold padK; omega
  refine WC.seq ?_
  refine WC.seq ?_
  refine WC.region ?_
  refine WL.val (OV.move rfl) rfl ?_
  first
  | (refine WL.val (OV.lenSlice rfl T.u22) rfl ?_)
  | (refine WL.val (OV.lenStr rfl T.u22) rfl ?_)
  refine WL.val (OV.remNat (j := 64) rfl rfl (by omega)) rfl ?_
  refine WL.val (OV.neq rfl rfl) rfl ?_
  refine WL.nil ?_
  refine WX.next ?_
  refine WC.cond rfl (fun c13 => ?_) (fun c13 => ?_)
  · simp only [decide_eq_true_eq, decide_eq_false_iff_not, Bool.not_eq_true', Bool.not_eq_false'] at c13
    refine WC.skip ?_
    refine WX.next ?_
    refine WC.block ?_
    refine WC.region ?_
    refine WL.val (OV.move rfl) rfl ?_
    refine WL.buildSlice1 T.u22 T.z5 T.zr5 rfl rfl rfl ?_
    intro bl15
    refine WL.focus perm1 (WL.append (bytes := 1) rfl rfl (by kernel_rfl) (fun _ hw => own_src (.tail _ (.head _)) rfl) (one8 (x := 0)) (by simp only [maxLen]; omega) rfl ?_)
    intro a16 c16
    refine WL.val (OV.assign rfl) rfl ?_
    refine WL.nil ?_
    refine WX.block_normal ?_
    have hlt : k < padK l.length := by unfold padK at *; omega
    exact WX.round3 (k + 1) a16 c16 ⟨rfl, rfl, trivial⟩ (fun w' hw => ⟨by omega, by
      have h1 := (hw.perm perm1).drop
      rw [show [Value.int .u8 0] = [b8 0] from rfl, u8s_snoc, padZs_succ] at h1
      exact h1⟩) (by show padK l.length - (k + 1) < padK l.length - k; omega)
  · simp only [decide_eq_true_eq, decide_eq_false_iff_not, Bool.not_eq_true', Bool.not_eq_false'] at c13
    refine WC.exit ?_
    refine WX.then_exit ?_
    refine WX.then_exit ?_
    refine WX.block_hit ?_
    refine WX.next ?_
    refine WC.seq ?_
    refine WC.region ?_
    refine WL.val (OV.move rfl) rfl ?_
    refine WL.val (OV.move rfl) rfl ?_
    first
    | (refine WL.val (OV.lenSlice rfl T.u22) rfl ?_)
    | (refine WL.val (OV.lenStr rfl T.u22) rfl ?_)
    refine WL.val (OV.mulN (i := 8) rfl rfl (by omega)) rfl ?_
    have hkk : k = padK l.length := by unfold padK at *; omega
    subst hkk
    refine WL.callF (it := fun q : Option Addr × Nat => row 5 1 q.1 8 q.2 (u8s (be8 (8 * l.length)))) (by kernel_rfl) rfl rfl (fun w' _ => by rw [show ((8 * m : Nat) : Int) = ((8 * l.length : Nat) : Int) from by rw [hlm]]; exact refEight_calls (8 * l.length) (by omega) w') ?_
    intro q21 _
    refine WL.focus perm1 (WL.append (bytes := 1) rfl rfl (by kernel_rfl) (fun _ hw => row_src (.tail _ (.head _)) hw) (u8s_one _) (by simp only [maxLen]; omega) rfl ?_)
    intro a22 c22
    rw [← u8s_append, padZs_padL, show 0 + m + 1 + padK l.length + 8 = (padL l).length from by rw [(padL_length l).1, hlm]; omega]
    refine WL.val (OV.assign rfl) rfl ?_
    refine WL.nil ?_
    refine WX.next ?_
    refine WC.ret ?_
    exact WX.ret1 rfl rfl rfl (fun w' hw => ⟨(a22, c22), rfl, trivial, hw.fr, by exact hw.new0 (.head _)⟩)

end Go.Proofs.YtplebagdajdcnaaDoor
