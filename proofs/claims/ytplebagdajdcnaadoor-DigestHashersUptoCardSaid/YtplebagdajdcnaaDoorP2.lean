/- Contracts of functions of the program: what each returns and leaves in memory. Printed by gen.py and walk.py. -/
import Derived.Test.YtplebagdajdcnaaDoorP1
namespace Go.Proofs.YtplebagdajdcnaaDoor
open Go Go.Hw
set_option linter.unusedSimpArgs false
set_option linter.unusedVariables false
theorem RB.of_rowU {w0 ws w : World} {M I : Nat → Prop} {ow : List Hw.Item} {l : List UInt8} {T : TypeId} {a : Option Addr} {m c : Nat} (hw : Sat w0 M I ws ow w) (hm : row T 1 a m c (u8s l) ∈ ow) : RB w a m l := (RB.of_row hw hm).1
theorem joinL_next_len {label : List UInt8} {ls : List (List UInt8)} {i m' : Nat} (h : i < ls.length) (hm : (ls.getD i []).length = m') : (joinL label (ls.take (i + 1))).length = (joinL label (ls.take i)).length + 8 + m' := by
  rw [← joinL_next h]; simp only [List.length_append, be8_length, hm]

set_option maxRecDepth 10000 in
theorem joined_calls (label : ByteArray) (ls : List (List UInt8)) (a : Option Addr) (n c : Nat) (hsz : (joinL label.data.toList ls).length ≤ 1099511627776) (hn : n < 4611686018427387904) (w : World) (hls : RL w a n ls) : Calls Tryd.prog 34 #[.string label, .slice a n c] w fun e w' => ∃ q : Option Addr × Nat, e = .returned (.slice q.1 (joinL label.data.toList ls).length q.2) ∧ True ∧ Fr0 w w' ∧ New w w' (row 5 1 q.1 (joinL label.data.toList ls).length q.2 (u8s (joinL label.data.toList ls))) := by
  refine enterS (args := [.string label, .slice a n c]) (fun _ => False) Tryd.func34 rfl Tryd.ntmps34 rfl rfl ?_
  refine WC.seq ?_
  refine WC.region ?_
  refine WL.val (OV.assign rfl) rfl ?_
  refine WL.nil ?_
  refine WX.next ?_
  refine WC.seq ?_
  refine WC.region ?_
  refine WL.val (OV.move rfl) rfl ?_
  first
  | (refine WL.val (OV.lenSlice rfl T.u9) rfl ?_)
  | (refine WL.val (OV.lenStr rfl T.u9) rfl ?_)
  have hlab : label.data.toList.length = label.size := by rw [Array.length_toList]; rfl
  have hjl : label.size + 8 ≤ (joinL label.data.toList ls).length := by
    simp only [joinL, List.length_append, be8_length]; omega
  refine WL.callF (it := fun q : Option Addr × Nat => row 5 1 q.1 8 q.2 (u8s (be8 label.size))) (by kernel_rfl) rfl rfl (fun w' _ => refEight_calls label.size (by omega) w') ?_
  rintro ⟨a9, c9⟩ _
  refine WL.val (OV.assign rfl) rfl ?_
  refine WL.nil ?_
  refine WX.next ?_
  refine WC.seq ?_
  refine WC.region ?_
  refine WL.val (OV.move rfl) rfl ?_
  refine WL.val (OV.move rfl) rfl ?_
  refine WL.strToBytesC rfl T.u9 T.u22 T.u5 rfl ?_
  intro b12 cp12 pad12 hcp12
  refine WL.focus perm1 (WL.append (bytes := 1) rfl rfl (by kernel_rfl) (fun _ hw => own_srcP (.tail _ (.head _)) (by rw [u8s_length]; exact hlab)) (u8s_one _) (by simp only [maxLen]; omega) rfl ?_)
  intro a13 c13
  rw [← u8s_append, show be8 label.size ++ label.data.toList = joinL label.data.toList (ls.take 0) from by rw [joinL, List.take_zero, hlab]; simp [layP]]
  refine WL.val (OV.assign rfl) rfl ?_
  refine WL.nil ?_
  refine WX.next ?_
  refine WC.seq ?_
  refine WC.seq ?_
  refine WC.region ?_
  refine WL.val (OV.assign rfl) rfl ?_
  refine WL.nil ?_
  refine WX.next ?_
  refine WC.block ?_
  have hj0 : (joinL label.data.toList (ls.take 0)).length = 8 + label.size := by rw [joinL, List.take_zero]; simp [layP, be8_length]
  refine WC.loop3 (fun (i : Nat) (a' : Option Addr) (c' : Nat) => [(0, .string label), (1, .slice a n c), (5, .slice a' (joinL label.data.toList (ls.take i)).length c'), (6, .int .i64 (i : Int))])
      (fun i a' c' w' => i ≤ n ∧ Sat w (fun _ => False) (fun b => b < w.heap.size) w [row 5 1 a' (joinL label.data.toList (ls.take i)).length c' (u8s (joinL label.data.toList (ls.take i)))] w')
      (fun i _ _ => n - i) 0 a13 c13 ⟨rfl, rfl, by rw [hj0]; rfl, rfl, trivial⟩ (fun w' hw => ⟨by omega, by rw [hj0]; exact hw.first⟩) ?_
  intro i ai ci
  refine WC.pure (fun hi => ?_)
  have hle := joinL_le (label := label.data.toList) (ls := ls) i
  refine WC.seq ?_
  refine WC.seq ?_
  refine WC.region ?_
  refine WL.val (OV.move rfl) rfl ?_
  refine WL.val (OV.move rfl) rfl ?_
  first
  | (refine WL.val (OV.lenSlice rfl T.u29) rfl ?_)
  | (refine WL.val (OV.lenStr rfl T.u29) rfl ?_)
  refine WL.val (OV.lss rfl rfl) rfl ?_
  refine WL.nil ?_
  refine WX.next ?_
  refine WC.cond rfl (fun c17 => ?_) (fun c17 => ?_)
  · simp only [decide_eq_true_eq, decide_eq_false_iff_not, Bool.not_eq_true', Bool.not_eq_false'] at c17
    refine WC.skip ?_
    refine WX.next ?_
    refine WC.seq ?_
    refine WC.block ?_
    refine WC.seq ?_
    refine WC.region ?_
    refine WL.val (OV.move rfl) rfl ?_
    refine WL.val (OV.move rfl) rfl ?_
    refine WL.val (OV.move rfl) rfl ?_
    have hin : i < ls.length := by rw [hls.1]; omega
    obtain ⟨q, rfl⟩ := hls.some (by omega)
    obtain ⟨a', m', c', hcell, hrb, hmc⟩ := hls.get (i := i) (by omega)
    have hst := joinL_step_le (label := label.data.toList) hin
    have hrl := hrb.1
    refine WL.val (OV.indexSliceA (i := i) rfl rfl T.u29 T.z22 (by omega)) rfl ?_
    refine WL.val (OV.load1 rfl T.u22 rfl (fun _ hw => snapL hw hcell)) rfl ?_
    first
    | (refine WL.val (OV.lenSlice rfl T.u22) rfl ?_)
    | (refine WL.val (OV.lenStr rfl T.u22) rfl ?_)
    refine WL.callF (it := fun q : Option Addr × Nat => row 5 1 q.1 8 q.2 (u8s (be8 m'))) (by kernel_rfl) rfl rfl (fun w' _ => refEight_calls m' (by omega) w') ?_
    rintro ⟨a26, c26⟩ _
    refine WL.focus perm1 (WL.append (bytes := 1) rfl rfl (by kernel_rfl) (fun _ hw => row_src (.tail _ (.head _)) hw) (u8s_one _) (by simp only [maxLen]; omega) rfl ?_)
    intro a27 c27
    refine WL.val (OV.assign rfl) rfl ?_
    refine WL.nil ?_
    refine WX.next ?_
    refine WC.region ?_
    refine WL.val (OV.move rfl) rfl ?_
    refine WL.val (OV.move rfl) rfl ?_
    refine WL.val (OV.move rfl) rfl ?_
    refine WL.val (OV.indexSliceA (i := i) rfl rfl T.u29 T.z22 (by omega)) rfl ?_
    refine WL.val (OV.load1 rfl T.u22 rfl (fun _ hw => snapL hw hcell)) rfl ?_
    refine WL.append (bytes := 1) rfl rfl (by kernel_rfl) (fun _ hw => hrb.src) (u8s_one _) (by simp only [maxLen]; omega) rfl ?_
    intro a33 c33
    rw [← u8s_append, ← u8s_append, show (joinL label.data.toList (ls.take i)) ++ be8 m' ++ ls.getD i [] = (joinL label.data.toList (ls.take (i + 1))) from by rw [← hrl]; exact joinL_next hin]
    refine WL.val (OV.assign rfl) rfl ?_
    refine WL.nil ?_
    refine WX.block_normal ?_
    refine WX.next ?_
    refine WC.region ?_
    refine WL.val (OV.move rfl) rfl ?_
    refine WL.val (OV.addN (j := 1) rfl rfl (by omega)) rfl ?_
    refine WL.val (OV.assign rfl) rfl ?_
    refine WL.nil ?_
    have hnx := joinL_next_len (label := label.data.toList) hin hrl
    exact WX.round3 (i + 1) a33 c33 ⟨rfl, rfl, by rw [hnx]; rfl, rfl, trivial⟩ (fun w' hw => ⟨by omega, by rw [hnx]; exact hw.first⟩) (by show n - (i + 1) < n - i; omega)
  · simp only [decide_eq_true_eq, decide_eq_false_iff_not, Bool.not_eq_true', Bool.not_eq_false'] at c17
    refine WC.exit ?_
    refine WX.then_exit ?_
    refine WX.then_exit ?_
    refine WX.block_hit ?_
    refine WX.next ?_
    refine WC.seq ?_
    refine WC.region ?_
    refine WL.val (OV.move rfl) rfl ?_
    refine WL.val (OV.assign rfl) rfl ?_
    refine WL.nil ?_
    refine WX.next ?_
    refine WC.ret ?_
    rw [List.take_of_length_le (by rw [hls.1]; omega)]
    exact WX.ret1 rfl rfl rfl (fun w' hw => ⟨(ai, ci), rfl, trivial, hw.fr, by exact hw.new0 (.head _)⟩)

set_option maxRecDepth 10000 in
theorem refParts_calls (label : ByteArray) (ls : List (List UInt8)) (a : Option Addr) (n c : Nat) (hsz : (joinL label.data.toList ls).length ≤ 1099511627776) (hn : n < 4611686018427387904) (w : World) (hls : RL w a n ls) (hF : Tab w 0 h0W) (hK : Tab w 2 kW) : Calls Tryd.prog 16 #[.string label, .slice a n c] w fun e w' => e = .returned (.agg (u8s (shaD (joinL label.data.toList ls))).toArray) ∧ Fr0 w w' := by
  refine enterS (args := [.string label, .slice a n c]) (fun _ => False) Tryd.func16 rfl Tryd.ntmps16 rfl rfl ?_
  refine WC.seq ?_
  refine WC.region ?_
  refine WL.alloc T.zr25 rfl ?_
  intro b4
  refine WL.nil ?_
  refine WX.next ?_
  refine WC.seq ?_
  refine WC.region ?_
  refine WL.val (OV.move rfl) rfl ?_
  refine WL.val (OV.move rfl) rfl ?_
  refine WL.callF (it := fun q : Option Addr × Nat => row 5 1 q.1 (joinL label.data.toList ls).length q.2 (u8s (joinL label.data.toList ls))) (by kernel_rfl) rfl rfl (fun w' hw => joined_calls label ls a n c hsz hn w' (hls.sat hw)) ?_
  rintro ⟨a7, c7⟩ _
  refine WL.call0 (by kernel_rfl) rfl rfl (fun w' hw => refSum_calls (joinL label.data.toList ls) a7 (joinL label.data.toList ls).length c7 (by omega) w' (RB.of_row hw (.head _)).1 (hF.sat hw) (hK.sat hw)) ?_
  refine WL.focus perm1 (WL.storeAll (vs := u8s (shaD (joinL label.data.toList ls))) rfl rfl (List.all_eq_true.2 (u8s_one _)) (by rw [u8s_length, shaD_length]; exact T.z25) (by rw [u8s_length, u8s_length, shaD_length]; rfl) ?_)
  refine WL.nil ?_
  refine WX.next ?_
  refine WC.ret ?_
  exact WX.retC (cs := u8s (shaD (joinL label.data.toList ls))) rfl rfl rfl T.u25 rfl (by rw [u8s_length, shaD_length]; exact T.z25) (fun _ hw => own_cells hw (.head _)) (fun w hw => ⟨rfl, hw.fr⟩)

end Go.Proofs.YtplebagdajdcnaaDoor
