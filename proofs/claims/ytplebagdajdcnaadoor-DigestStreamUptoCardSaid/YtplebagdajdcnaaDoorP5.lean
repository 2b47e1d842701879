/- Contracts of functions of the program: what each returns and leaves in memory. Printed by gen.py and walk.py. -/
import Derived.Test.YtplebagdajdcnaaDoorP4
namespace Go.Proofs.YtplebagdajdcnaaDoor
open Go Go.Hw
set_option linter.unusedSimpArgs false
set_option linter.unusedVariables false
def loP (n k : Nat) : List UInt8 := List.replicate (8 - k) 0 ++ (be8 n).drop (8 - k)
theorem loP_length {n k : Nat} (h : k ≤ 8) : (loP n k).length = 8 := by simp [loP, be8_length] <;> omega
theorem be8_at {n k : Nat} (h : k < 8) : (be8 n).getD (7 - k) 0 = UInt8.ofNat (n / 256 ^ k % 256) := by
  have h1 : (be8 n).getD (7 - k) 0 = UInt8.ofNat (n / 2 ^ (56 - 8 * (7 - k))) := by
    simp [be8, List.getD_eq_getElem?_getD, show 7 - k < 8 from by omega]
  rw [h1, show 56 - 8 * (7 - k) = 8 * k from by omega, Nat.pow_mul, show (2 : Nat) ^ 8 = 256 from rfl]
  apply UInt8.toNat_inj.1
  rw [UInt8.toNat_ofNat', UInt8.toNat_ofNat']
  omega
theorem loP_set {n k : Nat} (h : k < 8) : (u8s (loP n k)).set (7 - k) (b8 (UInt8.ofNat (n / 256 ^ k % 256))) = u8s (loP n (k + 1)) := by
  rw [u8s_set, ← be8_at h]
  congr 1
  have hb := be8_length n
  apply List.ext_getElem?
  intro j
  simp only [loP]
  by_cases hj : j = 7 - k
  · subst hj
    rw [List.getElem?_set_self (by simp [be8_length] <;> omega), List.getElem?_append_right (by simp <;> omega)]
    simp only [List.length_replicate, List.getElem?_drop, List.getD_eq_getElem?_getD]
    rw [show 8 - (k + 1) + (7 - k - (8 - (k + 1))) = 7 - k from by omega, List.getElem?_eq_getElem (by omega)]
    rfl
  · rw [List.getElem?_set_ne (by omega)]
    by_cases h1 : j < 7 - k
    · rw [List.getElem?_append_left (by simp; omega), List.getElem?_append_left (by simp; omega), List.getElem?_replicate, List.getElem?_replicate, if_pos (by omega), if_pos (by omega)]
    · rw [List.getElem?_append_right (by simp; omega), List.getElem?_append_right (by simp; omega), List.getElem?_drop, List.getElem?_drop]
      congr 1
      simp; omega

set_option maxRecDepth 10000 in
theorem lawEight_calls (n : Nat) (hn : n < 9223372036854775808) (w : World) : Calls Tryd.prog 29 #[.int .i64 (n : Int)] w fun e w' => ∃ b, e = .returned (.slice (some ⟨b, 0, none⟩) 8 8) ∧ True ∧ Fr0 w w' ∧ New w w' (own b (.cells (u8s (be8 n)).toArray 5 (0, 0))) := by
  refine enterS (args := [.int .i64 (n : Int)]) (fun _ => False) Tryd.func29 rfl Tryd.ntmps29 rfl rfl ?_
  refine WC.seq ?_
  refine WC.region ?_
  refine WL.val (OV.assign rfl) rfl ?_
  refine WL.nil ?_
  refine WX.next ?_
  refine WC.seq ?_
  refine WC.region ?_
  refine WL.makeSlice (bytes := 1) (m := 8) (zc := b8 0) rfl rfl T.u22 T.z5 T.zr5 (by kernel_rfl) (by omega) rfl ?_
  intro b5
  refine WL.val (OV.assign rfl) rfl ?_
  refine WL.nil ?_
  refine WX.next ?_
  refine WC.seq ?_
  refine WC.seq ?_
  refine WC.region ?_
  refine WL.val (OV.assign rfl) rfl ?_
  refine WL.nil ?_
  refine WX.next ?_
  refine WC.block ?_
  refine WC.loop1 (fun (k : Nat) => [(0, .int .i64 ((n / 256 ^ k : Nat) : Int)), (3, .slice (some ⟨b5, 0, none⟩) 8 8), (4, .int .i64 (7 - (k : Int)))])
      (fun k w' => k ≤ 8 ∧ Sat w (fun _ => False) (fun b => b < w.heap.size) w [own b5 (.cells (u8s (loP n k)).toArray 5 (0, 0))] w')
      (fun k => 8 - k) 0 ⟨by rw [Nat.pow_zero, Nat.div_one]; rfl, rfl, rfl, trivial⟩ (fun w' hw => ⟨by omega, by
        rw [show loP n 0 = List.replicate 8 0 from by simp [loP, List.drop_eq_nil_of_le, be8_length]]
        exact hw⟩) ?_
  intro k
  refine WC.pure (fun hk => ?_)
  refine WC.seq ?_
  refine WC.seq ?_
  refine WC.region ?_
  refine WL.val (OV.move rfl) rfl ?_
  refine WL.val (OV.geq rfl rfl) rfl ?_
  refine WL.nil ?_
  refine WX.next ?_
  refine WC.cond rfl (fun c7 => ?_) (fun c7 => ?_)
  · simp only [decide_eq_true_eq, decide_eq_false_iff_not, Bool.not_eq_true', Bool.not_eq_false'] at c7
    refine WC.skip ?_
    refine WX.next ?_
    refine WC.seq ?_
    refine WC.block ?_
    refine WC.seq ?_
    refine WC.region ?_
    refine WL.val (OV.move rfl) rfl ?_
    refine WL.val (OV.move rfl) rfl ?_
    refine WL.val (OV.move rfl) rfl ?_
    have hle : n / 256 ^ k ≤ n := Nat.div_le_self _ _
    refine WL.val (OV.remNat (j := 256) rfl rfl (by omega)) rfl ?_
    refine WL.val (OV.convI_8 T.u3 T.u5 rfl) rfl ?_
    refine WL.val ((OV.indexSlice1 rfl rfl T.u22 T.z5 (by omega)).cast (u := .pointer (some ⟨b5, 7 - k, none⟩)) (by rw [show 0 + (7 - (k : Int)).toNat = 7 - k from by omega])) rfl ?_
    refine WL.store1 rfl rfl rfl T.z5 (by rw [u8s_length, loP_length (by omega)]; omega) ?_
    rw [loP_set (by omega)]
    refine WL.nil ?_
    refine WX.next ?_
    refine WC.region ?_
    refine WL.val (OV.move rfl) rfl ?_
    refine WL.val ((OV.quoN (j := 256) rfl rfl (by omega)).cast (u := .int .i64 ((n / 256 ^ (k + 1) : Nat) : Int)) (by rw [Nat.pow_succ, Nat.div_div_eq_div_mul])) rfl ?_
    refine WL.val (OV.assign rfl) rfl ?_
    refine WL.nil ?_
    refine WX.block_normal ?_
    refine WX.next ?_
    refine WC.region ?_
    refine WL.val (OV.move rfl) rfl ?_
    refine WL.val ((OV.subI rfl rfl (by omega)).cast (u := .int .i64 (7 - ((k + 1 : Nat) : Int))) (by congr 1; omega)) rfl ?_
    refine WL.val (OV.assign rfl) rfl ?_
    refine WL.nil ?_
    exact WX.round1 (k + 1) ⟨rfl, rfl, rfl, trivial⟩ (fun w' hw => ⟨by omega, hw⟩) (by show 8 - (k + 1) < 8 - k; omega)
  · simp only [decide_eq_true_eq, decide_eq_false_iff_not, Bool.not_eq_true', Bool.not_eq_false'] at c7
    refine WC.exit ?_
    refine WX.then_exit ?_
    refine WX.then_exit ?_
    refine WX.block_hit ?_
    refine WX.next ?_
    refine WC.seq ?_
    refine WC.region ?_
    refine WL.val (OV.move rfl) rfl ?_
    refine WL.val (OV.assign rfl) rfl ?_
    refine WL.nil ?_
    refine WX.next ?_
    refine WC.ret ?_
    have hk8 : k = 8 := by omega
    subst hk8
    rw [show loP n 8 = be8 n from rfl]
    exact WX.ret1 rfl rfl rfl (fun w' hw => ⟨b5, rfl, trivial, hw.fr, hw.new0 (.head _)⟩)

set_option maxRecDepth 10000 in
theorem laid_calls (label : ByteArray) (ls : List (List UInt8)) (a : Option Addr) (n c : Nat) (hsz : (joinL label.data.toList ls).length ≤ 1099511627776) (hn : n ≤ 1099511627776) (w : World) (hls : RL w a n ls) (hF : Tab w 1 h0W) (hK : Tab w 3 kW) : Calls Tryd.prog 10 #[.string label, .slice a n c] w fun e w' => e = .returned (.bool true) ∧ Fr0 w w' := by
  refine enterS (args := [.string label, .slice a n c]) (fun _ => False) Tryd.func10 rfl Tryd.ntmps10 rfl rfl ?_
  refine WC.seq ?_
  refine WC.region ?_
  refine WL.val (OV.assign rfl) rfl ?_
  refine WL.nil ?_
  refine WX.next ?_
  refine WC.seq ?_
  refine WC.region ?_
  refine WL.val (OV.move rfl) rfl ?_
  first
  | (refine WL.val (OV.lenSlice rfl T.u9) rfl ?_)
  | (refine WL.val (OV.lenStr rfl T.u9) rfl ?_)
  have hlab : label.data.toList.length = label.size := by rw [Array.length_toList]; rfl
  have hjl : label.size + 8 ≤ (joinL label.data.toList ls).length := by
    simp only [joinL, List.length_append, be8_length]; omega
  refine WL.callF (it := fun b => own b (.cells (u8s (be8 label.size)).toArray 5 (0, 0))) (by kernel_rfl) rfl rfl (fun w' _ => lawEight_calls label.size (by omega) w') ?_
  intro b9 _
  refine WL.val (OV.assign rfl) rfl ?_
  refine WL.nil ?_
  refine WX.next ?_
  refine WC.seq ?_
  refine WC.region ?_
  refine WL.val (OV.move rfl) rfl ?_
  refine WL.val (OV.move rfl) rfl ?_
  refine WL.toRow (m := 8) (by rw [u8s_length, be8_length]) (by decide) ?_
  refine WL.appendS rfl rfl (by kernel_rfl) (by omega) rfl ?_
  intro a12 c12
  rw [← u8s_append, show be8 label.size ++ label.data.toList = joinL label.data.toList (ls.take 0) from by rw [joinL, List.take_zero, hlab]; simp [layP]]
  refine WL.val (OV.assign rfl) rfl ?_
  refine WL.nil ?_
  refine WX.next ?_
  refine WC.seq ?_
  refine WC.seq ?_
  refine WC.region ?_
  refine WL.val (OV.assign rfl) rfl ?_
  refine WL.nil ?_
  refine WX.next ?_
  refine WC.block ?_
  have hj0 : (joinL label.data.toList (ls.take 0)).length = 8 + label.size := by rw [joinL, List.take_zero]; simp [layP, be8_length]
  refine WC.loop3 (fun (i : Nat) (a' : Option Addr) (c' : Nat) => [(0, .string label), (1, .slice a n c), (5, .slice a' (joinL label.data.toList (ls.take i)).length c'), (6, .int .i64 (i : Int))])
      (fun i a' c' w' => i ≤ n ∧ Sat w (fun _ => False) (fun b => b < w.heap.size) w [row 5 1 a' (joinL label.data.toList (ls.take i)).length c' (u8s (joinL label.data.toList (ls.take i)))] w')
      (fun i _ _ => n - i) 0 a12 c12 ⟨rfl, rfl, by rw [hj0]; rfl, rfl, trivial⟩ (fun w' hw => ⟨by omega, by rw [hj0]; exact hw.first⟩) ?_
  intro i ai ci
  refine WC.pure (fun hi => ?_)
  have hle := joinL_le (label := label.data.toList) (ls := ls) i
  refine WC.seq ?_
  refine WC.seq ?_
  refine WC.region ?_
  refine WL.val (OV.move rfl) rfl ?_
  refine WL.val (OV.move rfl) rfl ?_
  first
  | (refine WL.val (OV.lenSlice rfl T.u29) rfl ?_)
  | (refine WL.val (OV.lenStr rfl T.u29) rfl ?_)
  refine WL.val (OV.lss rfl rfl) rfl ?_
  refine WL.nil ?_
  refine WX.next ?_
  refine WC.cond rfl (fun c16 => ?_) (fun c16 => ?_)
  · simp only [decide_eq_true_eq, decide_eq_false_iff_not, Bool.not_eq_true', Bool.not_eq_false'] at c16
    refine WC.skip ?_
    refine WX.next ?_
    refine WC.seq ?_
    refine WC.block ?_
    refine WC.seq ?_
    refine WC.region ?_
    refine WL.val (OV.move rfl) rfl ?_
    refine WL.val (OV.move rfl) rfl ?_
    refine WL.val (OV.move rfl) rfl ?_
    have hin : i < ls.length := by rw [hls.1]; omega
    obtain ⟨q, rfl⟩ := hls.some (by omega)
    obtain ⟨a', m', c', hcell, hrb, hmc⟩ := hls.get (i := i) (by omega)
    have hst := joinL_step_le (label := label.data.toList) hin
    have hrl := hrb.1
    refine WL.val (OV.indexSliceA (i := i) rfl rfl T.u29 T.z22 (by omega)) rfl ?_
    refine WL.val (OV.load1 rfl T.u22 rfl (fun _ hw => snapL hw hcell)) rfl ?_
    first
    | (refine WL.val (OV.lenSlice rfl T.u22) rfl ?_)
    | (refine WL.val (OV.lenStr rfl T.u22) rfl ?_)
    refine WL.callF (it := fun b => own b (.cells (u8s (be8 m')).toArray 5 (0, 0))) (by kernel_rfl) rfl rfl (fun w' _ => lawEight_calls m' (by omega) w') ?_
    intro b25 _
    refine WL.focus perm1 (WL.append (bytes := 1) rfl rfl (by kernel_rfl) (fun _ hw => own_src (.tail _ (.head _)) (by rw [u8s_length, be8_length])) (u8s_one _) (by simp only [maxLen]; omega) rfl ?_)
    intro a26 c26
    refine WL.val (OV.assign rfl) rfl ?_
    refine WL.nil ?_
    refine WX.next ?_
    refine WC.region ?_
    refine WL.val (OV.move rfl) rfl ?_
    refine WL.val (OV.move rfl) rfl ?_
    refine WL.val (OV.move rfl) rfl ?_
    refine WL.val (OV.indexSliceA (i := i) rfl rfl T.u29 T.z22 (by omega)) rfl ?_
    refine WL.val (OV.load1 rfl T.u22 rfl (fun _ hw => snapL hw hcell)) rfl ?_
    refine WL.append (bytes := 1) rfl rfl (by kernel_rfl) (fun _ hw => hrb.src) (u8s_one _) (by simp only [maxLen]; omega) rfl ?_
    intro a32 c32
    rw [← u8s_append, ← u8s_append, show (joinL label.data.toList (ls.take i)) ++ be8 m' ++ ls.getD i [] = (joinL label.data.toList (ls.take (i + 1))) from by rw [← hrl]; exact joinL_next hin]
    refine WL.val (OV.assign rfl) rfl ?_
    refine WL.nil ?_
    refine WX.block_normal ?_
    refine WX.next ?_
    refine WC.region ?_
    refine WL.val (OV.move rfl) rfl ?_
    refine WL.val (OV.addN (j := 1) rfl rfl (by omega)) rfl ?_
    refine WL.val (OV.assign rfl) rfl ?_
    refine WL.nil ?_
    have hnx := joinL_next_len (label := label.data.toList) hin hrl
    exact WX.round3 (i + 1) a32 c32 ⟨rfl, rfl, by rw [hnx]; rfl, rfl, trivial⟩ (fun w' hw => ⟨by omega, by rw [hnx]; exact hw.first⟩) (by show n - (i + 1) < n - i; omega)
  · simp only [decide_eq_true_eq, decide_eq_false_iff_not, Bool.not_eq_true', Bool.not_eq_false'] at c16
    refine WC.exit ?_
    refine WX.then_exit ?_
    refine WX.then_exit ?_
    refine WX.block_hit ?_
    refine WX.next ?_
    refine WC.seq ?_
    rw [List.take_of_length_le (by rw [hls.1]; omega)]
    refine WC.region ?_
    refine WL.val (OV.move rfl) rfl ?_
    refine WL.val (OV.move rfl) rfl ?_
    refine WL.call0 (by kernel_rfl) rfl rfl (fun w' hw => parts_calls label ls a n c (by omega) (by omega) w' (hls.sat hw) (hF.sat hw) (hK.sat hw)) ?_
    refine WL.val (OV.move rfl) rfl ?_
    refine WL.call0 (by kernel_rfl) rfl rfl (fun w' hw => sum_calls (joinL label.data.toList ls) ai (joinL label.data.toList ls).length ci (RB.of_row hw (.head _)).2 (by omega) w' (RB.of_row hw (.head _)).1 (hF.sat hw) (hK.sat hw)) ?_
    first
    | (refine WL.val (OV.eql rfl rfl) rfl ?_)
    | (refine WL.val (OV.eqlA T.u25 T.u5 T.z5 (by kernel_rfl) rfl rfl (shaD_length _) (shaD_length _)) rfl ?_)
    refine WL.val (OV.move rfl) rfl ?_
    refine WL.known (t := 39) (b := true) rfl (by simp) ?_
    refine WL.go (b := true) rfl rfl rfl ?_
    refine WL.call0 (by kernel_rfl) rfl rfl (fun w' hw => head_calls w' (hF.sat hw) (hK.sat hw)) ?_
    refine WL.val (OV.pickT rfl rfl) rfl ?_
    refine WL.val (OV.assign rfl) rfl ?_
    refine WL.nil ?_
    refine WX.next ?_
    refine WC.ret ?_
    exact WX.ret1 rfl rfl rfl (fun w hw => ⟨rfl, hw.fr⟩)

end Go.Proofs.YtplebagdajdcnaaDoor
