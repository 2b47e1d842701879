/- Contracts of functions of the program: what each returns and leaves in memory. Printed by gen.py and walk.py. -/
import Derived.Test.YtplebagdajdcnaaDoorS11
namespace Go.Proofs.YtplebagdajdcnaaDoor
open Go Go.Hw
set_option linter.unusedSimpArgs false
set_option linter.unusedVariables false
/-- The key with its zeros, the first i bytes turned. -/
def padP2 (key : List UInt8) (x : UInt8) (i : Nat) : List UInt8 := (maskL (padZ key) x).take i ++ List.replicate (64 - i) 0
theorem padZ_get (key : List UInt8) {i : Nat} (h : i < key.length) : (padZ key).getD i 0 = key.getD i 0 := by
  simp only [padZ, List.getD_eq_getElem?_getD, List.getElem?_append_left h]
theorem padZ_zero (key : List UInt8) {i : Nat} (h : key.length ≤ i) : (padZ key).getD i 0 = 0 := by
  simp only [padZ, List.getD_eq_getElem?_getD, List.getElem?_append_right h, List.getElem?_replicate]
  split <;> rfl
theorem maskL_get (k : List UInt8) (x : UInt8) {i : Nat} (h : i < k.length) : (maskL k x).getD i 0 = k.getD i 0 ^^^ x := by
  simp [maskL, List.getD_eq_getElem?_getD, h]
theorem padP2_length {key : List UInt8} {x : UInt8} {i : Nat} (hk : key.length ≤ 64) (hi : i ≤ 64) : (padP2 key x i).length = 64 := by
  simp [padP2, maskL_length, padZ_length hk]; omega
theorem padP2_at {key : List UInt8} {x : UInt8} {i : Nat} (hk : key.length ≤ 64) (hi : i < 64) : (padP2 key x i).getD i 0 = 0 := by
  simp only [padP2, List.getD_eq_getElem?_getD]
  rw [List.getElem?_append_right (by simp; omega), List.getElem?_replicate]
  split <;> rfl
theorem padP2_set {key : List UInt8} {x : UInt8} {i : Nat} (hk : key.length ≤ 64) (hi : i < 64) : (u8s (padP2 key x i)).set i (b8 ((padZ key).getD i 0 ^^^ x)) = u8s (padP2 key x (i + 1)) := by
  have hl : (maskL (padZ key) x).length = 64 := by rw [maskL_length, padZ_length hk]
  rw [padP2, u8_next (i := i) (by simp; omega) hi, ← maskL_get _ _ (by rw [padZ_length hk]; exact hi), take_snoc _ (by omega)]
  rfl
theorem set_same {l : List UInt8} {i : Nat} (y z : UInt8) : ((u8s l).set i (b8 y)).set i (b8 z) = (u8s l).set i (b8 z) := by simp

set_option maxRecDepth 10000 in
theorem pad_calls (key : List UInt8) (x : UInt8) (a : Option Addr) (m c : Nat) (hm : m ≤ 64) (w : World) (hk : RB w a m key) : Calls Tryd.prog 36 #[.slice a m c, b8 x] w fun e w' => ∃ b, e = .returned (.slice (some ⟨b, 0, none⟩) 64 64) ∧ True ∧ Fr0 w w' ∧ New w w' (own b (.cells (u8s (maskL (padZ key) x)).toArray 5 (0, 0))) := by
  refine enterS (args := [.slice a m c, b8 x]) (fun _ => False) Tryd.func36 rfl Tryd.ntmps36 rfl rfl ?_
  refine WC.seq ?_
  refine WC.region ?_
  refine WL.val (OV.assign rfl) rfl ?_
  refine WL.nil ?_
  refine WX.next ?_
  refine WC.seq ?_
  refine WC.region ?_
  refine WL.makeSlice (bytes := 1) (m := 64) (zc := b8 0) rfl rfl T.u22 T.z5 T.zr5 (by kernel_rfl) (by omega) rfl ?_
  intro b7
  refine WL.val (OV.assign rfl) rfl ?_
  refine WL.nil ?_
  refine WX.next ?_
  refine WC.seq ?_
  refine WC.seq ?_
  refine WC.region ?_
  refine WL.val (OV.assign rfl) rfl ?_
  refine WL.nil ?_
  refine WX.next ?_
  refine WC.block ?_
  have hkl := hk.1
  refine WC.loop1 (fun (i : Nat) => [(0, .slice a m c), (1, b8 x), (5, .slice (some ⟨b7, 0, none⟩) 64 64), (6, .int .i64 (i : Int))])
      (fun i w' => i ≤ 64 ∧ Sat w (fun _ => False) (fun b => b < w.heap.size) w [own b7 (.cells (u8s (padP2 key x i)).toArray 5 (0, 0))] w')
      (fun i => 64 - i) 0 ⟨rfl, rfl, rfl, rfl, trivial⟩ (fun w' hw => ⟨by omega, hw⟩) ?_
  intro i
  refine WC.pure (fun hi => ?_)
  have hpl := padP2_length (key := key) (x := x) (i := i) (by omega) hi
  refine WC.seq ?_
  refine WC.seq ?_
  refine WC.region ?_
  refine WL.val (OV.move rfl) rfl ?_
  refine WL.val (OV.lss rfl rfl) rfl ?_
  refine WL.nil ?_
  refine WX.next ?_
  refine WC.cond rfl (fun c9 => ?_) (fun c9 => ?_)
  · simp only [decide_eq_true_eq, decide_eq_false_iff_not, Bool.not_eq_true', Bool.not_eq_false'] at c9
    refine WC.skip ?_
    refine WX.next ?_
    refine WC.seq ?_
    refine WC.block ?_
    refine WC.seq ?_
    refine WC.seq ?_
    refine WC.region ?_
    refine WL.val (OV.move rfl) rfl ?_
    refine WL.val (OV.move rfl) rfl ?_
    first
    | (refine WL.val (OV.lenSlice rfl T.u22) rfl ?_)
    | (refine WL.val (OV.lenStr rfl T.u22) rfl ?_)
    refine WL.val (OV.lss rfl rfl) rfl ?_
    refine WL.nil ?_
    refine WX.next ?_
    refine WC.cond rfl (fun c15 => ?_) (fun c15 => ?_)
    · simp only [decide_eq_true_eq, decide_eq_false_iff_not, Bool.not_eq_true', Bool.not_eq_false'] at c15
      refine WC.region ?_
      refine WL.val (OV.move rfl) rfl ?_
      refine WL.val (OV.move rfl) rfl ?_
      refine WL.val (OV.move rfl) rfl ?_
      refine WL.val (OV.move rfl) rfl ?_
      have hs1 : ∃ q, a = some q := by
        cases a with
        | none => have := hk.2.1 rfl; omega
        | some q => exact ⟨q, rfl⟩
      obtain ⟨q1, rfl⟩ := hs1
      refine WL.val (OV.indexSliceA (i := i) rfl rfl T.u22 T.z5 (by omega)) rfl ?_
      refine WL.val (OV.load1 rfl T.u5 rfl (fun _ hw => snapL hw (hk.cell (by omega)))) rfl ?_
      first
      | (refine WL.val (OV.indexSliceN rfl rfl T.u22 T.z5 (by omega)) rfl ?_)
      | (refine WL.val (OV.indexSliceA rfl rfl T.u22 T.z5 (by omega)) rfl ?_)
      | (refine WL.val (OV.indexSlice1 rfl rfl T.u22 T.z5 (by omega)) rfl ?_)
      refine WL.store1 rfl rfl rfl T.z5 (by rw [u8s_length, hpl]; omega) ?_
      refine WL.nil ?_
      refine WX.next ?_
      refine WC.region ?_
      refine WL.val (OV.move rfl) rfl ?_
      refine WL.val (OV.move rfl) rfl ?_
      refine WL.val (OV.move rfl) rfl ?_
      refine WL.val (OV.move rfl) rfl ?_
      first
      | (refine WL.val (OV.indexSliceN rfl rfl T.u22 T.z5 (by omega)) rfl ?_)
      | (refine WL.val (OV.indexSliceA rfl rfl T.u22 T.z5 (by omega)) rfl ?_)
      | (refine WL.val (OV.indexSlice1 rfl rfl T.u22 T.z5 (by omega)) rfl ?_)
      refine WL.val (OV.load1 (v := b8 ((padZ key).getD i 0)) rfl T.u5 rfl (fun _ hw => cell_own hw (.head _) (by rw [List.getElem?_toArray, List.getElem?_set_self (by rw [u8s_length, hpl]; omega), padZ_get key (by omega)]))) rfl ?_
      refine WL.val (OV.move rfl) rfl ?_
      refine WL.val (OV.xorB rfl rfl) rfl ?_
      first
      | (refine WL.val (OV.indexSliceN rfl rfl T.u22 T.z5 (by omega)) rfl ?_)
      | (refine WL.val (OV.indexSliceA rfl rfl T.u22 T.z5 (by omega)) rfl ?_)
      | (refine WL.val (OV.indexSlice1 rfl rfl T.u22 T.z5 (by omega)) rfl ?_)
      refine WL.store1 rfl rfl rfl T.z5 (by rw [List.length_set, u8s_length, hpl]; omega) ?_
      rw [set_same, padP2_set (by omega) (by omega)]
      refine WL.nil ?_
      refine WX.block_normal ?_
      refine WX.next ?_
      refine WC.region ?_
      refine WL.val (OV.move rfl) rfl ?_
      refine WL.val (OV.addN (j := 1) rfl rfl (by omega)) rfl ?_
      refine WL.val (OV.assign rfl) rfl ?_
      refine WL.nil ?_
      exact WX.round1 (i + 1) ⟨rfl, rfl, rfl, rfl, trivial⟩ (fun w' hw => ⟨by omega, hw⟩) (by show 64 - (i + 1) < 64 - i; omega)
    · simp only [decide_eq_true_eq, decide_eq_false_iff_not, Bool.not_eq_true', Bool.not_eq_false'] at c15
      refine WC.skip ?_
      refine WX.next ?_
      refine WC.region ?_
      refine WL.val (OV.move rfl) rfl ?_
      refine WL.val (OV.move rfl) rfl ?_
      refine WL.val (OV.move rfl) rfl ?_
      refine WL.val (OV.move rfl) rfl ?_
      first
      | (refine WL.val (OV.indexSliceN rfl rfl T.u22 T.z5 (by omega)) rfl ?_)
      | (refine WL.val (OV.indexSliceA rfl rfl T.u22 T.z5 (by omega)) rfl ?_)
      | (refine WL.val (OV.indexSlice1 rfl rfl T.u22 T.z5 (by omega)) rfl ?_)
      refine WL.val (OV.load1 (v := b8 ((padZ key).getD i 0)) rfl T.u5 rfl (fun _ hw => cell_own hw (.head _) (by rw [u8s_arr _ (by rw [hpl]; omega), padP2_at (by omega) (by omega), padZ_zero key (by omega)]))) rfl ?_
      refine WL.val (OV.move rfl) rfl ?_
      refine WL.val (OV.xorB rfl rfl) rfl ?_
      first
      | (refine WL.val (OV.indexSliceN rfl rfl T.u22 T.z5 (by omega)) rfl ?_)
      | (refine WL.val (OV.indexSliceA rfl rfl T.u22 T.z5 (by omega)) rfl ?_)
      | (refine WL.val (OV.indexSlice1 rfl rfl T.u22 T.z5 (by omega)) rfl ?_)
      refine WL.store1 rfl rfl rfl T.z5 (by rw [u8s_length, hpl]; omega) ?_
      rw [padP2_set (by omega) (by omega)]
      refine WL.nil ?_
      refine WX.block_normal ?_
      refine WX.next ?_
      refine WC.region ?_
      refine WL.val (OV.move rfl) rfl ?_
      refine WL.val (OV.addN (j := 1) rfl rfl (by omega)) rfl ?_
      refine WL.val (OV.assign rfl) rfl ?_
      refine WL.nil ?_
      exact WX.round1 (i + 1) ⟨rfl, rfl, rfl, rfl, trivial⟩ (fun w' hw => ⟨by omega, hw⟩) (by show 64 - (i + 1) < 64 - i; omega)
  · simp only [decide_eq_true_eq, decide_eq_false_iff_not, Bool.not_eq_true', Bool.not_eq_false'] at c9
    refine WC.exit ?_
    refine WX.then_exit ?_
    refine WX.then_exit ?_
    refine WX.block_hit ?_
    refine WX.next ?_
    refine WC.seq ?_
    refine WC.region ?_
    refine WL.val (OV.move rfl) rfl ?_
    refine WL.val (OV.assign rfl) rfl ?_
    refine WL.nil ?_
    refine WX.next ?_
    refine WC.ret ?_
    have hi64 : i = 64 := by omega
    subst hi64
    rw [show padP2 key x 64 = maskL (padZ key) x from by rw [padP2, List.take_of_length_le (by rw [maskL_length, padZ_length (by omega)]; omega)]; exact List.append_nil _]
    exact WX.ret1 rfl rfl rfl (fun w' hw => ⟨b7, rfl, trivial, hw.fr, hw.new0 (.head _)⟩)

set_option maxRecDepth 10000 in
theorem refMac_calls (key l : List UInt8) (a a2 : Option Addr) (m c m2 c2 : Nat) (hsz : m ≤ 140737488351232) (hsz2 : m2 ≤ 140737488351232) (w : World) (hk : RB w a m key) (hl : RB w a2 m2 l) (hF : Tab w 0 h0W) (hK : Tab w 2 kW) : Calls Tryd.prog 18 #[.slice a m c, .slice a2 m2 c2] w fun e w' => e = .returned (.agg (u8s (hmacD key l)).toArray) ∧ Fr0 w w' := by
  refine enterS (args := [.slice a m c, .slice a2 m2 c2]) (fun _ => False) Tryd.func18 rfl Tryd.ntmps18 rfl rfl ?_
  refine WC.seq ?_
  refine WC.region ?_
  refine WL.alloc T.zr25 rfl ?_
  intro b4
  refine WL.nil ?_
  refine WX.next ?_
  refine WC.seq ?_
  refine WC.seq ?_
  refine WC.region ?_
  refine WL.val (OV.move rfl) rfl ?_
  first
  | (refine WL.val (OV.lenSlice rfl T.u22) rfl ?_)
  | (refine WL.val (OV.lenStr rfl T.u22) rfl ?_)
  refine WL.val (OV.gtr rfl rfl) rfl ?_
  refine WL.nil ?_
  refine WX.next ?_
  refine WC.cond rfl (fun c9 => ?_) (fun c9 => ?_)
  · simp only [decide_eq_true_eq, decide_eq_false_iff_not, Bool.not_eq_true', Bool.not_eq_false'] at c9
    refine WC.seq ?_
    refine WC.region ?_
    refine WL.val (OV.move rfl) rfl ?_
    refine WL.call0 (by kernel_rfl) rfl rfl (fun w' hw => refSum_calls key a m c (by omega) w' (hk.sat hw) (hF.sat hw) (hK.sat hw)) ?_
    refine WL.alloc T.zr25 rfl ?_
    intro b5
    refine (WL.storeAll (vs := u8s (shaD key)) rfl rfl (List.all_eq_true.2 (u8s_one _)) (by rw [u8s_length, shaD_length]; exact T.z25) (by rw [u8s_length, u8s_length, shaD_length]; rfl) ?_)
    refine WL.nil ?_
    refine WX.next ?_
    refine WC.region ?_
    refine WL.val (OV.sliceArrAll rfl T.u25 T.z5) rfl ?_
    refine WL.val (OV.assign rfl) rfl ?_
    refine WL.nil ?_
    refine WX.next ?_
    refine WC.seq ?_
    refine WC.region ?_
    refine WL.val (OV.move rfl) rfl ?_
    have hks : keyS key = shaD key := by rw [keyS, if_pos (by rw [hk.1]; omega)]
    refine WL.callF (it := fun b => own b (.cells (u8s (maskL (padZ (keyS key)) 54)).toArray 5 (0, 0))) (by kernel_rfl) rfl rfl (fun w' hw => pad_calls (keyS key) 54 (some ⟨b5, 0, none⟩) 32 32 (by omega) w' (by rw [hks]; exact RB.of_own hw (.head _) (shaD_length _))) ?_
    intro b14 _
    refine WL.val (OV.move rfl) rfl ?_
    refine WL.toRow (m := 64) (by rw [u8s_length, maskL_length, padZ_length (keyS_length _)]) (by decide) ?_
    refine WL.append (bytes := 1) rfl rfl (by kernel_rfl) (fun _ hw => hl.src) (u8s_one _) (by simp only [maxLen]; omega) rfl ?_
    intro a16 c16
    rw [← u8s_append]
    refine WL.call0 (by kernel_rfl) rfl rfl (fun w' hw => refSum_calls ((maskL (padZ (keyS key)) 54) ++ l) a16 (64 + m2) c16 (by omega) w' (RB.of_row hw (.head _)).1 (hF.sat hw) (hK.sat hw)) ?_
    refine WL.alloc T.zr25 rfl ?_
    intro b6
    refine (WL.storeAll (vs := u8s (shaD ((maskL (padZ (keyS key)) 54) ++ l))) rfl rfl (List.all_eq_true.2 (u8s_one _)) (by rw [u8s_length, shaD_length]; exact T.z25) (by rw [u8s_length, u8s_length, shaD_length]; rfl) ?_)
    refine WL.nil ?_
    refine WX.next ?_
    refine WC.seq ?_
    refine WC.drawnS (fun _ => True) (by kernel_rfl) (m := 6) rfl ?_
    refine WH.take 0 rfl (by kernel_rfl) (by kernel_rfl) (by kernel_rfl) (fun _ _ => trivial) (OV.move rfl) rfl (listed' := [true, false, false, false, false, false]) rfl ?_
    refine WH.take 2 rfl (by kernel_rfl) (by kernel_rfl) (by kernel_rfl) (fun _ _ => trivial) (OV.sliceArrAll rfl T.u25 T.z5) rfl (listed' := [true, false, true, false, false, false]) rfl ?_
    refine WH.only 1 rfl (by kernel_rfl) (listed' := [true, true, true, false, false, false]) rfl ?_
    refine WL.callF (it := fun b => own b (.cells (u8s (maskL (padZ (keyS key)) 92)).toArray 5 (0, 0))) (by kernel_rfl) rfl rfl (fun w' hw => pad_calls (keyS key) 92 (some ⟨b5, 0, none⟩) 32 32 (by omega) w' (by rw [hks]; exact RB.of_own hw (.tail _ (.tail _ (.head _))) (shaD_length _))) ?_
    intro b19 _
    refine WL.nil ?_
    refine WX.cont (fun _ _ => trivial) ?_
    refine WH.only 3 rfl (by kernel_rfl) (listed' := [true, true, true, true, false, false]) rfl ?_
    refine WL.toRow (m := 64) (by rw [u8s_length, maskL_length, padZ_length (keyS_length _)]) (by decide) ?_
    refine WL.append (bytes := 1) rfl rfl (by kernel_rfl) (fun _ hw => own_src (.tail _ (.head _)) (by rw [u8s_length, shaD_length])) (u8s_one _) (by simp only [maxLen]; omega) rfl ?_
    intro a21 c21
    rw [← u8s_append]
    refine WL.nil ?_
    refine WX.cont (fun _ _ => trivial) ?_
    refine WH.only 4 rfl (by kernel_rfl) (listed' := [true, true, true, true, true, false]) rfl ?_
    refine WL.call0 (by kernel_rfl) rfl rfl (fun w' hw => refSum_calls ((maskL (padZ (keyS key)) 92) ++ shaD ((maskL (padZ (keyS key)) 54) ++ l)) a21 (64 + 32) c21 (by omega) w' (RB.of_row hw (.head _)).1 (hF.sat hw) (hK.sat hw)) ?_
    refine WL.nil ?_
    refine WX.cont (fun _ _ => trivial) ?_
    refine WH.only 5 rfl (by kernel_rfl) (listed' := [true, true, true, true, true, true]) rfl ?_
    refine WL.focus perm4 (WL.storeAll (vs := u8s (shaD ((maskL (padZ (keyS key)) 92) ++ shaD ((maskL (padZ (keyS key)) 54) ++ l)))) rfl rfl (List.all_eq_true.2 (u8s_one _)) (by rw [u8s_length, shaD_length]; exact T.z25) (by rw [u8s_length, u8s_length, shaD_length]; rfl) ?_)
    refine WL.nil ?_
    refine WX.cont (fun _ _ => trivial) ?_
    refine WH.done (by kernel_rfl) ?_
    refine WX.next ?_
    refine WC.ret ?_
    exact WX.retC (cs := u8s (hmacD key l)) rfl rfl rfl T.u25 rfl (by rw [u8s_length, hmacD_length]; exact T.z25) (fun _ hw => own_cells hw (.head _)) (fun w hw => ⟨rfl, hw.fr⟩)
  · simp only [decide_eq_true_eq, decide_eq_false_iff_not, Bool.not_eq_true', Bool.not_eq_false'] at c9
    refine WC.skip ?_
    refine WX.next ?_
    refine WC.seq ?_
    refine WC.region ?_
    refine WL.val (OV.move rfl) rfl ?_
    have hks : keyS key = key := by rw [keyS, if_neg (by rw [hk.1]; omega)]
    refine WL.callF (it := fun b => own b (.cells (u8s (maskL (padZ (keyS key)) 54)).toArray 5 (0, 0))) (by kernel_rfl) rfl rfl (fun w' hw => pad_calls (keyS key) 54 a m c (by omega) w' (by rw [hks]; exact hk.sat hw)) ?_
    intro b14 _
    refine WL.val (OV.move rfl) rfl ?_
    refine WL.toRow (m := 64) (by rw [u8s_length, maskL_length, padZ_length (keyS_length _)]) (by decide) ?_
    refine WL.append (bytes := 1) rfl rfl (by kernel_rfl) (fun _ hw => hl.src) (u8s_one _) (by simp only [maxLen]; omega) rfl ?_
    intro a16 c16
    rw [← u8s_append]
    refine WL.call0 (by kernel_rfl) rfl rfl (fun w' hw => refSum_calls ((maskL (padZ (keyS key)) 54) ++ l) a16 (64 + m2) c16 (by omega) w' (RB.of_row hw (.head _)).1 (hF.sat hw) (hK.sat hw)) ?_
    refine WL.alloc T.zr25 rfl ?_
    intro b6
    refine (WL.storeAll (vs := u8s (shaD ((maskL (padZ (keyS key)) 54) ++ l))) rfl rfl (List.all_eq_true.2 (u8s_one _)) (by rw [u8s_length, shaD_length]; exact T.z25) (by rw [u8s_length, u8s_length, shaD_length]; rfl) ?_)
    refine WL.nil ?_
    refine WX.next ?_
    refine WC.seq ?_
    refine WC.drawnS (fun _ => True) (by kernel_rfl) (m := 6) rfl ?_
    refine WH.take 0 rfl (by kernel_rfl) (by kernel_rfl) (by kernel_rfl) (fun _ _ => trivial) (OV.move rfl) rfl (listed' := [true, false, false, false, false, false]) rfl ?_
    refine WH.take 2 rfl (by kernel_rfl) (by kernel_rfl) (by kernel_rfl) (fun _ _ => trivial) (OV.sliceArrAll rfl T.u25 T.z5) rfl (listed' := [true, false, true, false, false, false]) rfl ?_
    refine WH.only 1 rfl (by kernel_rfl) (listed' := [true, true, true, false, false, false]) rfl ?_
    refine WL.callF (it := fun b => own b (.cells (u8s (maskL (padZ (keyS key)) 92)).toArray 5 (0, 0))) (by kernel_rfl) rfl rfl (fun w' hw => pad_calls (keyS key) 92 a m c (by omega) w' (by rw [hks]; exact hk.sat hw)) ?_
    intro b19 _
    refine WL.nil ?_
    refine WX.cont (fun _ _ => trivial) ?_
    refine WH.only 3 rfl (by kernel_rfl) (listed' := [true, true, true, true, false, false]) rfl ?_
    refine WL.toRow (m := 64) (by rw [u8s_length, maskL_length, padZ_length (keyS_length _)]) (by decide) ?_
    refine WL.append (bytes := 1) rfl rfl (by kernel_rfl) (fun _ hw => own_src (.tail _ (.head _)) (by rw [u8s_length, shaD_length])) (u8s_one _) (by simp only [maxLen]; omega) rfl ?_
    intro a21 c21
    rw [← u8s_append]
    refine WL.nil ?_
    refine WX.cont (fun _ _ => trivial) ?_
    refine WH.only 4 rfl (by kernel_rfl) (listed' := [true, true, true, true, true, false]) rfl ?_
    refine WL.call0 (by kernel_rfl) rfl rfl (fun w' hw => refSum_calls ((maskL (padZ (keyS key)) 92) ++ shaD ((maskL (padZ (keyS key)) 54) ++ l)) a21 (64 + 32) c21 (by omega) w' (RB.of_row hw (.head _)).1 (hF.sat hw) (hK.sat hw)) ?_
    refine WL.nil ?_
    refine WX.cont (fun _ _ => trivial) ?_
    refine WH.only 5 rfl (by kernel_rfl) (listed' := [true, true, true, true, true, true]) rfl ?_
    refine WL.focus perm3 (WL.storeAll (vs := u8s (shaD ((maskL (padZ (keyS key)) 92) ++ shaD ((maskL (padZ (keyS key)) 54) ++ l)))) rfl rfl (List.all_eq_true.2 (u8s_one _)) (by rw [u8s_length, shaD_length]; exact T.z25) (by rw [u8s_length, u8s_length, shaD_length]; rfl) ?_)
    refine WL.nil ?_
    refine WX.cont (fun _ _ => trivial) ?_
    refine WH.done (by kernel_rfl) ?_
    refine WX.next ?_
    refine WC.ret ?_
    exact WX.retC (cs := u8s (hmacD key l)) rfl rfl rfl T.u25 rfl (by rw [u8s_length, hmacD_length]; exact T.z25) (fun _ hw => own_cells hw (.head _)) (fun w hw => ⟨rfl, hw.fr⟩)

end Go.Proofs.YtplebagdajdcnaaDoor
