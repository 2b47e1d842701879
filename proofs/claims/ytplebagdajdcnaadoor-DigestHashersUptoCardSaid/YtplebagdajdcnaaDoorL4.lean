/- Contracts of functions of the program: what each returns and leaves in memory. Printed by gen.py and walk.py. -/
import Derived.Test.YtplebagdajdcnaaDoorL3
namespace Go.Proofs.YtplebagdajdcnaaDoor
open Go Go.Hw
set_option linter.unusedSimpArgs false
set_option linter.unusedVariables false
theorem keyS_keyS (key : List UInt8) : keyS (keyS key) = keyS key := by
  have h := keyS_length key
  rw [keyS, if_neg (by omega)]
theorem padZ_full {l : List UInt8} (h : l.length = 64) : padZ l = l := by simp [padZ, h]
theorem keyS_padZ (key : List UInt8) : padZ (keyS (padZ (keyS key))) = padZ (keyS key) := by
  have h := padZ_length (keyS_length key)
  rw [show keyS (padZ (keyS key)) = padZ (keyS key) from by rw [keyS, if_neg (by omega)], padZ_full h]
theorem hmacD_keyS (key l : List UInt8) : hmacD (keyS key) l = hmacD key l := by rw [hmacD, keyS_keyS]; rfl
theorem hmacD_padZ (key l : List UInt8) : hmacD (padZ (keyS key)) l = hmacD key l := by rw [hmacD, keyS_padZ]; rfl
def zerosB (l : List UInt8) (j : Nat) : List UInt8 := l ++ List.replicate j 0
theorem padP2_full {key : List UInt8} {x : UInt8} (h : key.length ≤ 64) : padP2 key x 64 = maskL (padZ key) x := by
  rw [padP2, List.take_of_length_le (by rw [maskL_length, padZ_length h]; omega)]
  exact List.append_nil _
theorem zerosB_succ (l : List UInt8) (j : Nat) : zerosB l j ++ [0] = zerosB l (j + 1) := by simp [zerosB, List.replicate_succ' (n := j)]

set_option maxRecDepth 10000 in
set_option maxHeartbeats 1000000 in
theorem keyed_calls (key l : List UInt8) (a a2 : Option Addr) (m c m2 c2 : Nat) (hm : m ≤ c) (hm2 : m2 ≤ c2) (hsz : m ≤ 140737488351232) (hsz2 : m2 ≤ 140737488351232) (w : World) (hk : RB w a m key) (hl : RB w a2 m2 l) (hF : Tab w 1 h0W) (hK : Tab w 3 kW) : Calls Tryd.prog 6 #[.slice a m c, .slice a2 m2 c2] w fun e w' => e = .returned (.bool true) ∧ Fr0 w w' := by
  refine enterS (args := [.slice a m c, .slice a2 m2 c2]) (fun _ => False) Tryd.func6 rfl Tryd.ntmps6 rfl rfl ?_
  refine WC.seq ?_
  refine WC.region ?_
  refine WL.val (OV.assign rfl) rfl ?_
  refine WL.nil ?_
  refine WX.next ?_
  refine WC.seq ?_
  refine WC.region ?_
  refine WL.val (OV.assign rfl) rfl ?_
  refine WL.nil ?_
  refine WX.next ?_
  refine WC.seq ?_
  refine WC.region ?_
  refine WL.val (OV.move rfl) rfl ?_
  refine WL.val (OV.move rfl) rfl ?_
  refine WL.nilRow 5 ?_
  refine WL.append (bytes := 1) rfl rfl (by kernel_rfl) (fun _ hw => hk.src) (u8s_one _) (by simp only [maxLen]; omega) rfl ?_
  intro a13 c13
  rw [List.nil_append]
  refine WL.val (OV.assign rfl) rfl ?_
  refine WL.nil ?_
  refine WX.next ?_
  refine WC.seq ?_
  refine WC.seq ?_
  refine WC.region ?_
  refine WL.val (OV.move rfl) rfl ?_
  first
  | (refine WL.val (OV.lenSlice rfl T.u22) rfl ?_)
  | (refine WL.val (OV.lenStr rfl T.u22) rfl ?_)
  refine WL.val (OV.gtr rfl rfl) rfl ?_
  refine WL.nil ?_
  refine WX.next ?_
  refine WC.cond rfl (fun c16 => ?_) (fun c16 => ?_)
  · simp only [decide_eq_true_eq, decide_eq_false_iff_not, Bool.not_eq_true', Bool.not_eq_false'] at c16
    refine WC.seq ?_
    refine WC.region ?_
    refine WL.val (OV.move rfl) rfl ?_
    refine WL.call0 (by kernel_rfl) rfl rfl (fun w' hw => sum_calls key a13 (0 + m) c13 ((RB.of_row hw (.head _)).2) (by omega) w' ((RB.of_row hw (.head _)).1) (hF.sat hw) (hK.sat hw)) ?_
    refine WL.alloc T.zr25 rfl ?_
    intro b6
    refine WL.storeAll (vs := u8s (shaD key)) rfl rfl (List.all_eq_true.2 (u8s_one _)) (by rw [u8s_length, shaD_length]; exact T.z25) (by rw [u8s_length, u8s_length, shaD_length]; rfl) ?_
    refine WL.nil ?_
    refine WX.next ?_
    refine WC.seq ?_
    refine WC.region ?_
    refine WL.buildSliceN (xs := []) (vs := u8s []) rfl T.u22 T.z5 T.zr5 rfl rfl rfl (by decide) rfl ?_
    intro b19
    refine WL.toRow (m := 0) rfl (by decide) ?_
    refine WL.val (OV.sliceArrAll rfl T.u25 T.z5) rfl ?_
    refine WL.append (bytes := 1) rfl rfl (by kernel_rfl) (fun _ hw => own_src (.tail _ (.head _)) (by rw [u8s_length, shaD_length])) (u8s_one _) (by simp only [maxLen]; omega) rfl ?_
    intro a21 c21
    rw [show u8s [] = [] from rfl, List.nil_append]
    have hks : keyS key = shaD key := by rw [keyS, if_pos (by rw [hk.1]; omega)]
    refine WL.val (OV.assign rfl) rfl ?_
    refine WL.nil ?_
    refine WX.next ?_
    refine WC.seq ?_
    refine WC.region ?_
    refine WL.val (OV.move rfl) rfl ?_
    refine WL.val (OV.move rfl) rfl ?_
    refine WL.call0 (v := .agg (u8s (hmacD key l)).toArray) (by kernel_rfl) rfl rfl (fun w' hw => mac_calls key l a a2 m c m2 c2 (by omega) (by omega) (by omega) (by omega) w' (hk.sat hw) (hl.sat hw) (hF.sat hw) (hK.sat hw)) ?_
    refine WL.val (OV.move rfl) rfl ?_
    refine WL.val (OV.move rfl) rfl ?_
    refine WL.call0 (v := .agg (u8s (hmacD key l)).toArray) (by kernel_rfl) rfl rfl (fun w' hw => by
      have hr := RB.of_row hw (.head _)
      have hcc := hr.2
      rw [← hmacD_keyS key l, hks]
      exact mac_calls (shaD key) l a21 a2 (0 + 32) c21 m2 c2 (by omega) (by omega) (by omega) (by omega) w' (hr.1) (hl.sat hw) (hF.sat hw) (hK.sat hw)) ?_
    refine WL.val ((OV.neqA T.u25 T.u5 T.z5 (by kernel_rfl) rfl rfl (by first | exact shaD_length _ | exact hmacD_length _ _) (by first | exact shaD_length _ | exact hmacD_length _ _)).cast (u := .bool false) (by simp)) rfl ?_
    refine WL.nil ?_
    refine WX.weak (fun _ hw => hw.first) ?_
    refine WX.next ?_
    refine WC.condF rfl ?_
    refine WC.skip ?_
    refine WX.next ?_
    refine WC.seq ?_
    refine WC.block ?_
    have hkm : (keyS key).length + 0 = 0 + 32 := by rw [hks, shaD_length]
    rw [← hks]
    have hkl := keyS_length key
    refine WC.loop3 (fun (j : Nat) (a' : Option Addr) (c' : Nat) => [(0, .slice a m c), (1, .slice a2 m2 c2), (5, .slice a' ((keyS key).length + j : Nat) c')])
        (fun j a' c' w' => j ≤ 64 - (keyS key).length ∧ Sat w (fun _ => False) (fun b => b < w.heap.size) w [row 5 1 a' ((keyS key).length + j) c' (u8s (zerosB (keyS key) j))] w')
        (fun j _ _ => 64 - (keyS key).length - j) 0 a21 c21 ⟨rfl, rfl, by rw [hkm]; rfl, trivial⟩ (fun w' hw => ⟨by omega, by
          rw [show zerosB (keyS key) 0 = keyS key from List.append_nil _, hkm]
          exact hw.first⟩) ?_
    intro j a' c'
    refine WC.pure (fun hj => ?_)
    refine WC.seq ?_
    refine WC.seq ?_
    refine WC.region ?_
    refine WL.val (OV.move rfl) rfl ?_
    first
    | (refine WL.val (OV.lenSlice rfl T.u22) rfl ?_)
    | (refine WL.val (OV.lenStr rfl T.u22) rfl ?_)
    refine WL.val (OV.lss rfl rfl) rfl ?_
    refine WL.nil ?_
    refine WX.next ?_
    refine WC.cond rfl (fun c31 => ?_) (fun c31 => ?_)
    · simp only [decide_eq_true_eq, decide_eq_false_iff_not, Bool.not_eq_true', Bool.not_eq_false'] at c31
      refine WC.skip ?_
      refine WX.next ?_
      refine WC.block ?_
      refine WC.region ?_
      refine WL.val (OV.move rfl) rfl ?_
      refine WL.buildSlice1 T.u22 T.z5 T.zr5 rfl rfl rfl ?_
      intro bl33
      refine WL.focus perm1 (WL.append (bytes := 1) rfl rfl (by kernel_rfl) (fun _ hw => own_src (.tail _ (.head _)) rfl) (one8 (x := 0)) (by simp only [maxLen]; omega) rfl ?_)
      intro a34 c34
      refine WL.val (OV.assign rfl) rfl ?_
      refine WL.nil ?_
      refine WX.block_normal ?_
      exact WX.round3 (j + 1) a34 c34 ⟨rfl, rfl, rfl, trivial⟩ (fun w' hw => ⟨by omega, by
        have h1 := (hw.perm perm1).drop
        rw [show [Value.int .u8 0] = u8s [0] from rfl, ← u8s_append, zerosB_succ] at h1
        exact h1⟩) (by show 64 - (keyS key).length - (j + 1) < 64 - (keyS key).length - j; omega)
    · simp only [decide_eq_true_eq, decide_eq_false_iff_not, Bool.not_eq_true', Bool.not_eq_false'] at c31
      refine WC.exit ?_
      refine WX.then_exit ?_
      refine WX.then_exit ?_
      refine WX.block_hit ?_
      refine WX.next ?_
      refine WC.seq ?_
      refine WC.region ?_
      refine WL.makeSlice (bytes := 1) (m := 64) (zc := b8 0) rfl rfl T.u22 T.z5 T.zr5 (by kernel_rfl) (by omega) rfl ?_
      intro b35
      refine WL.val (OV.assign rfl) rfl ?_
      refine WL.nil ?_
      refine WX.next ?_
      refine WC.seq ?_
      refine WC.region ?_
      refine WL.makeSlice (bytes := 1) (m := 64) (zc := b8 0) rfl rfl T.u22 T.z5 T.zr5 (by kernel_rfl) (by omega) rfl ?_
      intro b36
      refine WL.val (OV.assign rfl) rfl ?_
      refine WL.nil ?_
      refine WX.next ?_
      refine WC.seq ?_
      refine WC.seq ?_
      refine WC.region ?_
      refine WL.val (OV.assign rfl) rfl ?_
      refine WL.nil ?_
      refine WX.next ?_
      refine WC.block ?_
      have hkk : (keyS key).length + j = 64 := by omega
      rw [hkk, show zerosB (keyS key) j = padZ (keyS key) from by rw [zerosB, padZ, show j = 64 - (keyS key).length from by omega]]
      refine WC.loop1 (fun (i : Nat) => [(0, .slice a m c), (1, .slice a2 m2 c2), (5, .slice a' 64 c'), (7, .slice (some ⟨b35, 0, none⟩) 64 64), (8, .slice (some ⟨b36, 0, none⟩) 64 64), (9, .int .i64 (i : Int))])
          (fun i w' => i ≤ 64 ∧ Sat w (fun _ => False) (fun b => b < w.heap.size) w [own b35 (.cells (u8s (padP2 (keyS key) 54 i)).toArray 5 (0, 0)), own b36 (.cells (u8s (padP2 (keyS key) 92 i)).toArray 5 (0, 0)), row 5 1 a' 64 c' (u8s (padZ (keyS key)))] w')
          (fun i => 64 - i) 0 ⟨rfl, rfl, by rw [← hkk]; rfl, rfl, rfl, rfl, trivial⟩ (fun w' hw => ⟨by omega, hw.perm perm1⟩) ?_
      intro i
      refine WC.pure (fun hi => ?_)
      refine WC.know (fun w' hw => row_some hw (.tail _ (.tail _ (.head _))) (by omega)) (fun hq => ?_)
      obtain ⟨q, rfl⟩ := hq
      have hpk := padZ_length hkl
      have hp1 := padP2_length (key := keyS key) (x := 54) (i := i) hkl hi
      have hp2 := padP2_length (key := keyS key) (x := 92) (i := i) hkl hi
      refine WC.seq ?_
      refine WC.seq ?_
      refine WC.region ?_
      refine WL.val (OV.move rfl) rfl ?_
      refine WL.val (OV.lss rfl rfl) rfl ?_
      refine WL.nil ?_
      refine WX.next ?_
      refine WC.cond rfl (fun c38 => ?_) (fun c38 => ?_)
      · simp only [decide_eq_true_eq, decide_eq_false_iff_not, Bool.not_eq_true', Bool.not_eq_false'] at c38
        refine WC.skip ?_
        refine WX.next ?_
        refine WC.seq ?_
        refine WC.block ?_
        refine WC.seq ?_
        refine WC.region ?_
        refine WL.val (OV.move rfl) rfl ?_
        refine WL.val (OV.move rfl) rfl ?_
        refine WL.val (OV.move rfl) rfl ?_
        refine WL.val (OV.move rfl) rfl ?_
        first
        | (refine WL.val (OV.indexSliceN rfl rfl T.u22 T.z5 (by omega)) rfl ?_)
        | (refine WL.val (OV.indexSliceA rfl rfl T.u22 T.z5 (by omega)) rfl ?_)
        | (refine WL.val (OV.indexSlice1 rfl rfl T.u22 T.z5 (by omega)) rfl ?_)
        refine WL.val (OV.load1 (v := b8 ((padZ (keyS key)).getD i 0)) rfl T.u5 rfl (fun _ hw => (RB.of_row hw (.tail _ (.tail _ (.head _)))).1.cell (by omega))) rfl ?_
        refine WL.val (OV.xorB (b := 54) rfl rfl) rfl ?_
        first
        | (refine WL.val (OV.indexSliceN rfl rfl T.u22 T.z5 (by omega)) rfl ?_)
        | (refine WL.val (OV.indexSliceA rfl rfl T.u22 T.z5 (by omega)) rfl ?_)
        | (refine WL.val (OV.indexSlice1 rfl rfl T.u22 T.z5 (by omega)) rfl ?_)
        refine WL.store1 rfl rfl rfl T.z5 (by rw [u8s_length, hp1]; omega) ?_
        rw [padP2_set hkl (by omega)]
        refine WL.nil ?_
        refine WX.next ?_
        refine WC.region ?_
        refine WL.val (OV.move rfl) rfl ?_
        refine WL.val (OV.move rfl) rfl ?_
        refine WL.val (OV.move rfl) rfl ?_
        refine WL.val (OV.move rfl) rfl ?_
        first
        | (refine WL.val (OV.indexSliceN rfl rfl T.u22 T.z5 (by omega)) rfl ?_)
        | (refine WL.val (OV.indexSliceA rfl rfl T.u22 T.z5 (by omega)) rfl ?_)
        | (refine WL.val (OV.indexSlice1 rfl rfl T.u22 T.z5 (by omega)) rfl ?_)
        refine WL.val (OV.load1 (v := b8 ((padZ (keyS key)).getD i 0)) rfl T.u5 rfl (fun _ hw => (RB.of_row hw (.tail _ (.tail _ (.head _)))).1.cell (by omega))) rfl ?_
        refine WL.val (OV.xorB (b := 92) rfl rfl) rfl ?_
        first
        | (refine WL.val (OV.indexSliceN rfl rfl T.u22 T.z5 (by omega)) rfl ?_)
        | (refine WL.val (OV.indexSliceA rfl rfl T.u22 T.z5 (by omega)) rfl ?_)
        | (refine WL.val (OV.indexSlice1 rfl rfl T.u22 T.z5 (by omega)) rfl ?_)
        refine WL.focus perm1 (WL.store1 rfl rfl rfl T.z5 (by rw [u8s_length, hp2]; omega) ?_)
        rw [padP2_set hkl (by omega)]
        refine WL.nil ?_
        refine WX.block_normal ?_
        refine WX.next ?_
        refine WC.region ?_
        refine WL.val (OV.move rfl) rfl ?_
        refine WL.val (OV.addN (j := 1) rfl rfl (by omega)) rfl ?_
        refine WL.val (OV.assign rfl) rfl ?_
        refine WL.nil ?_
        exact WX.round1 (i + 1) ⟨rfl, rfl, rfl, rfl, rfl, rfl, trivial⟩ (fun w' hw => ⟨by omega, hw.perm perm1⟩) (by show 64 - (i + 1) < 64 - i; omega)
      · simp only [decide_eq_true_eq, decide_eq_false_iff_not, Bool.not_eq_true', Bool.not_eq_false'] at c38
        refine WC.exit ?_
        refine WX.then_exit ?_
        refine WX.then_exit ?_
        refine WX.block_hit ?_
        refine WX.next ?_
        refine WC.seq ?_
        refine WC.region ?_
        refine WL.val (OV.move rfl) rfl ?_
        refine WL.val (OV.move rfl) rfl ?_
        have hi64 : i = 64 := by omega
        subst hi64
        rw [padP2_full hkl, padP2_full hkl]
        refine WL.toRow (m := 64) (by rw [u8s_length, maskL_length, padZ_length hkl]) (by decide) ?_
        refine WL.append (bytes := 1) rfl rfl (by kernel_rfl) (fun _ hw => hl.src) (u8s_one _) (by simp only [maxLen]; omega) rfl ?_
        intro a59 c59
        rw [← u8s_append]
        refine WL.call0 (by kernel_rfl) rfl rfl (fun w' hw => sum_calls (maskL (padZ (keyS key)) 54 ++ l) a59 (64 + m2) c59 ((RB.of_row hw (.head _)).2) (by omega) w' ((RB.of_row hw (.head _)).1) (hF.sat hw) (hK.sat hw)) ?_
        refine WL.alloc T.zr25 rfl ?_
        intro b10
        refine WL.storeAll (vs := u8s (shaD (maskL (padZ (keyS key)) 54 ++ l))) rfl rfl (List.all_eq_true.2 (u8s_one _)) (by rw [u8s_length, shaD_length]; exact T.z25) (by rw [u8s_length, u8s_length, shaD_length]; rfl) ?_
        refine WL.nil ?_
        refine WX.next ?_
        refine WC.seq ?_
        refine WC.drawnS (fun _ => True) (by kernel_rfl) (m := 21) rfl ?_
        refine WH.take 0 rfl (by kernel_rfl) (by kernel_rfl) (by kernel_rfl) (fun _ _ => trivial) (OV.move rfl) rfl (listed' := [true, false, false, false, false, false, false, false, false, false, false, false, false, false, false, false, false, false, false, false, false]) rfl ?_
        refine WH.take 1 rfl (by kernel_rfl) (by kernel_rfl) (by kernel_rfl) (fun _ _ => trivial) (OV.move rfl) rfl (listed' := [true, true, false, false, false, false, false, false, false, false, false, false, false, false, false, false, false, false, false, false, false]) rfl ?_
        refine WH.take 3 rfl (by kernel_rfl) (by kernel_rfl) (by kernel_rfl) (fun _ _ => trivial) (OV.move rfl) rfl (listed' := [true, true, false, true, false, false, false, false, false, false, false, false, false, false, false, false, false, false, false, false, false]) rfl ?_
        refine WH.take 4 rfl (by kernel_rfl) (by kernel_rfl) (by kernel_rfl) (fun _ _ => trivial) (OV.sliceArrAll rfl T.u25 T.z5) rfl (listed' := [true, true, false, true, true, false, false, false, false, false, false, false, false, false, false, false, false, false, false, false, false]) rfl ?_
        refine WH.only 2 rfl (by kernel_rfl) (listed' := [true, true, true, true, true, false, false, false, false, false, false, false, false, false, false, false, false, false, false, false, false]) rfl ?_
        refine WL.call0 (v := .agg (u8s (hmacD key l)).toArray) (by kernel_rfl) rfl rfl (fun w' hw => mac_calls key l a a2 m c m2 c2 (by omega) (by omega) (by omega) (by omega) w' (hk.sat hw) (hl.sat hw) (hF.sat hw) (hK.sat hw)) ?_
        refine WL.nil ?_
        refine WX.cont (fun _ _ => trivial) ?_
        refine WH.only 5 rfl (by kernel_rfl) (listed' := [true, true, true, true, true, true, false, false, false, false, false, false, false, false, false, false, false, false, false, false, false]) rfl ?_
        refine WL.focus perm2 (WL.toRow (m := 64) (by rw [u8s_length, maskL_length, padZ_length hkl]) (by decide) ?_)
        refine WL.append (bytes := 1) rfl rfl (by kernel_rfl) (fun _ hw => own_src (.tail _ (.head _)) (by rw [u8s_length, shaD_length])) (u8s_one _) (by simp only [maxLen]; omega) rfl ?_
        intro a66 c66
        rw [← u8s_append]
        refine WL.nil ?_
        refine WX.cont (fun _ _ => trivial) ?_
        refine WH.only 6 rfl (by kernel_rfl) (listed' := [true, true, true, true, true, true, true, false, false, false, false, false, false, false, false, false, false, false, false, false, false]) rfl ?_
        refine WL.call0 (v := .agg (u8s (hmacD key l)).toArray) (by kernel_rfl) rfl rfl (fun w' hw => sum_calls (maskL (padZ (keyS key)) 92 ++ shaD (maskL (padZ (keyS key)) 54 ++ l)) a66 (64 + 32) c66 ((RB.of_row hw (.head _)).2) (by omega) w' ((RB.of_row hw (.head _)).1) (hF.sat hw) (hK.sat hw)) ?_
        refine WL.nil ?_
        refine WX.cont (fun _ _ => trivial) ?_
        first
        | (refine WH.take 7 rfl (by kernel_rfl) (by kernel_rfl) (by kernel_rfl) (fun _ _ => trivial) (OV.eql rfl rfl) rfl (listed' := [true, true, true, true, true, true, true, true, false, false, false, false, false, false, false, false, false, false, false, false, false]) rfl ?_)
        | (refine WH.take 7 rfl (by kernel_rfl) (by kernel_rfl) (by kernel_rfl) (fun _ _ => trivial) (OV.eqlA T.u25 T.u5 T.z5 (by kernel_rfl) rfl rfl (by first | exact shaD_length _ | exact hmacD_length _ _) (by first | exact shaD_length _ | exact hmacD_length _ _)) rfl (listed' := [true, true, true, true, true, true, true, true, false, false, false, false, false, false, false, false, false, false, false, false, false]) rfl ?_)
        refine WH.take 8 rfl (by kernel_rfl) (by kernel_rfl) (by kernel_rfl) (fun _ _ => trivial) (OV.move rfl) rfl (listed' := [true, true, true, true, true, true, true, true, true, false, false, false, false, false, false, false, false, false, false, false, false]) rfl ?_
        refine WH.known (t := 69) (b := true) rfl (by simp) ?_
        refine WH.takeG 9 (b := true) rfl (by kernel_rfl) (by kernel_rfl) (by kernel_rfl) (fun _ _ => trivial) rfl rfl rfl (OV.move rfl) rfl (listed' := [true, true, true, true, true, true, true, true, true, true, false, false, false, false, false, false, false, false, false, false, false]) rfl ?_
        refine WH.takeG 10 (b := true) rfl (by kernel_rfl) (by kernel_rfl) (by kernel_rfl) (fun _ _ => trivial) rfl rfl rfl (OV.move rfl) rfl (listed' := [true, true, true, true, true, true, true, true, true, true, true, false, false, false, false, false, false, false, false, false, false]) rfl ?_
        refine WH.takeG 12 (b := true) rfl (by kernel_rfl) (by kernel_rfl) (by kernel_rfl) (fun _ _ => trivial) rfl rfl rfl (OV.move rfl) rfl (listed' := [true, true, true, true, true, true, true, true, true, true, true, false, true, false, false, false, false, false, false, false, false]) rfl ?_
        refine WH.takeG 13 (b := true) rfl (by kernel_rfl) (by kernel_rfl) (by kernel_rfl) (fun _ _ => trivial) rfl rfl rfl (OV.move rfl) rfl (listed' := [true, true, true, true, true, true, true, true, true, true, true, false, true, true, false, false, false, false, false, false, false]) rfl ?_
        refine WH.only 11 rfl (by kernel_rfl) (listed' := [true, true, true, true, true, true, true, true, true, true, true, true, true, true, false, false, false, false, false, false, false]) rfl ?_
        refine WL.go (b := true) rfl rfl rfl ?_
        refine WL.call0 (v := .agg (u8s (hmacD key l)).toArray) (by kernel_rfl) rfl rfl (fun w' hw => by
          have hr := RB.of_row hw (.tail _ (.tail _ (.tail _ (.head _))))
          have hcc := hr.2
          rw [← hmacD_padZ key l]
          exact mac_calls (padZ (keyS key)) l (some q) a2 64 c' m2 c2 (by omega) (by omega) (by omega) (by omega) w' (hr.1) (hl.sat hw) (hF.sat hw) (hK.sat hw)) ?_
        refine WL.nil ?_
        refine WX.cont (fun _ _ => trivial) ?_
        refine WH.only 14 rfl (by kernel_rfl) (listed' := [true, true, true, true, true, true, true, true, true, true, true, true, true, true, true, false, false, false, false, false, false]) rfl ?_
        refine WL.go (b := true) rfl rfl rfl ?_
        refine WL.call0 (v := .agg (u8s (hmacD key l)).toArray) (by kernel_rfl) rfl rfl (fun w' hw => mac_calls key l a a2 m c m2 c2 (by omega) (by omega) (by omega) (by omega) w' (hk.sat hw) (hl.sat hw) (hF.sat hw) (hK.sat hw)) ?_
        refine WL.nil ?_
        refine WX.cont (fun _ _ => trivial) ?_
        first
        | (refine WH.takeG 15 (b := true) rfl (by kernel_rfl) (by kernel_rfl) (by kernel_rfl) (fun _ _ => trivial) rfl rfl rfl (OV.eql rfl rfl) rfl (listed' := [true, true, true, true, true, true, true, true, true, true, true, true, true, true, true, true, false, false, false, false, false]) rfl ?_)
        | (refine WH.takeG 15 (b := true) rfl (by kernel_rfl) (by kernel_rfl) (by kernel_rfl) (fun _ _ => trivial) rfl rfl rfl (OV.eqlA T.u25 T.u5 T.z5 (by kernel_rfl) rfl rfl (by first | exact shaD_length _ | exact hmacD_length _ _) (by first | exact shaD_length _ | exact hmacD_length _ _)) rfl (listed' := [true, true, true, true, true, true, true, true, true, true, true, true, true, true, true, true, false, false, false, false, false]) rfl ?_)
        refine WH.take 16 rfl (by kernel_rfl) (by kernel_rfl) (by kernel_rfl) (fun _ _ => trivial) (OV.pickT rfl rfl) rfl (listed' := [true, true, true, true, true, true, true, true, true, true, true, true, true, true, true, true, true, false, false, false, false]) rfl ?_
        refine WH.take 17 rfl (by kernel_rfl) (by kernel_rfl) (by kernel_rfl) (fun _ _ => trivial) (OV.move rfl) rfl (listed' := [true, true, true, true, true, true, true, true, true, true, true, true, true, true, true, true, true, true, false, false, false]) rfl ?_
        refine WH.known (t := 78) (b := true) rfl (by simp) ?_
        refine WH.only 18 rfl (by kernel_rfl) (listed' := [true, true, true, true, true, true, true, true, true, true, true, true, true, true, true, true, true, true, true, false, false]) rfl ?_
        refine WL.go (b := true) rfl rfl rfl ?_
        refine WL.call0 (by kernel_rfl) rfl rfl (fun w' hw => head_calls w' (hF.sat hw) (hK.sat hw)) ?_
        refine WL.nil ?_
        refine WX.cont (fun _ _ => trivial) ?_
        refine WH.take 19 rfl (by kernel_rfl) (by kernel_rfl) (by kernel_rfl) (fun _ _ => trivial) (OV.pickT rfl rfl) rfl (listed' := [true, true, true, true, true, true, true, true, true, true, true, true, true, true, true, true, true, true, true, true, false]) rfl ?_
        refine WH.take 20 rfl (by kernel_rfl) (by kernel_rfl) (by kernel_rfl) (fun _ _ => trivial) (OV.assign rfl) rfl (listed' := [true, true, true, true, true, true, true, true, true, true, true, true, true, true, true, true, true, true, true, true, true]) rfl ?_
        refine WH.done (by kernel_rfl) ?_
        refine WX.next ?_
        refine WC.ret ?_
        exact WX.ret1 rfl rfl rfl (fun w hw => ⟨rfl, hw.fr⟩)
  · simp only [decide_eq_true_eq, decide_eq_false_iff_not, Bool.not_eq_true', Bool.not_eq_false'] at c16
    refine WC.skip ?_
    refine WX.next ?_
    refine WC.seq ?_
    refine WC.block ?_
    have hks : keyS key = key := by rw [keyS, if_neg (by rw [hk.1]; omega)]
    have hkm : (keyS key).length + 0 = 0 + m := by rw [hks, hk.1]; omega
    rw [show u8s key = u8s (keyS key) from by rw [hks]]
    have hkl := keyS_length key
    refine WC.loop3 (fun (j : Nat) (a' : Option Addr) (c' : Nat) => [(0, .slice a m c), (1, .slice a2 m2 c2), (5, .slice a' ((keyS key).length + j : Nat) c')])
        (fun j a' c' w' => j ≤ 64 - (keyS key).length ∧ Sat w (fun _ => False) (fun b => b < w.heap.size) w [row 5 1 a' ((keyS key).length + j) c' (u8s (zerosB (keyS key) j))] w')
        (fun j _ _ => 64 - (keyS key).length - j) 0 a13 c13 ⟨rfl, rfl, by rw [hkm]; rfl, trivial⟩ (fun w' hw => ⟨by omega, by
          rw [show zerosB (keyS key) 0 = keyS key from List.append_nil _, hkm]
          exact hw.first⟩) ?_
    intro j a' c'
    refine WC.pure (fun hj => ?_)
    refine WC.seq ?_
    refine WC.seq ?_
    refine WC.region ?_
    refine WL.val (OV.move rfl) rfl ?_
    first
    | (refine WL.val (OV.lenSlice rfl T.u22) rfl ?_)
    | (refine WL.val (OV.lenStr rfl T.u22) rfl ?_)
    refine WL.val (OV.lss rfl rfl) rfl ?_
    refine WL.nil ?_
    refine WX.next ?_
    refine WC.cond rfl (fun c31 => ?_) (fun c31 => ?_)
    · simp only [decide_eq_true_eq, decide_eq_false_iff_not, Bool.not_eq_true', Bool.not_eq_false'] at c31
      refine WC.skip ?_
      refine WX.next ?_
      refine WC.block ?_
      refine WC.region ?_
      refine WL.val (OV.move rfl) rfl ?_
      refine WL.buildSlice1 T.u22 T.z5 T.zr5 rfl rfl rfl ?_
      intro bl33
      refine WL.focus perm1 (WL.append (bytes := 1) rfl rfl (by kernel_rfl) (fun _ hw => own_src (.tail _ (.head _)) rfl) (one8 (x := 0)) (by simp only [maxLen]; omega) rfl ?_)
      intro a34 c34
      refine WL.val (OV.assign rfl) rfl ?_
      refine WL.nil ?_
      refine WX.block_normal ?_
      exact WX.round3 (j + 1) a34 c34 ⟨rfl, rfl, rfl, trivial⟩ (fun w' hw => ⟨by omega, by
        have h1 := (hw.perm perm1).drop
        rw [show [Value.int .u8 0] = u8s [0] from rfl, ← u8s_append, zerosB_succ] at h1
        exact h1⟩) (by show 64 - (keyS key).length - (j + 1) < 64 - (keyS key).length - j; omega)
    · simp only [decide_eq_true_eq, decide_eq_false_iff_not, Bool.not_eq_true', Bool.not_eq_false'] at c31
      refine WC.exit ?_
      refine WX.then_exit ?_
      refine WX.then_exit ?_
      refine WX.block_hit ?_
      refine WX.next ?_
      refine WC.seq ?_
      refine WC.region ?_
      refine WL.makeSlice (bytes := 1) (m := 64) (zc := b8 0) rfl rfl T.u22 T.z5 T.zr5 (by kernel_rfl) (by omega) rfl ?_
      intro b35
      refine WL.val (OV.assign rfl) rfl ?_
      refine WL.nil ?_
      refine WX.next ?_
      refine WC.seq ?_
      refine WC.region ?_
      refine WL.makeSlice (bytes := 1) (m := 64) (zc := b8 0) rfl rfl T.u22 T.z5 T.zr5 (by kernel_rfl) (by omega) rfl ?_
      intro b36
      refine WL.val (OV.assign rfl) rfl ?_
      refine WL.nil ?_
      refine WX.next ?_
      refine WC.seq ?_
      refine WC.seq ?_
      refine WC.region ?_
      refine WL.val (OV.assign rfl) rfl ?_
      refine WL.nil ?_
      refine WX.next ?_
      refine WC.block ?_
      have hkk : (keyS key).length + j = 64 := by omega
      rw [hkk, show zerosB (keyS key) j = padZ (keyS key) from by rw [zerosB, padZ, show j = 64 - (keyS key).length from by omega]]
      refine WC.loop1 (fun (i : Nat) => [(0, .slice a m c), (1, .slice a2 m2 c2), (5, .slice a' 64 c'), (7, .slice (some ⟨b35, 0, none⟩) 64 64), (8, .slice (some ⟨b36, 0, none⟩) 64 64), (9, .int .i64 (i : Int))])
          (fun i w' => i ≤ 64 ∧ Sat w (fun _ => False) (fun b => b < w.heap.size) w [own b35 (.cells (u8s (padP2 (keyS key) 54 i)).toArray 5 (0, 0)), own b36 (.cells (u8s (padP2 (keyS key) 92 i)).toArray 5 (0, 0)), row 5 1 a' 64 c' (u8s (padZ (keyS key)))] w')
          (fun i => 64 - i) 0 ⟨rfl, rfl, by rw [← hkk]; rfl, rfl, rfl, rfl, trivial⟩ (fun w' hw => ⟨by omega, hw.perm perm1⟩) ?_
      intro i
      refine WC.pure (fun hi => ?_)
      refine WC.know (fun w' hw => row_some hw (.tail _ (.tail _ (.head _))) (by omega)) (fun hq => ?_)
      obtain ⟨q, rfl⟩ := hq
      have hpk := padZ_length hkl
      have hp1 := padP2_length (key := keyS key) (x := 54) (i := i) hkl hi
      have hp2 := padP2_length (key := keyS key) (x := 92) (i := i) hkl hi
      refine WC.seq ?_
      refine WC.seq ?_
      refine WC.region ?_
      refine WL.val (OV.move rfl) rfl ?_
      refine WL.val (OV.lss rfl rfl) rfl ?_
      refine WL.nil ?_
      refine WX.next ?_
      refine WC.cond rfl (fun c38 => ?_) (fun c38 => ?_)
      · simp only [decide_eq_true_eq, decide_eq_false_iff_not, Bool.not_eq_true', Bool.not_eq_false'] at c38
        refine WC.skip ?_
        refine WX.next ?_
        refine WC.seq ?_
        refine WC.block ?_
        refine WC.seq ?_
        refine WC.region ?_
        refine WL.val (OV.move rfl) rfl ?_
        refine WL.val (OV.move rfl) rfl ?_
        refine WL.val (OV.move rfl) rfl ?_
        refine WL.val (OV.move rfl) rfl ?_
        first
        | (refine WL.val (OV.indexSliceN rfl rfl T.u22 T.z5 (by omega)) rfl ?_)
        | (refine WL.val (OV.indexSliceA rfl rfl T.u22 T.z5 (by omega)) rfl ?_)
        | (refine WL.val (OV.indexSlice1 rfl rfl T.u22 T.z5 (by omega)) rfl ?_)
        refine WL.val (OV.load1 (v := b8 ((padZ (keyS key)).getD i 0)) rfl T.u5 rfl (fun _ hw => (RB.of_row hw (.tail _ (.tail _ (.head _)))).1.cell (by omega))) rfl ?_
        refine WL.val (OV.xorB (b := 54) rfl rfl) rfl ?_
        first
        | (refine WL.val (OV.indexSliceN rfl rfl T.u22 T.z5 (by omega)) rfl ?_)
        | (refine WL.val (OV.indexSliceA rfl rfl T.u22 T.z5 (by omega)) rfl ?_)
        | (refine WL.val (OV.indexSlice1 rfl rfl T.u22 T.z5 (by omega)) rfl ?_)
        refine WL.store1 rfl rfl rfl T.z5 (by rw [u8s_length, hp1]; omega) ?_
        rw [padP2_set hkl (by omega)]
        refine WL.nil ?_
        refine WX.next ?_
        refine WC.region ?_
        refine WL.val (OV.move rfl) rfl ?_
        refine WL.val (OV.move rfl) rfl ?_
        refine WL.val (OV.move rfl) rfl ?_
        refine WL.val (OV.move rfl) rfl ?_
        first
        | (refine WL.val (OV.indexSliceN rfl rfl T.u22 T.z5 (by omega)) rfl ?_)
        | (refine WL.val (OV.indexSliceA rfl rfl T.u22 T.z5 (by omega)) rfl ?_)
        | (refine WL.val (OV.indexSlice1 rfl rfl T.u22 T.z5 (by omega)) rfl ?_)
        refine WL.val (OV.load1 (v := b8 ((padZ (keyS key)).getD i 0)) rfl T.u5 rfl (fun _ hw => (RB.of_row hw (.tail _ (.tail _ (.head _)))).1.cell (by omega))) rfl ?_
        refine WL.val (OV.xorB (b := 92) rfl rfl) rfl ?_
        first
        | (refine WL.val (OV.indexSliceN rfl rfl T.u22 T.z5 (by omega)) rfl ?_)
        | (refine WL.val (OV.indexSliceA rfl rfl T.u22 T.z5 (by omega)) rfl ?_)
        | (refine WL.val (OV.indexSlice1 rfl rfl T.u22 T.z5 (by omega)) rfl ?_)
        refine WL.focus perm1 (WL.store1 rfl rfl rfl T.z5 (by rw [u8s_length, hp2]; omega) ?_)
        rw [padP2_set hkl (by omega)]
        refine WL.nil ?_
        refine WX.block_normal ?_
        refine WX.next ?_
        refine WC.region ?_
        refine WL.val (OV.move rfl) rfl ?_
        refine WL.val (OV.addN (j := 1) rfl rfl (by omega)) rfl ?_
        refine WL.val (OV.assign rfl) rfl ?_
        refine WL.nil ?_
        exact WX.round1 (i + 1) ⟨rfl, rfl, rfl, rfl, rfl, rfl, trivial⟩ (fun w' hw => ⟨by omega, hw.perm perm1⟩) (by show 64 - (i + 1) < 64 - i; omega)
      · simp only [decide_eq_true_eq, decide_eq_false_iff_not, Bool.not_eq_true', Bool.not_eq_false'] at c38
        refine WC.exit ?_
        refine WX.then_exit ?_
        refine WX.then_exit ?_
        refine WX.block_hit ?_
        refine WX.next ?_
        refine WC.seq ?_
        refine WC.region ?_
        refine WL.val (OV.move rfl) rfl ?_
        refine WL.val (OV.move rfl) rfl ?_
        have hi64 : i = 64 := by omega
        subst hi64
        rw [padP2_full hkl, padP2_full hkl]
        refine WL.toRow (m := 64) (by rw [u8s_length, maskL_length, padZ_length hkl]) (by decide) ?_
        refine WL.append (bytes := 1) rfl rfl (by kernel_rfl) (fun _ hw => hl.src) (u8s_one _) (by simp only [maxLen]; omega) rfl ?_
        intro a59 c59
        rw [← u8s_append]
        refine WL.call0 (by kernel_rfl) rfl rfl (fun w' hw => sum_calls (maskL (padZ (keyS key)) 54 ++ l) a59 (64 + m2) c59 ((RB.of_row hw (.head _)).2) (by omega) w' ((RB.of_row hw (.head _)).1) (hF.sat hw) (hK.sat hw)) ?_
        refine WL.alloc T.zr25 rfl ?_
        intro b10
        refine WL.storeAll (vs := u8s (shaD (maskL (padZ (keyS key)) 54 ++ l))) rfl rfl (List.all_eq_true.2 (u8s_one _)) (by rw [u8s_length, shaD_length]; exact T.z25) (by rw [u8s_length, u8s_length, shaD_length]; rfl) ?_
        refine WL.nil ?_
        refine WX.next ?_
        refine WC.seq ?_
        refine WC.drawnS (fun _ => True) (by kernel_rfl) (m := 21) rfl ?_
        refine WH.take 0 rfl (by kernel_rfl) (by kernel_rfl) (by kernel_rfl) (fun _ _ => trivial) (OV.move rfl) rfl (listed' := [true, false, false, false, false, false, false, false, false, false, false, false, false, false, false, false, false, false, false, false, false]) rfl ?_
        refine WH.take 1 rfl (by kernel_rfl) (by kernel_rfl) (by kernel_rfl) (fun _ _ => trivial) (OV.move rfl) rfl (listed' := [true, true, false, false, false, false, false, false, false, false, false, false, false, false, false, false, false, false, false, false, false]) rfl ?_
        refine WH.take 3 rfl (by kernel_rfl) (by kernel_rfl) (by kernel_rfl) (fun _ _ => trivial) (OV.move rfl) rfl (listed' := [true, true, false, true, false, false, false, false, false, false, false, false, false, false, false, false, false, false, false, false, false]) rfl ?_
        refine WH.take 4 rfl (by kernel_rfl) (by kernel_rfl) (by kernel_rfl) (fun _ _ => trivial) (OV.sliceArrAll rfl T.u25 T.z5) rfl (listed' := [true, true, false, true, true, false, false, false, false, false, false, false, false, false, false, false, false, false, false, false, false]) rfl ?_
        refine WH.only 2 rfl (by kernel_rfl) (listed' := [true, true, true, true, true, false, false, false, false, false, false, false, false, false, false, false, false, false, false, false, false]) rfl ?_
        refine WL.call0 (v := .agg (u8s (hmacD key l)).toArray) (by kernel_rfl) rfl rfl (fun w' hw => mac_calls key l a a2 m c m2 c2 (by omega) (by omega) (by omega) (by omega) w' (hk.sat hw) (hl.sat hw) (hF.sat hw) (hK.sat hw)) ?_
        refine WL.nil ?_
        refine WX.cont (fun _ _ => trivial) ?_
        refine WH.only 5 rfl (by kernel_rfl) (listed' := [true, true, true, true, true, true, false, false, false, false, false, false, false, false, false, false, false, false, false, false, false]) rfl ?_
        refine WL.focus perm2 (WL.toRow (m := 64) (by rw [u8s_length, maskL_length, padZ_length hkl]) (by decide) ?_)
        refine WL.append (bytes := 1) rfl rfl (by kernel_rfl) (fun _ hw => own_src (.tail _ (.head _)) (by rw [u8s_length, shaD_length])) (u8s_one _) (by simp only [maxLen]; omega) rfl ?_
        intro a66 c66
        rw [← u8s_append]
        refine WL.nil ?_
        refine WX.cont (fun _ _ => trivial) ?_
        refine WH.only 6 rfl (by kernel_rfl) (listed' := [true, true, true, true, true, true, true, false, false, false, false, false, false, false, false, false, false, false, false, false, false]) rfl ?_
        refine WL.call0 (v := .agg (u8s (hmacD key l)).toArray) (by kernel_rfl) rfl rfl (fun w' hw => sum_calls (maskL (padZ (keyS key)) 92 ++ shaD (maskL (padZ (keyS key)) 54 ++ l)) a66 (64 + 32) c66 ((RB.of_row hw (.head _)).2) (by omega) w' ((RB.of_row hw (.head _)).1) (hF.sat hw) (hK.sat hw)) ?_
        refine WL.nil ?_
        refine WX.cont (fun _ _ => trivial) ?_
        first
        | (refine WH.take 7 rfl (by kernel_rfl) (by kernel_rfl) (by kernel_rfl) (fun _ _ => trivial) (OV.eql rfl rfl) rfl (listed' := [true, true, true, true, true, true, true, true, false, false, false, false, false, false, false, false, false, false, false, false, false]) rfl ?_)
        | (refine WH.take 7 rfl (by kernel_rfl) (by kernel_rfl) (by kernel_rfl) (fun _ _ => trivial) (OV.eqlA T.u25 T.u5 T.z5 (by kernel_rfl) rfl rfl (by first | exact shaD_length _ | exact hmacD_length _ _) (by first | exact shaD_length _ | exact hmacD_length _ _)) rfl (listed' := [true, true, true, true, true, true, true, true, false, false, false, false, false, false, false, false, false, false, false, false, false]) rfl ?_)
        refine WH.take 8 rfl (by kernel_rfl) (by kernel_rfl) (by kernel_rfl) (fun _ _ => trivial) (OV.move rfl) rfl (listed' := [true, true, true, true, true, true, true, true, true, false, false, false, false, false, false, false, false, false, false, false, false]) rfl ?_
        refine WH.known (t := 69) (b := true) rfl (by simp) ?_
        refine WH.takeG 9 (b := true) rfl (by kernel_rfl) (by kernel_rfl) (by kernel_rfl) (fun _ _ => trivial) rfl rfl rfl (OV.move rfl) rfl (listed' := [true, true, true, true, true, true, true, true, true, true, false, false, false, false, false, false, false, false, false, false, false]) rfl ?_
        refine WH.takeG 10 (b := true) rfl (by kernel_rfl) (by kernel_rfl) (by kernel_rfl) (fun _ _ => trivial) rfl rfl rfl (OV.move rfl) rfl (listed' := [true, true, true, true, true, true, true, true, true, true, true, false, false, false, false, false, false, false, false, false, false]) rfl ?_
        refine WH.takeG 12 (b := true) rfl (by kernel_rfl) (by kernel_rfl) (by kernel_rfl) (fun _ _ => trivial) rfl rfl rfl (OV.move rfl) rfl (listed' := [true, true, true, true, true, true, true, true, true, true, true, false, true, false, false, false, false, false, false, false, false]) rfl ?_
        refine WH.takeG 13 (b := true) rfl (by kernel_rfl) (by kernel_rfl) (by kernel_rfl) (fun _ _ => trivial) rfl rfl rfl (OV.move rfl) rfl (listed' := [true, true, true, true, true, true, true, true, true, true, true, false, true, true, false, false, false, false, false, false, false]) rfl ?_
        refine WH.only 11 rfl (by kernel_rfl) (listed' := [true, true, true, true, true, true, true, true, true, true, true, true, true, true, false, false, false, false, false, false, false]) rfl ?_
        refine WL.go (b := true) rfl rfl rfl ?_
        refine WL.call0 (v := .agg (u8s (hmacD key l)).toArray) (by kernel_rfl) rfl rfl (fun w' hw => by
          have hr := RB.of_row hw (.tail _ (.tail _ (.tail _ (.head _))))
          have hcc := hr.2
          rw [← hmacD_padZ key l]
          exact mac_calls (padZ (keyS key)) l (some q) a2 64 c' m2 c2 (by omega) (by omega) (by omega) (by omega) w' (hr.1) (hl.sat hw) (hF.sat hw) (hK.sat hw)) ?_
        refine WL.nil ?_
        refine WX.cont (fun _ _ => trivial) ?_
        refine WH.only 14 rfl (by kernel_rfl) (listed' := [true, true, true, true, true, true, true, true, true, true, true, true, true, true, true, false, false, false, false, false, false]) rfl ?_
        refine WL.go (b := true) rfl rfl rfl ?_
        refine WL.call0 (v := .agg (u8s (hmacD key l)).toArray) (by kernel_rfl) rfl rfl (fun w' hw => mac_calls key l a a2 m c m2 c2 (by omega) (by omega) (by omega) (by omega) w' (hk.sat hw) (hl.sat hw) (hF.sat hw) (hK.sat hw)) ?_
        refine WL.nil ?_
        refine WX.cont (fun _ _ => trivial) ?_
        first
        | (refine WH.takeG 15 (b := true) rfl (by kernel_rfl) (by kernel_rfl) (by kernel_rfl) (fun _ _ => trivial) rfl rfl rfl (OV.eql rfl rfl) rfl (listed' := [true, true, true, true, true, true, true, true, true, true, true, true, true, true, true, true, false, false, false, false, false]) rfl ?_)
        | (refine WH.takeG 15 (b := true) rfl (by kernel_rfl) (by kernel_rfl) (by kernel_rfl) (fun _ _ => trivial) rfl rfl rfl (OV.eqlA T.u25 T.u5 T.z5 (by kernel_rfl) rfl rfl (by first | exact shaD_length _ | exact hmacD_length _ _) (by first | exact shaD_length _ | exact hmacD_length _ _)) rfl (listed' := [true, true, true, true, true, true, true, true, true, true, true, true, true, true, true, true, false, false, false, false, false]) rfl ?_)
        refine WH.take 16 rfl (by kernel_rfl) (by kernel_rfl) (by kernel_rfl) (fun _ _ => trivial) (OV.pickT rfl rfl) rfl (listed' := [true, true, true, true, true, true, true, true, true, true, true, true, true, true, true, true, true, false, false, false, false]) rfl ?_
        refine WH.take 17 rfl (by kernel_rfl) (by kernel_rfl) (by kernel_rfl) (fun _ _ => trivial) (OV.move rfl) rfl (listed' := [true, true, true, true, true, true, true, true, true, true, true, true, true, true, true, true, true, true, false, false, false]) rfl ?_
        refine WH.known (t := 78) (b := true) rfl (by simp) ?_
        refine WH.only 18 rfl (by kernel_rfl) (listed' := [true, true, true, true, true, true, true, true, true, true, true, true, true, true, true, true, true, true, true, false, false]) rfl ?_
        refine WL.go (b := true) rfl rfl rfl ?_
        refine WL.call0 (by kernel_rfl) rfl rfl (fun w' hw => head_calls w' (hF.sat hw) (hK.sat hw)) ?_
        refine WL.nil ?_
        refine WX.cont (fun _ _ => trivial) ?_
        refine WH.take 19 rfl (by kernel_rfl) (by kernel_rfl) (by kernel_rfl) (fun _ _ => trivial) (OV.pickT rfl rfl) rfl (listed' := [true, true, true, true, true, true, true, true, true, true, true, true, true, true, true, true, true, true, true, true, false]) rfl ?_
        refine WH.take 20 rfl (by kernel_rfl) (by kernel_rfl) (by kernel_rfl) (fun _ _ => trivial) (OV.assign rfl) rfl (listed' := [true, true, true, true, true, true, true, true, true, true, true, true, true, true, true, true, true, true, true, true, true]) rfl ?_
        refine WH.done (by kernel_rfl) ?_
        refine WX.next ?_
        refine WC.ret ?_
        exact WX.ret1 rfl rfl rfl (fun w hw => ⟨rfl, hw.fr⟩)

end Go.Proofs.YtplebagdajdcnaaDoor
