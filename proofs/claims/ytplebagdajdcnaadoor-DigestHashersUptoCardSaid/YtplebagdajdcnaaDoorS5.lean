/- Contracts of functions of the program: what each returns and leaves in memory. Printed by gen.py and walk.py. -/
import Derived.Test.YtplebagdajdcnaaDoorS4
namespace Go.Proofs.YtplebagdajdcnaaDoor
open Go Go.Hw
set_option linter.unusedSimpArgs false
set_option linter.unusedVariables false
def padP (k : Nat) : List UInt8 := 128 :: List.replicate (k - 1) 0
theorem padP_length {k : Nat} (h : 1 ≤ k) : (padP k).length = k := by simp [padP]; omega
theorem padP_next {k : Nat} (h : 1 ≤ k) : padP k ++ [0] = padP (k + 1) := by
  obtain ⟨j, rfl⟩ : ∃ j, k = j + 1 := ⟨k - 1, by omega⟩
  simp only [padP, Nat.add_sub_cancel, List.cons_append]
  rw [show j + 1 = j + 1 from rfl, List.replicate_succ' (n := j)]
theorem padL_eq (all : List UInt8) : all ++ (padP (padK all.length + 1) ++ be8 (8 * all.length)) = padL all := by
  simp [padL, padP]
def outP (H : List UInt32) (i : Nat) : List UInt8 := (H.take i).flatMap be4
theorem outP_length {H : List UInt32} {i : Nat} (hi : i ≤ H.length) : (outP H i).length = 4 * i := by
  rw [outP, be4s_length]; simp; omega
theorem outP_succ {H : List UInt32} {i : Nat} (hi : i < H.length) : outP H (i + 1) = outP H i ++ be4 (H.getD i 0) := by
  rw [outP, List.take_add_one, outP, List.flatMap_append]
  simp [List.getElem?_eq_getElem hi]
theorem out_four {acc : List UInt8} {i : Nat} (h : acc.length = 4 * i) (hi : i < 8) (x : UInt32) :
    ((((u8s (acc ++ List.replicate (32 - 4 * i) 0)).set (4 * i) (b8 (x >>> UInt32.ofNat 24).toUInt8)).set (4 * i + 1) (b8 (x >>> UInt32.ofNat 16).toUInt8)).set (4 * i + 2) (b8 (x >>> UInt32.ofNat 8).toUInt8)).set (4 * i + 3) (b8 x.toUInt8) = u8s (acc ++ be4 x ++ List.replicate (32 - 4 * (i + 1)) 0) := by
  rw [u8_next h (by omega), u8_next (i := 4 * i + 1) (by simp [h]) (by omega), u8_next (i := 4 * i + 2) (by simp [h]) (by omega), u8_next (i := 4 * i + 3) (by simp [h]) (by omega)]
  congr 1
  simp [be4]
  omega

set_option maxRecDepth 10000 in
theorem hsum_calls (all part : List UInt8) (hb : Nat) (hsz : all.length < 576460752303423488) (w : World) (hP : HP all part) (hc : w.heap[hb]? = some (.cells (HC all part).toArray 71 (0, 0))) (hK : Tab w 3 kW) : Calls Tryd.prog 23 #[.pointer (some ⟨hb, 0, none⟩)] w fun e w' => e = .returned (.agg (u8s (shaD all)).toArray) ∧ Fr0 w w' := by
  refine enterS (args := [.pointer (some ⟨hb, 0, none⟩)]) (fun _ => False) Tryd.func23 rfl Tryd.ntmps23 rfl rfl ?_
  refine WC.seq ?_
  refine WC.region ?_
  refine WL.alloc T.zr25 rfl ?_
  intro b2
  refine WL.nil ?_
  refine WX.next ?_
  refine WC.seq ?_
  refine WC.region ?_
  refine WL.val (OV.move rfl) rfl ?_
  refine WL.val (OV.nilCheck rfl) rfl ?_
  refine WL.val (OV.loadN (cs := HC all part) rfl T.u71 rfl (by rw [HC, hc_length (foldB_length _ _ _) hP.1]; exact T.z71) (fun _ hw j v hj => by rw [add_off, Nat.zero_add]; exact snapL hw (block_cell hc hj))) rfl ?_
  refine WL.alloc T.zr71 rfl ?_
  intro b3
  refine WL.storeAll (vs := HC all part) rfl rfl (hc_one (foldB_length _ _ _) hP.1) (by rw [HC, hc_length (foldB_length _ _ _) hP.1]; exact T.z71) (by rw [HC, hc_length (foldB_length _ _ _) hP.1]; simp [u8s_length, w32s_length]) ?_
  have hn72 : (HC all part)[72]? = some (.int .i64 (all.length : Int)) := by rw [← List.getElem?_toArray]; exact hc_n (foldB_length _ _ _) hP.1
  refine WL.nil ?_
  refine WX.next ?_
  refine WC.seq ?_
  refine WC.region ?_
  refine WL.buildSlice1 T.u22 T.z5 T.zr5 rfl rfl rfl ?_
  intro b11
  refine WL.toRow (m := 1) rfl (by decide) ?_
  refine WL.val (OV.assign rfl) rfl ?_
  refine WL.nil ?_
  refine WX.next ?_
  refine WC.seq ?_
  refine WC.block ?_
  refine WC.loop3 (fun (k : Nat) (a : Option Addr) (c : Nat) => [(0, .pointer (some ⟨hb, 0, none⟩)), (2, .pointer (some ⟨b2, 0, none⟩)), (3, .pointer (some ⟨b3, 0, none⟩)), (4, .slice a k c)])
      (fun k a c w' => (1 ≤ k ∧ k ≤ padK all.length + 1) ∧ Sat w (fun _ => False) (fun b => b < w.heap.size) w [row 5 1 a k c (u8s (padP k)), own b3 (.cells (HC all part).toArray 71 (0, 0)), own b2 (.cells (u8s (List.replicate 32 0)).toArray 25 (0, 0))] w')
      (fun k _ _ => padK all.length + 1 - k) 1 (some ⟨b11, 0, none⟩) 1 ⟨rfl, rfl, rfl, rfl, trivial⟩ (fun w' hw => ⟨⟨by omega, by omega⟩, hw⟩) ?_
  intro k a c
  refine WC.pure (fun hk => ?_)
  have hpk : padK all.length < 64 := by unfold padK; omega
  have hpl := padP_length hk.1
  refine WC.seq ?_
  refine WC.seq ?_
  refine WC.region ?_
  refine WL.val (OV.move rfl) rfl ?_
  refine WL.val (OV.nilCheck rfl) rfl ?_
  first
  | (refine WL.val (OV.fieldAddr0 (off := 72) rfl T.u71 rfl) rfl ?_)
  | (refine WL.val (OV.fieldAddr (off := 72) rfl T.u71 rfl) rfl ?_)
  refine WL.val (OV.load1 rfl T.u3 rfl (fun _ hw => snapL hw (block_cell hc hn72))) rfl ?_
  refine WL.val (OV.move rfl) rfl ?_
  first
  | (refine WL.val (OV.lenSlice rfl T.u22) rfl ?_)
  | (refine WL.val (OV.lenStr rfl T.u22) rfl ?_)
  refine WL.val (OV.addN rfl rfl (by omega)) rfl ?_
  refine WL.val (OV.remNat (j := 64) rfl rfl (by omega)) rfl ?_
  refine WL.val (OV.neq rfl rfl) rfl ?_
  refine WL.nil ?_
  refine WX.next ?_
  refine WC.cond rfl (fun c20 => ?_) (fun c20 => ?_)
  · simp only [decide_eq_true_eq, decide_eq_false_iff_not, Bool.not_eq_true', Bool.not_eq_false'] at c20
    refine WC.skip ?_
    refine WX.next ?_
    refine WC.block ?_
    refine WC.region ?_
    refine WL.val (OV.move rfl) rfl ?_
    refine WL.buildSlice1 T.u22 T.z5 T.zr5 rfl rfl rfl ?_
    intro b22
    refine WL.focus perm1 (WL.append (bytes := 1) rfl rfl (by kernel_rfl) (fun _ _ => own_src (.tail _ (.head _)) rfl) (by decide) (by simp only [maxLen]; omega) rfl ?_)
    intro a23 c23
    refine WL.val (OV.assign rfl) rfl ?_
    refine WL.nil ?_
    refine WX.block_normal ?_
    have hlt : k < padK all.length + 1 := by unfold padK at *; omega
    exact WX.round3 (k + 1) a23 c23 ⟨rfl, rfl, rfl, rfl, trivial⟩ (fun w' hw => ⟨by omega, by
      have h1 := (hw.perm perm1).drop
      rw [show u8s (padP k) ++ [Value.int .u8 0] = u8s (padP (k + 1)) from by rw [← padP_next hk.1, u8s_append]; rfl] at h1
      exact h1⟩) (by show padK all.length + 1 - (k + 1) < padK all.length + 1 - k; omega)
  · simp only [decide_eq_true_eq, decide_eq_false_iff_not, Bool.not_eq_true', Bool.not_eq_false'] at c20
    refine WC.exit ?_
    refine WX.then_exit ?_
    refine WX.then_exit ?_
    refine WX.block_hit ?_
    refine WX.next ?_
    refine WC.seq ?_
    refine WC.region ?_
    refine WL.val (OV.move rfl) rfl ?_
    refine WL.val (OV.move rfl) rfl ?_
    refine WL.val (OV.nilCheck rfl) rfl ?_
    first
    | (refine WL.val (OV.fieldAddr0 (off := 72) rfl T.u71 rfl) rfl ?_)
    | (refine WL.val (OV.fieldAddr (off := 72) rfl T.u71 rfl) rfl ?_)
    refine WL.val (OV.load1 rfl T.u3 rfl (fun _ hw => snapL hw (block_cell hc hn72))) rfl ?_
    refine WL.val (OV.convU64 T.u3 T.u63 rfl (by omega)) rfl ?_
    refine WL.val ((OV.mulU64 (a := 8) rfl rfl (by omega)).cast (u := .int .u64 ((8 * all.length : Nat) : Int)) (by congr 1)) rfl ?_
    have hkk : k = padK all.length + 1 := by unfold padK at *; omega
    subst hkk
    refine WL.callF (it := fun b => own b (.cells (u8s (be8 (8 * all.length))).toArray 74 (0, 0))) (by kernel_rfl) rfl rfl (fun w' _ => eight_calls (8 * all.length) (by omega) w') ?_
    intro b31 _
    refine WL.focus perm1 (WL.append (bytes := 1) rfl rfl (by kernel_rfl) (fun _ _ => own_src (.tail _ (.head _)) (by rw [u8s_length, be8_length])) (u8s_one _) (by simp only [maxLen]; omega) rfl ?_)
    intro a32 c32
    rw [← u8s_append]
    refine WL.focus perm2 (WL.callM (ι := List UInt8) (vv := fun _ => .tuple #[]) (pp := fun p' => HP (all ++ (padP (padK all.length + 1) ++ be8 (8 * all.length))) p') (oo := fun p' => Obj.cells (HC (all ++ (padP (padK all.length + 1) ++ be8 (8 * all.length))) p').toArray 71) (by kernel_rfl) rfl rfl (fun w' hw => ?_) ?_)
    · have hsr := row_src (.tail _ (.head _)) hw
      have hrb := row_base hw (.tail _ (.head _))
      refine (write_calls all part b3 _ a32 (padK all.length + 1 + 8) c32 ?_ (by omega) w' hP (Src.rb hsr hw) ?_ (hw.it _ (.head _)) ?_ (hK.sat hw)).mono (fun _ _ ⟨x, h1, h2, h3, h4⟩ => ⟨x, h1, h2, h3, h4⟩)
      · rcases hrb.2 with h | ⟨_, _, h⟩
        · omega
        · exact h
      · intro q hq _ hqb
        exact hw.apart (j := row 5 1 a32 (padK all.length + 1 + 8) c32 (u8s (padP (padK all.length + 1) ++ be8 (8 * all.length)))) (.head _) b3 rfl ⟨q, hq, hqb⟩
      · have h1 := (hw.lt _ (.head _) b3 rfl).2.2.resolve_left (fun h => h)
        have h2 := hK.lt (by decide)
        omega
    intro p' hp'
    rw [padL_eq] at hp'
    rw [padL_eq]
    have hsh : HC (padL all) p' = w32s (shaH all) ++ (u8s p' ++ [Value.int .i64 ((padL all).length : Int)]) := rfl
    rw [hsh]
    refine WL.nil ?_
    refine WX.next ?_
    refine WC.seq ?_
    refine WC.region ?_
    refine WL.alloc T.zr25 rfl ?_
    intro b5
    refine WL.nil ?_
    refine WX.next ?_
    refine WC.seq ?_
    refine WC.seq ?_
    refine WC.region ?_
    first
    | (refine WL.val (OV.fieldAddr0 (off := 0) rfl T.u71 rfl) rfl ?_)
    | (refine WL.val (OV.fieldAddr (off := 0) rfl T.u71 rfl) rfl ?_)
    refine WL.val (OV.loadN (cs := w32s (shaH all)) rfl T.u69 rfl (by rw [w32s_length, shaH_length]; exact T.z69) (fun _ hw j v hj => by
      rw [add_off, Nat.zero_add]
      refine own_cells hw (.tail _ (.head _)) j v ?_
      rw [List.getElem?_append_left (List.getElem?_eq_some_iff.1 hj).1]
      exact hj)) rfl ?_
    refine WL.val (OV.move rfl) rfl ?_
    refine WL.nil ?_
    refine WX.next ?_
    refine WC.block ?_
    have hH := shaH_length all
    refine WC.loop1 (fun (i : Nat) => [(2, .pointer (some ⟨b2, 0, none⟩)), (5, .pointer (some ⟨b5, 0, none⟩)), (35, .agg (w32s (shaH all)).toArray), (36, .int .i64 i)])
        (fun i w' => i ≤ 8 ∧ Sat w (fun _ => False) (fun b => b < w.heap.size) w [own b5 (.cells (u8s (outP (shaH all) i ++ List.replicate (32 - 4 * i) 0)).toArray 25 (0, 0)), own b3 (.cells (w32s (shaH all) ++ (u8s p' ++ [Value.int .i64 ((padL all).length : Int)])).toArray 71 (0, 0)), own b2 (.cells (u8s (List.replicate 32 0)).toArray 25 (0, 0))] w')
        (fun i => 8 - i) 0 ⟨rfl, rfl, rfl, rfl, trivial⟩ (fun w' hw => ⟨by omega, hw.perm perm2 |>.drop |>.perm perm2 |>.drop⟩) ?_
    intro i
    refine WC.pure (fun hi => ?_)
    have hol := outP_length (H := shaH all) (i := i) (by omega)
    refine WC.seq ?_
    refine WC.region ?_
    refine WL.val (OV.lss rfl rfl) rfl ?_
    refine WL.nil ?_
    refine WX.next ?_
    refine WC.seq ?_
    refine WC.cond rfl (fun c37 => ?_) (fun c37 => ?_)
    · simp only [decide_eq_true_eq, decide_eq_false_iff_not, Bool.not_eq_true', Bool.not_eq_false'] at c37
      refine WC.skip ?_
      refine WX.next ?_
      refine WC.seq ?_
      refine WC.block ?_
      refine WC.seq ?_
      refine WC.region ?_
      refine WL.val (OV.move rfl) rfl ?_
      refine WL.val (OV.indexArrV rfl rfl T.u69 T.u58 rfl T.z58 ⟨by omega, by omega⟩ (w32s_getD (i := i) _ (by rw [shaH_length]; omega))) rfl ?_
      refine WL.val (OV.assign rfl) rfl ?_
      refine WL.val (OV.assign rfl) rfl ?_
      refine WL.nil ?_
      refine WX.next ?_
      refine WC.region ?_
      refine WL.val (OV.move rfl) rfl ?_
      refine WL.val (OV.mulN (i := 4) rfl rfl (by omega)) rfl ?_
      refine WL.val (OV.move rfl) rfl ?_
      refine WL.val (OV.mulN (i := 4) rfl rfl (by omega)) rfl ?_
      refine WL.val (OV.addN (j := 1) rfl rfl (by omega)) rfl ?_
      refine WL.val (OV.move rfl) rfl ?_
      refine WL.val (OV.mulN (i := 4) rfl rfl (by omega)) rfl ?_
      refine WL.val (OV.addN (j := 2) rfl rfl (by omega)) rfl ?_
      refine WL.val (OV.move rfl) rfl ?_
      refine WL.val (OV.mulN (i := 4) rfl rfl (by omega)) rfl ?_
      refine WL.val (OV.addN (j := 3) rfl rfl (by omega)) rfl ?_
      refine WL.val (OV.move rfl) rfl ?_
      first
      | (refine WL.val (OV.shrW (m := 24) rfl rfl rfl) rfl ?_)
      | (refine WL.val (OV.shrB (m := 24) rfl rfl rfl) rfl ?_)
      | (refine WL.val (OV.shr rfl rfl (by decide)) rfl ?_)
      first
      | (refine WL.val (OV.conv8_32 T.u58 T.u5 rfl) rfl ?_)
      | (refine WL.val (OV.conv32_8 T.u58 T.u5 rfl) rfl ?_)
      | (refine WL.val (OV.convI T.u58 T.u5 rfl (by omega)) rfl ?_)
      | (refine WL.val (OV.convU64 T.u58 T.u5 rfl (by omega)) rfl ?_)
      | (refine WL.val (OV.conv T.u58 T.u5 rfl) rfl ?_)
      refine WL.val (OV.move rfl) rfl ?_
      first
      | (refine WL.val (OV.shrW (m := 16) rfl rfl rfl) rfl ?_)
      | (refine WL.val (OV.shrB (m := 16) rfl rfl rfl) rfl ?_)
      | (refine WL.val (OV.shr rfl rfl (by decide)) rfl ?_)
      first
      | (refine WL.val (OV.conv8_32 T.u58 T.u5 rfl) rfl ?_)
      | (refine WL.val (OV.conv32_8 T.u58 T.u5 rfl) rfl ?_)
      | (refine WL.val (OV.convI T.u58 T.u5 rfl (by omega)) rfl ?_)
      | (refine WL.val (OV.convU64 T.u58 T.u5 rfl (by omega)) rfl ?_)
      | (refine WL.val (OV.conv T.u58 T.u5 rfl) rfl ?_)
      refine WL.val (OV.move rfl) rfl ?_
      first
      | (refine WL.val (OV.shrW (m := 8) rfl rfl rfl) rfl ?_)
      | (refine WL.val (OV.shrB (m := 8) rfl rfl rfl) rfl ?_)
      | (refine WL.val (OV.shr rfl rfl (by decide)) rfl ?_)
      first
      | (refine WL.val (OV.conv8_32 T.u58 T.u5 rfl) rfl ?_)
      | (refine WL.val (OV.conv32_8 T.u58 T.u5 rfl) rfl ?_)
      | (refine WL.val (OV.convI T.u58 T.u5 rfl (by omega)) rfl ?_)
      | (refine WL.val (OV.convU64 T.u58 T.u5 rfl (by omega)) rfl ?_)
      | (refine WL.val (OV.conv T.u58 T.u5 rfl) rfl ?_)
      refine WL.val (OV.move rfl) rfl ?_
      first
      | (refine WL.val (OV.conv8_32 T.u58 T.u5 rfl) rfl ?_)
      | (refine WL.val (OV.conv32_8 T.u58 T.u5 rfl) rfl ?_)
      | (refine WL.val (OV.convI T.u58 T.u5 rfl (by omega)) rfl ?_)
      | (refine WL.val (OV.convU64 T.u58 T.u5 rfl (by omega)) rfl ?_)
      | (refine WL.val (OV.conv T.u58 T.u5 rfl) rfl ?_)
      first
      | (refine WL.val (OV.indexArrN rfl rfl T.u25 T.z5 (by omega)) rfl ?_)
      | (refine WL.val (OV.indexArrON rfl rfl T.u25 T.z5 (by omega)) rfl ?_)
      | (refine WL.val (OV.indexArr1 rfl rfl T.u25 T.z5 (by omega)) rfl ?_)
      refine WL.store1 rfl rfl rfl T.z5 (by simp [u8s_length, hol]; omega) ?_
      first
      | (refine WL.val (OV.indexArrN rfl rfl T.u25 T.z5 (by omega)) rfl ?_)
      | (refine WL.val (OV.indexArrON rfl rfl T.u25 T.z5 (by omega)) rfl ?_)
      | (refine WL.val (OV.indexArr1 rfl rfl T.u25 T.z5 (by omega)) rfl ?_)
      refine WL.store1 rfl rfl rfl T.z5 (by simp [u8s_length, hol]; omega) ?_
      first
      | (refine WL.val (OV.indexArrN rfl rfl T.u25 T.z5 (by omega)) rfl ?_)
      | (refine WL.val (OV.indexArrON rfl rfl T.u25 T.z5 (by omega)) rfl ?_)
      | (refine WL.val (OV.indexArr1 rfl rfl T.u25 T.z5 (by omega)) rfl ?_)
      refine WL.store1 rfl rfl rfl T.z5 (by simp [u8s_length, hol]; omega) ?_
      first
      | (refine WL.val (OV.indexArrN rfl rfl T.u25 T.z5 (by omega)) rfl ?_)
      | (refine WL.val (OV.indexArrON rfl rfl T.u25 T.z5 (by omega)) rfl ?_)
      | (refine WL.val (OV.indexArr1 rfl rfl T.u25 T.z5 (by omega)) rfl ?_)
      refine WL.store1 rfl rfl rfl T.z5 (by simp [u8s_length, hol]; omega) ?_
      rw [out_four hol (by omega), ← outP_succ (by omega)]
      refine WL.nil ?_
      refine WX.block_normal ?_
      refine WX.next ?_
      refine WC.region ?_
      refine WL.val (OV.addN (j := 1) rfl rfl (by omega)) rfl ?_
      refine WL.val (OV.move rfl) rfl ?_
      refine WL.nil ?_
      exact WX.round1 (i + 1) ⟨rfl, rfl, rfl, rfl, trivial⟩ (fun w' hw => ⟨by omega, hw⟩) (by show 8 - (i + 1) < 8 - i; omega)
    · simp only [decide_eq_true_eq, decide_eq_false_iff_not, Bool.not_eq_true', Bool.not_eq_false'] at c37
      refine WC.exit ?_
      refine WX.then_exit ?_
      refine WX.then_exit ?_
      refine WX.block_hit ?_
      refine WX.next ?_
      refine WC.seq ?_
      refine WC.region ?_
      have hi8 : i = 8 := by omega
      subst hi8
      rw [show outP (shaH all) 8 ++ List.replicate (32 - 4 * 8) 0 = shaD all from by rw [outP, List.take_of_length_le (by omega)]; simp [shaD]]
      refine WL.val (OV.loadN (cs := u8s (shaD all)) rfl T.u25 rfl (by rw [u8s_length, shaD_length]; exact T.z25) (fun _ hw j v hj => by rw [add_off, Nat.zero_add]; exact own_cells hw (.head _) j v hj)) rfl ?_
      refine WL.focus perm2 (WL.storeAll (vs := u8s (shaD all)) rfl rfl (List.all_eq_true.2 (u8s_one _)) (by rw [u8s_length, shaD_length]; exact T.z25) (by rw [u8s_length, u8s_length, shaD_length]; rfl) ?_)
      refine WL.nil ?_
      refine WX.next ?_
      refine WC.ret ?_
      exact WX.retC (cs := u8s (shaD all)) rfl rfl rfl T.u25 rfl (by rw [u8s_length, shaD_length]; exact T.z25) (fun _ hw => own_cells hw (.head _)) (fun w hw => ⟨rfl, hw.fr⟩)

end Go.Proofs.YtplebagdajdcnaaDoor
