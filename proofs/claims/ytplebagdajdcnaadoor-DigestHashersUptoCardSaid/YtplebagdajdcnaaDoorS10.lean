/- Contracts of functions of the program: what each returns and leaves in memory. Printed by gen.py and walk.py. -/
import Derived.Test.YtplebagdajdcnaaDoorS9
namespace Go.Proofs.YtplebagdajdcnaaDoor
open Go Go.Hw
set_option linter.unusedSimpArgs false
set_option linter.unusedVariables false
theorem be4_get (x : UInt32) {r : Nat} (h : r < 4) : (be4 x).getD r 0 = UInt8.ofNat (x.toNat / 2 ^ (24 - 8 * r)) := by
  have key : ∀ k : Nat, k < 32 → (x >>> UInt32.ofNat k).toUInt8 = UInt8.ofNat (x.toNat / 2 ^ k) := by
    intro k hk
    apply UInt8.toNat_inj.1
    have h1 : (UInt32.ofNat k).toNat % 32 = k := by rw [UInt32.toNat_ofNat']; omega
    rw [UInt32.toNat_toUInt8, UInt32.toNat_shiftRight, h1, Nat.shiftRight_eq_div_pow, UInt8.toNat_ofNat']
  match r, h with
  | 0, _ => exact key 24 (by omega)
  | 1, _ => exact key 16 (by omega)
  | 2, _ => exact key 8 (by omega)
  | 3, _ =>
    show x.toUInt8 = UInt8.ofNat (x.toNat / 2 ^ 0)
    apply UInt8.toNat_inj.1
    rw [UInt32.toNat_toUInt8, UInt8.toNat_ofNat', Nat.pow_zero, Nat.div_one]
theorem be4s_get : ∀ (H : List UInt32) (q r : Nat), q < H.length → r < 4 → (H.flatMap be4).getD (4 * q + r) 0 = (be4 (H.getD q 0)).getD r 0
  | [], _, _, h, _ => by simp at h
  | x :: H, 0, r, _, hr => by
    rw [List.flatMap_cons, Nat.mul_zero, Nat.zero_add, List.getD_eq_getElem?_getD, List.getElem?_append_left (by simp [be4]; omega)]
    rfl
  | x :: H, q + 1, r, h, hr => by
    have e : 4 * (q + 1) + r - (be4 x).length = 4 * q + r := by simp [be4]; omega
    rw [List.flatMap_cons, List.getD_eq_getElem?_getD, List.getElem?_append_right (by simp [be4]; omega), e, ← List.getD_eq_getElem?_getD, be4s_get H q r (by simpa using h) hr]
    rfl
theorem shaD_get (l : List UInt8) {i : Nat} (h : i < 32) : (shaD l).getD i 0 = UInt8.ofNat (((shaH l).getD (i / 4) 0).toNat / 2 ^ (24 - 8 * (i % 4))) := by
  have h1 := be4s_get (shaH l) (i / 4) (i % 4) (by rw [shaH_length]; omega) (by omega)
  rw [show 4 * (i / 4) + i % 4 = i from by omega] at h1
  rw [shaD, h1, be4_get _ (by omega)]

set_option maxRecDepth 10000 in
theorem refSum_calls (l : List UInt8) (a : Option Addr) (m c : Nat) (hsz : m ≤ 140737488355000) (w : World) (hl : RB w a m l) (hF : Tab w 0 h0W) (hK : Tab w 2 kW) : Calls Tryd.prog 13 #[.slice a m c] w fun e w' => e = .returned (.agg (u8s (shaD l)).toArray) ∧ Fr0 w w' := by
  refine enterS (args := [.slice a m c]) (fun _ => False) Tryd.func13 rfl Tryd.ntmps13 rfl rfl ?_
  refine WC.seq ?_
  refine WC.region ?_
  refine WL.alloc T.zr25 rfl ?_
  intro b2
  refine WL.nil ?_
  refine WX.next ?_
  refine WC.seq ?_
  refine WC.region ?_
  refine WL.val (OV.move rfl) rfl ?_
  refine WL.callF (it := fun q : Option Addr × Nat => row 5 1 q.1 (padL l).length q.2 (u8s (padL l))) (by kernel_rfl) rfl rfl (fun w' hw => padded_calls l a m c hsz w' (hl.sat hw)) ?_
  rintro ⟨a9, c9⟩ _
  refine WL.val (OV.assign rfl) rfl ?_
  refine WL.nil ?_
  refine WX.next ?_
  refine WC.seq ?_
  refine WC.region ?_
  refine WL.val (OV.loadN (cs := w32s h0W) rfl T.u59 rfl T.z59 (fun _ hw j v hj => by
    rw [add_off, Nat.zero_add]
    have hj' : j < 8 := (List.getElem?_eq_some_iff.1 hj).1
    rw [w32s_getD _ hj', Option.some.injEq] at hj
    subst hj
    exact snapL hw (hF j hj'))) rfl ?_
  refine WL.alloc T.zr59 rfl ?_
  intro b4
  refine WL.storeAll (vs := w32s h0W) rfl rfl (List.all_eq_true.2 (w32s_one _)) T.z59 (Eq.refl 8) ?_
  refine WL.nil ?_
  refine WX.next ?_
  refine WC.seq ?_
  refine WC.seq ?_
  refine WC.region ?_
  refine WL.val (OV.assign rfl) rfl ?_
  refine WL.nil ?_
  refine WX.next ?_
  refine WC.block ?_
  have hpl := padL_length l
  have hpk : padK l.length < 64 := by unfold padK; omega
  have hlm := hl.1
  refine WC.loop1 (fun (k : Nat) => [(2, .pointer (some ⟨b2, 0, none⟩)), (3, .slice a9 (padL l).length c9), (4, .pointer (some ⟨b4, 0, none⟩)), (5, .int .i64 ((64 * k : Nat) : Int))])
      (fun k w' => k ≤ (padL l).length / 64 ∧ Sat w (fun _ => False) (fun b => b < w.heap.size) w [own b4 (.cells (w32s (foldB h0W (padL l) k)).toArray 59 (0, 0)), row 5 1 a9 (padL l).length c9 (u8s (padL l)), own b2 (.cells (u8s (List.replicate 32 0)).toArray 25 (0, 0))] w')
      (fun k => (padL l).length / 64 - k) 0 ⟨rfl, rfl, rfl, rfl, trivial⟩ (fun w' hw => ⟨by omega, hw⟩) ?_
  intro k
  refine WC.pure (fun hk => ?_)
  refine WC.seq ?_
  refine WC.seq ?_
  refine WC.region ?_
  refine WL.val (OV.move rfl) rfl ?_
  refine WL.val (OV.move rfl) rfl ?_
  first
  | (refine WL.val (OV.lenSlice rfl T.u22) rfl ?_)
  | (refine WL.val (OV.lenStr rfl T.u22) rfl ?_)
  refine WL.val (OV.lss rfl rfl) rfl ?_
  refine WL.nil ?_
  refine WX.next ?_
  refine WC.cond rfl (fun c14 => ?_) (fun c14 => ?_)
  · simp only [decide_eq_true_eq, decide_eq_false_iff_not, Bool.not_eq_true', Bool.not_eq_false'] at c14
    refine WC.skip ?_
    refine WX.next ?_
    refine WC.seq ?_
    refine WC.block ?_
    refine WC.region ?_
    refine WL.val (OV.loadN (cs := w32s (foldB h0W (padL l) k)) rfl T.u59 rfl (by rw [w32s_length, foldB_length]; exact T.z59) (fun _ hw j v hj => by rw [add_off, Nat.zero_add]; exact own_cells hw (.head _) j v hj)) rfl ?_
    refine WL.val (OV.move rfl) rfl ?_
    refine WL.val (OV.move rfl) rfl ?_
    refine WL.know (fun w' hw => row_some hw (.tail _ (.head _)) (by omega)) (fun hq => ?_)
    obtain ⟨q, rfl⟩ := hq
    refine WL.call0 (v := .agg (w32s (foldB h0W (padL l) (k + 1))).toArray) (by kernel_rfl) rfl rfl (fun w' hw => block_calls (foldB h0W (padL l) k) (padL l) q (padL l).length c9 (64 * k) (by rw [foldB_length]; rfl) (by omega) (by omega) w' (RB.of_row hw (.tail _ (.head _))).1 (hK.sat hw)) ?_
    refine WL.storeAll (vs := w32s (foldB h0W (padL l) (k + 1))) rfl rfl (List.all_eq_true.2 (w32s_one _)) (by rw [w32s_length, foldB_length]; exact T.z59) (by rw [w32s_length, w32s_length, foldB_length, foldB_length]) ?_
    refine WL.nil ?_
    refine WX.block_normal ?_
    refine WX.next ?_
    refine WC.region ?_
    refine WL.val (OV.move rfl) rfl ?_
    refine WL.val (OV.addN (j := 64) rfl rfl (by omega)) rfl ?_
    refine WL.val (OV.assign rfl) rfl ?_
    refine WL.nil ?_
    exact WX.round1 (k + 1) ⟨rfl, rfl, rfl, rfl, trivial⟩ (fun w' hw => ⟨by omega, hw⟩) (by show (padL l).length / 64 - (k + 1) < (padL l).length / 64 - k; omega)
  · simp only [decide_eq_true_eq, decide_eq_false_iff_not, Bool.not_eq_true', Bool.not_eq_false'] at c14
    refine WC.exit ?_
    refine WX.then_exit ?_
    refine WX.then_exit ?_
    refine WX.block_hit ?_
    refine WX.next ?_
    refine WC.seq ?_
    refine WC.region ?_
    refine WL.alloc T.zr25 rfl ?_
    intro b6
    refine WL.nil ?_
    refine WX.next ?_
    refine WC.seq ?_
    refine WC.seq ?_
    refine WC.region ?_
    refine WL.val (OV.assign rfl) rfl ?_
    refine WL.nil ?_
    refine WX.next ?_
    refine WC.block ?_
    have hkk : k = (padL l).length / 64 := by omega
    subst hkk
    have hD := shaD_length l
    refine WC.loop1 (fun (i : Nat) => [(2, .pointer (some ⟨b2, 0, none⟩)), (4, .pointer (some ⟨b4, 0, none⟩)), (6, .pointer (some ⟨b6, 0, none⟩)), (7, .int .i64 (i : Int))])
        (fun i w' => i ≤ 32 ∧ Sat w (fun _ => False) (fun b => b < w.heap.size) w [own b6 (.cells (u8s ((shaD l).take i ++ List.replicate (32 - i) 0)).toArray 25 (0, 0)), own b4 (.cells (w32s (shaH l)).toArray 59 (0, 0)), row 5 1 a9 (padL l).length c9 (u8s (padL l)), own b2 (.cells (u8s (List.replicate 32 0)).toArray 25 (0, 0))] w')
        (fun i => 32 - i) 0 ⟨rfl, rfl, rfl, rfl, trivial⟩ (fun w' hw => ⟨by omega, hw⟩) ?_
    intro i
    refine WC.pure (fun hi => ?_)
    refine WC.seq ?_
    refine WC.seq ?_
    refine WC.region ?_
    refine WL.val (OV.move rfl) rfl ?_
    refine WL.val (OV.lss rfl rfl) rfl ?_
    refine WL.nil ?_
    refine WX.next ?_
    refine WC.cond rfl (fun c22 => ?_) (fun c22 => ?_)
    · simp only [decide_eq_true_eq, decide_eq_false_iff_not, Bool.not_eq_true', Bool.not_eq_false'] at c22
      refine WC.skip ?_
      refine WX.next ?_
      refine WC.seq ?_
      refine WC.block ?_
      refine WC.region ?_
      refine WL.val (OV.move rfl) rfl ?_
      refine WL.val (OV.move rfl) rfl ?_
      refine WL.val (OV.quoN (j := 4) rfl rfl (by omega)) rfl ?_
      first
      | (refine WL.val (OV.indexArrN rfl rfl T.u59 T.z58 (by omega)) rfl ?_)
      | (refine WL.val (OV.indexArrON rfl rfl T.u59 T.z58 (by omega)) rfl ?_)
      | (refine WL.val (OV.indexArr1 rfl rfl T.u59 T.z58 (by omega)) rfl ?_)
      refine WL.val (OV.load1 rfl T.u58 rfl (fun _ hw => cell_own hw (.tail _ (.head _)) (w32s_arr _ (by rw [shaH_length]; omega)))) rfl ?_
      refine WL.val (OV.move rfl) rfl ?_
      refine WL.val (OV.remNat (j := 4) rfl rfl (by omega)) rfl ?_
      refine WL.val (OV.mulN (i := 8) rfl rfl (by omega)) rfl ?_
      refine WL.val (OV.subN (i := 24) rfl rfl (wrap_i64 (by omega)) (by omega)) rfl ?_
      refine WL.val (OV.convU64 T.u3 T.u61 rfl (by omega)) rfl ?_
      refine WL.val ((OV.shr rfl rfl (decide_eq_true (by show _ ∧ _ ≤ ((32 : Nat) : Int); omega))).cast (u := .int .u32 (((((shaH l).getD (i / 4) 0).toNat / 2 ^ (24 - 8 * (i % 4)) : Nat)) : Int)) (by congr 1)) rfl ?_
      refine WL.val ((OV.convI_8 T.u58 T.u5 rfl).cast (u := b8 ((shaD l).getD i 0)) (by rw [shaD_get l (by omega)])) rfl ?_
      first
      | (refine WL.val (OV.indexArrN rfl rfl T.u25 T.z5 (by omega)) rfl ?_)
      | (refine WL.val (OV.indexArrON rfl rfl T.u25 T.z5 (by omega)) rfl ?_)
      | (refine WL.val (OV.indexArr1 rfl rfl T.u25 T.z5 (by omega)) rfl ?_)
      refine WL.store1 rfl rfl rfl T.z5 (by rw [u8s_length]; simp; omega) ?_
      rw [u8_next (i := i) (by simp; omega) (by omega), take_snoc _ (by omega)]
      refine WL.nil ?_
      refine WX.block_normal ?_
      refine WX.next ?_
      refine WC.region ?_
      refine WL.val (OV.move rfl) rfl ?_
      refine WL.val (OV.addN (j := 1) rfl rfl (by omega)) rfl ?_
      refine WL.val (OV.assign rfl) rfl ?_
      refine WL.nil ?_
      exact WX.round1 (i + 1) ⟨rfl, rfl, rfl, rfl, trivial⟩ (fun w' hw => ⟨by omega, hw⟩) (by show 32 - (i + 1) < 32 - i; omega)
    · simp only [decide_eq_true_eq, decide_eq_false_iff_not, Bool.not_eq_true', Bool.not_eq_false'] at c22
      refine WC.exit ?_
      refine WX.then_exit ?_
      refine WX.then_exit ?_
      refine WX.block_hit ?_
      refine WX.next ?_
      refine WC.seq ?_
      refine WC.region ?_
      have hi32 : i = 32 := by omega
      subst hi32
      rw [show (shaD l).take 32 ++ List.replicate (32 - 32) 0 = shaD l from by rw [List.take_of_length_le (by omega)]; simp]
      refine WL.val (OV.loadN (cs := u8s (shaD l)) rfl T.u25 rfl (by rw [u8s_length, shaD_length]; exact T.z25) (fun _ hw j v hj => by rw [add_off, Nat.zero_add]; exact own_cells hw (.head _) j v hj)) rfl ?_
      refine WL.focus perm3 (WL.storeAll (vs := u8s (shaD l)) rfl rfl (List.all_eq_true.2 (u8s_one _)) (by rw [u8s_length, shaD_length]; exact T.z25) (by rw [u8s_length, u8s_length, shaD_length]; rfl) ?_)
      refine WL.nil ?_
      refine WX.next ?_
      refine WC.ret ?_
      exact WX.retC (cs := u8s (shaD l)) rfl rfl rfl T.u25 rfl (by rw [u8s_length, shaD_length]; exact T.z25) (fun _ hw => own_cells hw (.head _)) (fun w hw => ⟨rfl, hw.fr⟩)

end Go.Proofs.YtplebagdajdcnaaDoor
