/- Contracts of functions of the program: what each returns and leaves in memory. Printed by gen.py and walk.py. -/
import Derived.Test.YtplebagdajdcnaaDoorS0
import Derived.Test.YtplebagdajdcnaaDoorTy
namespace Go.Proofs.YtplebagdajdcnaaDoor
open Go Go.Hw
set_option linter.unusedSimpArgs false
set_option linter.unusedVariables false
theorem rlbits : ∀ n : Fin 32, 0 < n.val → bits .and .u64 (IntKind.u64.wrap (IntKind.i64.wrap (-(n.val : Int)))) 31 = ((32 - n.val : Nat) : Int) := by decide +kernel
theorem schCell (b : List UInt8) (t j m : Nat) (h : j < t) : (w32s (schW b t ++ List.replicate m 0)).toArray[j]? = some (w32 ((schW b t).getD j 0)) := by
  have hl := schW_length b t
  rw [w32s_arr _ (by simp; omega)]
  congr 2
  simp [List.getD, List.getElem?_append_left (show j < (schW b t).length by omega)]

set_option maxRecDepth 10000 in
theorem rl_calls (x : UInt32) (n : Nat) (h0 : 0 < n) (hn : n < 32) (w : World) : Calls Tryd.prog 43 #[w32 x, .int .i64 (IntKind.i64.wrap (-(n : Int)))] w fun e w' => e = .returned (w32 (rotr x n)) ∧ Fr0 w w' := by
  refine enterS (args := [w32 x, .int .i64 (IntKind.i64.wrap (-(n : Int)))]) (fun _ => False) Tryd.func43 rfl Tryd.ntmps43 rfl rfl ?_
  refine WC.seq ?_
  refine WC.region ?_
  refine WL.val (OV.assign rfl) rfl ?_
  refine WL.nil ?_
  refine WX.next ?_
  refine WC.seq ?_
  refine WC.region ?_
  refine WL.val (OV.move rfl) rfl ?_
  refine WL.val (OV.conv T.u3 T.u61 rfl) rfl ?_
  refine WL.val ((OV.and rfl rfl).cast (u := .int .u64 ((32 - n : Nat) : Int)) (by rw [rlbits ⟨n, hn⟩ h0])) rfl ?_
  refine WL.val (OV.assign rfl) rfl ?_
  refine WL.nil ?_
  refine WX.next ?_
  refine WC.seq ?_
  refine WC.region ?_
  refine WL.val (OV.move rfl) rfl ?_
  refine WL.val (OV.move rfl) rfl ?_
  refine WL.val (OV.shlW (m := 32 - n) rfl rfl (by simp [Nat.blt_eq]; omega)) rfl ?_
  refine WL.val (OV.move rfl) rfl ?_
  refine WL.val (OV.move rfl) rfl ?_
  refine WL.val ((OV.subU64 rfl rfl (by omega)).cast (u := .int .u64 (n : Int)) (by congr 1; omega)) rfl ?_
  refine WL.val (OV.shrW (m := n) rfl rfl (by simp [Nat.blt_eq]; omega)) rfl ?_
  refine WL.val (OV.orW rfl rfl) rfl ?_
  refine WL.val (OV.assign rfl) rfl ?_
  refine WL.nil ?_
  refine WX.next ?_
  refine WC.ret ?_
  exact WX.ret1 rfl rfl rfl (fun w hw => ⟨rfl, hw.fr⟩)

set_option maxRecDepth 10000 in
theorem right_calls (x : UInt32) (n : Nat) (h0 : 0 < n ∧ n < 32) (w : World) : Calls Tryd.prog 42 #[w32 x, .int .i64 (n : Int)] w fun e w' => e = .returned (w32 (rotr x n)) ∧ Fr0 w w' := by
  refine enterS (args := [w32 x, .int .i64 (n : Int)]) (fun _ => False) Tryd.func42 rfl Tryd.ntmps42 rfl rfl ?_
  refine WC.seq ?_
  refine WC.region ?_
  refine WL.val (OV.assign rfl) rfl ?_
  refine WL.nil ?_
  refine WX.next ?_
  refine WC.seq ?_
  refine WC.region ?_
  refine WL.val (OV.move rfl) rfl ?_
  refine WL.val (OV.move rfl) rfl ?_
  refine WL.val (OV.neg rfl) rfl ?_
  refine WL.call0 (by kernel_rfl) rfl rfl (fun w' _ => rl_calls x n h0.1 h0.2 w') ?_
  refine WL.val (OV.assign rfl) rfl ?_
  refine WL.nil ?_
  refine WX.next ?_
  refine WC.ret ?_
  exact WX.ret1 rfl rfl rfl (fun w hw => ⟨rfl, hw.fr⟩)

set_option maxRecDepth 10000 in
theorem rot_calls (x : UInt32) (n : Nat) (h0 : 0 < n ∧ n < 32) (w : World) : Calls Tryd.prog 40 #[w32 x, .int .u64 (n : Int)] w fun e w' => e = .returned (w32 (rotr x n)) ∧ Fr0 w w' := by
  refine enterS (args := [w32 x, .int .u64 (n : Int)]) (fun _ => False) Tryd.func40 rfl Tryd.ntmps40 rfl rfl ?_
  refine WC.seq ?_
  refine WC.region ?_
  refine WL.val (OV.assign rfl) rfl ?_
  refine WL.nil ?_
  refine WX.next ?_
  refine WC.seq ?_
  refine WC.region ?_
  refine WL.val (OV.move rfl) rfl ?_
  refine WL.val (OV.move rfl) rfl ?_
  refine WL.val (OV.shrW (m := n) rfl rfl (by simp [Nat.blt_eq]; omega)) rfl ?_
  refine WL.val (OV.move rfl) rfl ?_
  refine WL.val (OV.move rfl) rfl ?_
  refine WL.val ((OV.subU64 rfl rfl (by omega)).cast (u := .int .u64 ((32 - n : Nat) : Int)) (by congr 1; omega)) rfl ?_
  refine WL.val (OV.shlW (m := 32 - n) rfl rfl (by simp [Nat.blt_eq]; omega)) rfl ?_
  refine WL.val (OV.orW rfl rfl) rfl ?_
  refine WL.val (OV.assign rfl) rfl ?_
  refine WL.nil ?_
  refine WX.next ?_
  refine WC.ret ?_
  exact WX.ret1 rfl rfl rfl (fun w hw => ⟨by rw [rotr, UInt32.or_comm], hw.fr⟩)

set_option maxRecDepth 10000 in
theorem schedule_calls (b : List UInt8) (a : Addr) (m c : Nat) (hm : 64 ≤ m) (w : World) (hb : RB w (some a) m b) : Calls Tryd.prog 41 #[.slice (some a) m c] w fun e w' => e = .returned (.agg (w32s (schW b 64)).toArray) ∧ Fr0 w w' := by
  refine enterS (args := [.slice (some a) m c]) (fun _ => False) Tryd.func41 rfl Tryd.ntmps41 rfl rfl ?_
  refine WC.seq ?_
  refine WC.region ?_
  refine WL.alloc T.zr72 rfl ?_
  intro b2
  refine WL.nil ?_
  refine WX.next ?_
  refine WC.seq ?_
  refine WC.region ?_
  refine WL.alloc T.zr72 rfl ?_
  intro b3
  refine WL.nil ?_
  refine WX.next ?_
  refine WC.seq ?_
  refine WC.seq ?_
  refine WC.region ?_
  refine WL.val (OV.move rfl) rfl ?_
  refine WL.nil ?_
  refine WX.next ?_
  refine WC.block ?_
  refine WC.loop1 (fun (t : Nat) => [(0, .slice (some a) m c), (2, .pointer (some ⟨b2, 0, none⟩)), (3, .pointer (some ⟨b3, 0, none⟩)), (10, .int .i64 t)])
      (fun t w' => t ≤ 16 ∧ Sat w (fun _ => False) (fun b => b < w.heap.size) w [own b3 (.cells (w32s (schW b t ++ List.replicate (64 - t) 0)).toArray 72 (0, 0)), own b2 (.cells (w32s (List.replicate 64 0)).toArray 72 (0, 0))] w')
      (fun t => 16 - t) 0 ⟨rfl, rfl, rfl, rfl, trivial⟩ (fun w' hw => ⟨by omega, hw⟩) ?_
  intro t
  refine WC.pure (fun ht => ?_)
  have hsl := schW_length b t
  refine WC.seq ?_
  refine WC.region ?_
  refine WL.val (OV.lss rfl rfl) rfl ?_
  refine WL.nil ?_
  refine WX.next ?_
  refine WC.seq ?_
  refine WC.cond rfl (fun c11 => ?_) (fun c11 => ?_)
  · simp only [decide_eq_true_eq, decide_eq_false_iff_not, Bool.not_eq_true', Bool.not_eq_false'] at c11
    refine WC.skip ?_
    refine WX.next ?_
    refine WC.seq ?_
    refine WC.block ?_
    refine WC.seq ?_
    refine WC.region ?_
    refine WL.val (OV.move rfl) rfl ?_
    refine WL.val (OV.assign rfl) rfl ?_
    refine WL.nil ?_
    refine WX.next ?_
    refine WC.tail 35 (by kernel_rfl) (by kernel_rfl) ?_
    refine WS.val (OV.move rfl) rfl ?_
    refine WS.val (OV.move rfl) rfl ?_
    refine WS.val (OV.move rfl) rfl ?_
    first
    | (refine WS.val (OV.mulI rfl rfl (by omega)) rfl ?_)
    | (refine WS.val (OV.mulU64 rfl rfl (by omega)) rfl ?_)
    | (refine WS.val (OV.mulB (b := 4) rfl rfl) rfl ?_)
    | (refine WS.val (OV.mul rfl rfl) rfl ?_)
    refine WS.val (OV.indexSliceA (i := 4 * t) rfl rfl T.u22 T.z5 (by omega)) rfl ?_
    refine WS.val (OV.load1 rfl T.u5 rfl (fun _ hw => snapL hw (hb.cell (by omega)))) rfl ?_
    first
    | (refine WS.val (OV.conv8_32 T.u5 T.u58 rfl) rfl ?_)
    | (refine WS.val (OV.conv32_8 T.u5 T.u58 rfl) rfl ?_)
    | (refine WS.val (OV.convI T.u5 T.u58 rfl (by omega)) rfl ?_)
    | (refine WS.val (OV.convU64 T.u5 T.u58 rfl (by omega)) rfl ?_)
    | (refine WS.val (OV.conv T.u5 T.u58 rfl) rfl ?_)
    first
    | (refine WS.val (OV.shlW (m := 24) rfl rfl rfl) rfl ?_)
    | (refine WS.val (OV.shl rfl rfl (by decide)) rfl ?_)
    refine WS.val (OV.move rfl) rfl ?_
    refine WS.val (OV.move rfl) rfl ?_
    first
    | (refine WS.val (OV.mulI rfl rfl (by omega)) rfl ?_)
    | (refine WS.val (OV.mulU64 rfl rfl (by omega)) rfl ?_)
    | (refine WS.val (OV.mulB (b := 4) rfl rfl) rfl ?_)
    | (refine WS.val (OV.mul rfl rfl) rfl ?_)
    first
    | (refine WS.val (OV.addI rfl rfl (by omega)) rfl ?_)
    | (refine WS.val (OV.add rfl rfl) rfl ?_)
    refine WS.val (OV.indexSliceA (i := 4 * t + 1) rfl rfl T.u22 T.z5 (by omega)) rfl ?_
    refine WS.val (OV.load1 rfl T.u5 rfl (fun _ hw => snapL hw (hb.cell (by omega)))) rfl ?_
    first
    | (refine WS.val (OV.conv8_32 T.u5 T.u58 rfl) rfl ?_)
    | (refine WS.val (OV.conv32_8 T.u5 T.u58 rfl) rfl ?_)
    | (refine WS.val (OV.convI T.u5 T.u58 rfl (by omega)) rfl ?_)
    | (refine WS.val (OV.convU64 T.u5 T.u58 rfl (by omega)) rfl ?_)
    | (refine WS.val (OV.conv T.u5 T.u58 rfl) rfl ?_)
    first
    | (refine WS.val (OV.shlW (m := 16) rfl rfl rfl) rfl ?_)
    | (refine WS.val (OV.shl rfl rfl (by decide)) rfl ?_)
    refine WS.val (OV.orW rfl rfl) rfl ?_
    refine WS.val (OV.move rfl) rfl ?_
    refine WS.val (OV.move rfl) rfl ?_
    first
    | (refine WS.val (OV.mulI rfl rfl (by omega)) rfl ?_)
    | (refine WS.val (OV.mulU64 rfl rfl (by omega)) rfl ?_)
    | (refine WS.val (OV.mulB (b := 4) rfl rfl) rfl ?_)
    | (refine WS.val (OV.mul rfl rfl) rfl ?_)
    first
    | (refine WS.val (OV.addI rfl rfl (by omega)) rfl ?_)
    | (refine WS.val (OV.add rfl rfl) rfl ?_)
    refine WS.val (OV.indexSliceA (i := 4 * t + 2) rfl rfl T.u22 T.z5 (by omega)) rfl ?_
    refine WS.val (OV.load1 rfl T.u5 rfl (fun _ hw => snapL hw (hb.cell (by omega)))) rfl ?_
    first
    | (refine WS.val (OV.conv8_32 T.u5 T.u58 rfl) rfl ?_)
    | (refine WS.val (OV.conv32_8 T.u5 T.u58 rfl) rfl ?_)
    | (refine WS.val (OV.convI T.u5 T.u58 rfl (by omega)) rfl ?_)
    | (refine WS.val (OV.convU64 T.u5 T.u58 rfl (by omega)) rfl ?_)
    | (refine WS.val (OV.conv T.u5 T.u58 rfl) rfl ?_)
    first
    | (refine WS.val (OV.shlW (m := 8) rfl rfl rfl) rfl ?_)
    | (refine WS.val (OV.shl rfl rfl (by decide)) rfl ?_)
    refine WS.val (OV.orW rfl rfl) rfl ?_
    refine WS.val (OV.move rfl) rfl ?_
    refine WS.val (OV.move rfl) rfl ?_
    first
    | (refine WS.val (OV.mulI rfl rfl (by omega)) rfl ?_)
    | (refine WS.val (OV.mulU64 rfl rfl (by omega)) rfl ?_)
    | (refine WS.val (OV.mulB (b := 4) rfl rfl) rfl ?_)
    | (refine WS.val (OV.mul rfl rfl) rfl ?_)
    first
    | (refine WS.val (OV.addI rfl rfl (by omega)) rfl ?_)
    | (refine WS.val (OV.add rfl rfl) rfl ?_)
    refine WS.val (OV.indexSliceA (i := 4 * t + 3) rfl rfl T.u22 T.z5 (by omega)) rfl ?_
    refine WS.val (OV.load1 rfl T.u5 rfl (fun _ hw => snapL hw (hb.cell (by omega)))) rfl ?_
    first
    | (refine WS.val (OV.conv8_32 T.u5 T.u58 rfl) rfl ?_)
    | (refine WS.val (OV.conv32_8 T.u5 T.u58 rfl) rfl ?_)
    | (refine WS.val (OV.convI T.u5 T.u58 rfl (by omega)) rfl ?_)
    | (refine WS.val (OV.convU64 T.u5 T.u58 rfl (by omega)) rfl ?_)
    | (refine WS.val (OV.conv T.u5 T.u58 rfl) rfl ?_)
    refine WS.val (OV.orW rfl rfl) rfl ?_
    first
    | (refine WS.val (OV.indexArrN rfl rfl T.u72 T.z58 (by omega)) rfl ?_)
    | (refine WS.val (OV.indexArrON rfl rfl T.u72 T.z58 (by omega)) rfl ?_)
    | (refine WS.val (OV.indexArr1 rfl rfl T.u72 T.z58 (by omega)) rfl ?_)
    refine WS.nil ?_
    refine WL.store1 rfl rfl rfl T.z58 (by simp [w32s_length, hsl]; omega) ?_
    refine WL.nil ?_
    refine WX.block_normal ?_
    refine WX.next ?_
    refine WC.region ?_
    first
    | (refine WL.val (OV.addI rfl rfl (by omega)) rfl ?_)
    | (refine WL.val (OV.add rfl rfl) rfl ?_)
    refine WL.val (OV.move rfl) rfl ?_
    refine WL.nil ?_
    exact WX.round1 (t + 1) ⟨rfl, rfl, rfl, rfl, trivial⟩ (fun w' hw => ⟨by omega, by
      rw [w32_next hsl (by omega)] at hw
      unfold schW
      rw [if_pos (by omega)]
      exact hw⟩) (by show 16 - (t + 1) < 16 - t; omega)
  · simp only [decide_eq_true_eq, decide_eq_false_iff_not, Bool.not_eq_true', Bool.not_eq_false'] at c11
    refine WC.exit ?_
    refine WX.then_exit ?_
    refine WX.then_exit ?_
    refine WX.block_hit ?_
    refine WX.next ?_
    refine WC.seq ?_
    refine WC.seq ?_
    refine WC.region ?_
    refine WL.val (OV.assign rfl) rfl ?_
    refine WL.nil ?_
    refine WX.next ?_
    refine WC.block ?_
    have ht16 : t = 16 := by omega
    subst ht16
    refine WC.loop1 (fun (t : Nat) => [(2, .pointer (some ⟨b2, 0, none⟩)), (3, .pointer (some ⟨b3, 0, none⟩)), (5, .int .i64 t)])
        (fun t w' => (16 ≤ t ∧ t ≤ 64) ∧ Sat w (fun _ => False) (fun b => b < w.heap.size) w [own b3 (.cells (w32s (schW b t ++ List.replicate (64 - t) 0)).toArray 72 (0, 0)), own b2 (.cells (w32s (List.replicate 64 0)).toArray 72 (0, 0))] w')
        (fun t => 64 - t) 16 ⟨rfl, rfl, rfl, trivial⟩ (fun w' hw => ⟨by omega, hw⟩) ?_
    intro t
    refine WC.pure (fun ht => ?_)
    have hsl := schW_length b t
    refine WC.seq ?_
    refine WC.seq ?_
    refine WC.region ?_
    refine WL.val (OV.move rfl) rfl ?_
    refine WL.val (OV.lss rfl rfl) rfl ?_
    refine WL.nil ?_
    refine WX.next ?_
    refine WC.cond rfl (fun c50 => ?_) (fun c50 => ?_)
    · simp only [decide_eq_true_eq, decide_eq_false_iff_not, Bool.not_eq_true', Bool.not_eq_false'] at c50
      refine WC.skip ?_
      refine WX.next ?_
      refine WC.seq ?_
      refine WC.block ?_
      refine WC.seq ?_
      refine WC.quietS (by kernel_rfl) (m := 10) rfl ?_
      refine WH.take 0 rfl (by kernel_rfl) (by kernel_rfl) (by kernel_rfl) (fun _ h => h) (OV.move rfl) rfl (listed' := [true, false, false, false, false, false, false, false, false, false]) rfl ?_
      first
      | (refine WH.take 1 rfl (by kernel_rfl) (by kernel_rfl) (by kernel_rfl) (fun _ h => h) (OV.subN (j := 15) rfl rfl (wrap_i64 (by omega)) (by omega)) rfl (listed' := [true, true, false, false, false, false, false, false, false, false]) rfl ?_)
      | (refine WH.take 1 rfl (by kernel_rfl) (by kernel_rfl) (by kernel_rfl) (fun _ h => h) (OV.subI rfl rfl (by omega)) rfl (listed' := [true, true, false, false, false, false, false, false, false, false]) rfl ?_)
      | (refine WH.take 1 rfl (by kernel_rfl) (by kernel_rfl) (by kernel_rfl) (fun _ h => h) (OV.sub rfl rfl) rfl (listed' := [true, true, false, false, false, false, false, false, false, false]) rfl ?_)
      first
      | (refine WH.take 2 rfl (by kernel_rfl) (by kernel_rfl) (by kernel_rfl) (fun _ h => h) (OV.indexArrN rfl rfl T.u72 T.z58 (by omega)) rfl (listed' := [true, true, true, false, false, false, false, false, false, false]) rfl ?_)
      | (refine WH.take 2 rfl (by kernel_rfl) (by kernel_rfl) (by kernel_rfl) (fun _ h => h) (OV.indexArrON rfl rfl T.u72 T.z58 (by omega)) rfl (listed' := [true, true, true, false, false, false, false, false, false, false]) rfl ?_)
      | (refine WH.take 2 rfl (by kernel_rfl) (by kernel_rfl) (by kernel_rfl) (fun _ h => h) (OV.indexArr1 rfl rfl T.u72 T.z58 (by omega)) rfl (listed' := [true, true, true, false, false, false, false, false, false, false]) rfl ?_)
      refine WH.take 3 rfl (by kernel_rfl) (by kernel_rfl) (by kernel_rfl) (fun _ h => h) (OV.load1 rfl T.u58 rfl (fun _ hw => cell_own hw (.head _) (schCell b t (t - 15) _ (by omega)))) rfl (listed' := [true, true, true, true, false, false, false, false, false, false]) rfl ?_
      refine WH.take 4 rfl (by kernel_rfl) (by kernel_rfl) (by kernel_rfl) (fun _ h => h) (OV.move rfl) rfl (listed' := [true, true, true, true, true, false, false, false, false, false]) rfl ?_
      first
      | (refine WH.take 5 rfl (by kernel_rfl) (by kernel_rfl) (by kernel_rfl) (fun _ h => h) (OV.subN (j := 2) rfl rfl (wrap_i64 (by omega)) (by omega)) rfl (listed' := [true, true, true, true, true, true, false, false, false, false]) rfl ?_)
      | (refine WH.take 5 rfl (by kernel_rfl) (by kernel_rfl) (by kernel_rfl) (fun _ h => h) (OV.subI rfl rfl (by omega)) rfl (listed' := [true, true, true, true, true, true, false, false, false, false]) rfl ?_)
      | (refine WH.take 5 rfl (by kernel_rfl) (by kernel_rfl) (by kernel_rfl) (fun _ h => h) (OV.sub rfl rfl) rfl (listed' := [true, true, true, true, true, true, false, false, false, false]) rfl ?_)
      first
      | (refine WH.take 6 rfl (by kernel_rfl) (by kernel_rfl) (by kernel_rfl) (fun _ h => h) (OV.indexArrN rfl rfl T.u72 T.z58 (by omega)) rfl (listed' := [true, true, true, true, true, true, true, false, false, false]) rfl ?_)
      | (refine WH.take 6 rfl (by kernel_rfl) (by kernel_rfl) (by kernel_rfl) (fun _ h => h) (OV.indexArrON rfl rfl T.u72 T.z58 (by omega)) rfl (listed' := [true, true, true, true, true, true, true, false, false, false]) rfl ?_)
      | (refine WH.take 6 rfl (by kernel_rfl) (by kernel_rfl) (by kernel_rfl) (fun _ h => h) (OV.indexArr1 rfl rfl T.u72 T.z58 (by omega)) rfl (listed' := [true, true, true, true, true, true, true, false, false, false]) rfl ?_)
      refine WH.take 7 rfl (by kernel_rfl) (by kernel_rfl) (by kernel_rfl) (fun _ h => h) (OV.load1 rfl T.u58 rfl (fun _ hw => cell_own hw (.head _) (schCell b t (t - 2) _ (by omega)))) rfl (listed' := [true, true, true, true, true, true, true, true, false, false]) rfl ?_
      refine WH.take 8 rfl (by kernel_rfl) (by kernel_rfl) (by kernel_rfl) (fun _ h => h) (OV.assign rfl) rfl (listed' := [true, true, true, true, true, true, true, true, true, false]) rfl ?_
      refine WH.take 9 rfl (by kernel_rfl) (by kernel_rfl) (by kernel_rfl) (fun _ h => h) (OV.assign rfl) rfl (listed' := [true, true, true, true, true, true, true, true, true, true]) rfl ?_
      refine WH.done (by kernel_rfl) ?_
      refine WX.next ?_
      refine WC.seq ?_
      refine WC.region ?_
      refine WL.val (OV.move rfl) rfl ?_
      refine WL.call0 (by kernel_rfl) rfl rfl (fun w' _ => right_calls _ 7 (by decide) w') ?_
      refine WL.val (OV.move rfl) rfl ?_
      refine WL.call0 (by kernel_rfl) rfl rfl (fun w' _ => right_calls _ 18 (by decide) w') ?_
      refine WL.val (OV.xorW rfl rfl) rfl ?_
      refine WL.val (OV.move rfl) rfl ?_
      first
      | (refine WL.val (OV.shrW (m := 3) rfl rfl rfl) rfl ?_)
      | (refine WL.val (OV.shrB (m := 3) rfl rfl rfl) rfl ?_)
      | (refine WL.val (OV.shr rfl rfl (by decide)) rfl ?_)
      refine WL.val (OV.xorW rfl rfl) rfl ?_
      refine WL.val (OV.assign rfl) rfl ?_
      refine WL.nil ?_
      refine WX.next ?_
      refine WC.seq ?_
      refine WC.region ?_
      refine WL.val (OV.move rfl) rfl ?_
      refine WL.call0 (by kernel_rfl) rfl rfl (fun w' _ => right_calls _ 17 (by decide) w') ?_
      refine WL.val (OV.move rfl) rfl ?_
      refine WL.call0 (by kernel_rfl) rfl rfl (fun w' _ => right_calls _ 19 (by decide) w') ?_
      refine WL.val (OV.xorW rfl rfl) rfl ?_
      refine WL.val (OV.move rfl) rfl ?_
      first
      | (refine WL.val (OV.shrW (m := 10) rfl rfl rfl) rfl ?_)
      | (refine WL.val (OV.shrB (m := 10) rfl rfl rfl) rfl ?_)
      | (refine WL.val (OV.shr rfl rfl (by decide)) rfl ?_)
      refine WL.val (OV.xorW rfl rfl) rfl ?_
      refine WL.val (OV.assign rfl) rfl ?_
      refine WL.nil ?_
      refine WX.next ?_
      refine WC.tail 15 (by kernel_rfl) (by kernel_rfl) ?_
      refine WS.val (OV.move rfl) rfl ?_
      refine WS.val (OV.move rfl) rfl ?_
      first
      | (refine WS.val (OV.subN (j := 16) rfl rfl (wrap_i64 (by omega)) (by omega)) rfl ?_)
      | (refine WS.val (OV.subI rfl rfl (by omega)) rfl ?_)
      | (refine WS.val (OV.sub rfl rfl) rfl ?_)
      first
      | (refine WS.val (OV.indexArrN rfl rfl T.u72 T.z58 (by omega)) rfl ?_)
      | (refine WS.val (OV.indexArrON rfl rfl T.u72 T.z58 (by omega)) rfl ?_)
      | (refine WS.val (OV.indexArr1 rfl rfl T.u72 T.z58 (by omega)) rfl ?_)
      refine WS.val (OV.load1 rfl T.u58 rfl (fun _ hw => cell_own hw (.head _) (schCell b t (t - 16) _ (by omega)))) rfl ?_
      refine WS.val (OV.move rfl) rfl ?_
      refine WS.val (OV.addW rfl rfl) rfl ?_
      refine WS.val (OV.move rfl) rfl ?_
      first
      | (refine WS.val (OV.subN (j := 7) rfl rfl (wrap_i64 (by omega)) (by omega)) rfl ?_)
      | (refine WS.val (OV.subI rfl rfl (by omega)) rfl ?_)
      | (refine WS.val (OV.sub rfl rfl) rfl ?_)
      first
      | (refine WS.val (OV.indexArrN rfl rfl T.u72 T.z58 (by omega)) rfl ?_)
      | (refine WS.val (OV.indexArrON rfl rfl T.u72 T.z58 (by omega)) rfl ?_)
      | (refine WS.val (OV.indexArr1 rfl rfl T.u72 T.z58 (by omega)) rfl ?_)
      refine WS.val (OV.load1 rfl T.u58 rfl (fun _ hw => cell_own hw (.head _) (schCell b t (t - 7) _ (by omega)))) rfl ?_
      refine WS.val (OV.addW rfl rfl) rfl ?_
      refine WS.val (OV.move rfl) rfl ?_
      refine WS.val (OV.addW rfl rfl) rfl ?_
      first
      | (refine WS.val (OV.indexArrN rfl rfl T.u72 T.z58 (by omega)) rfl ?_)
      | (refine WS.val (OV.indexArrON rfl rfl T.u72 T.z58 (by omega)) rfl ?_)
      | (refine WS.val (OV.indexArr1 rfl rfl T.u72 T.z58 (by omega)) rfl ?_)
      refine WS.nil ?_
      refine WL.store1 rfl rfl rfl T.z58 (by simp [w32s_length, hsl]; omega) ?_
      refine WL.nil ?_
      refine WX.block_normal ?_
      refine WX.next ?_
      refine WC.region ?_
      refine WL.val (OV.move rfl) rfl ?_
      first
      | (refine WL.val (OV.addI rfl rfl (by omega)) rfl ?_)
      | (refine WL.val (OV.add rfl rfl) rfl ?_)
      refine WL.val (OV.assign rfl) rfl ?_
      refine WL.nil ?_
      exact WX.round1 (t + 1) ⟨rfl, rfl, rfl, trivial⟩ (fun w' hw => ⟨by omega, by
        rw [w32_next hsl (by omega)] at hw
        unfold schW
        rw [if_neg (by omega)]
        exact hw⟩) (by show 64 - (t + 1) < 64 - t; omega)
    · simp only [decide_eq_true_eq, decide_eq_false_iff_not, Bool.not_eq_true', Bool.not_eq_false'] at c50
      refine WC.exit ?_
      refine WX.then_exit ?_
      refine WX.then_exit ?_
      refine WX.block_hit ?_
      refine WX.next ?_
      refine WC.seq ?_
      refine WC.region ?_
      have ht64 : t = 64 := by omega
      subst ht64
      refine WL.val (OV.loadN (cs := w32s (schW b 64)) rfl T.u72 rfl (by rw [w32s_length, hsl]; exact T.z72) (fun _ hw j v hj => by rw [add_off, Nat.zero_add]; exact own_cells hw (.head _) j v (by simpa using hj))) rfl ?_
      refine WL.focus perm1 (WL.storeAll (vs := w32s (schW b 64)) rfl rfl (List.all_eq_true.2 (w32s_one _)) (by rw [w32s_length, hsl]; exact T.z72) (by rw [w32s_length, w32s_length, hsl]; rfl) ?_)
      refine WL.nil ?_
      refine WX.next ?_
      refine WC.ret ?_
      exact WX.retC (cs := w32s (schW b 64)) rfl rfl rfl T.u72 rfl (by rw [w32s_length, hsl]; exact T.z72) (fun _ hw => own_cells hw (.head _)) (fun w hw => ⟨rfl, hw.fr⟩)

end Go.Proofs.YtplebagdajdcnaaDoor
