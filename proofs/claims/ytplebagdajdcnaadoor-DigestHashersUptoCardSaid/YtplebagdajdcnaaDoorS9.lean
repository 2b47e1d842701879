/- Contracts of functions of the program: what each returns and leaves in memory. Printed by gen.py and walk.py. -/
import Derived.Test.YtplebagdajdcnaaDoorS8
namespace Go.Proofs.YtplebagdajdcnaaDoor
open Go Go.Hw
set_option linter.unusedSimpArgs false
set_option linter.unusedVariables false
theorem chunk_get {pl : List UInt8} {i j : Nat} (hj : j < 64) : ((pl.drop i).take 64).getD j 0 = pl.getD (i + j) 0 := by
  simp only [List.getD_eq_getElem?_getD, List.getElem?_take_of_lt hj, List.getElem?_drop]
theorem schCell2 (b : List UInt8) (t j m : Nat) (v : Value) (h : j < t) : ((w32s (schW b t ++ List.replicate m 0)).set t v).toArray[j]? = some (w32 ((schW b t).getD j 0)) := by
  rw [List.getElem?_toArray, List.getElem?_set_ne (by omega), ← List.getElem?_toArray]
  exact schCell b t j m h

set_option maxRecDepth 10000 in
set_option maxHeartbeats 400000 in
theorem block_calls (H : List UInt32) (pl : List UInt8) (a : Addr) (m c p : Nat) (hH : H.length = 8) (hp : p + 64 ≤ m) (hm : m < 4611686018427387904) (w : World) (hb : RB w (some a) m pl) (hK : Tab w 2 kW) : Calls Tryd.prog 32 #[.agg (w32s H).toArray, .slice (some a) m c, .int .i64 (p : Int)] w fun e w' => e = .returned (.agg (w32s (turnL H ((pl.drop p).take 64))).toArray) ∧ Fr0 w w' := by
  refine enterS (args := [.agg (w32s H).toArray, .slice (some a) m c, .int .i64 (p : Int)]) (fun _ => False) Tryd.func32 rfl Tryd.ntmps32 rfl rfl ?_
  refine WC.seq ?_
  refine WC.region ?_
  refine WL.box rfl rfl rfl ?_
  intro b3
  refine WL.alloc T.zr59 rfl ?_
  intro b6
  refine WL.nil ?_
  refine WX.next ?_
  refine WC.seq ?_
  refine WC.region ?_
  refine WL.alloc T.zr72 rfl ?_
  intro b7
  refine WL.nil ?_
  refine WX.next ?_
  refine WC.seq ?_
  refine WC.seq ?_
  refine WC.region ?_
  refine WL.val (OV.assign rfl) rfl ?_
  refine WL.nil ?_
  refine WX.next ?_
  refine WC.block ?_
  refine WC.loop1 (fun (t : Nat) => [(1, .slice (some a) m c), (2, .int .i64 (p : Int)), (3, .pointer (some ⟨b3, 0, none⟩)), (6, .pointer (some ⟨b6, 0, none⟩)), (7, .pointer (some ⟨b7, 0, none⟩)), (8, .int .i64 t)])
      (fun t w' => t ≤ 16 ∧ Sat w (fun _ => False) (fun b => b < w.heap.size) w [own b7 (.cells (w32s (schW ((pl.drop p).take 64) t ++ List.replicate (64 - t) 0)).toArray 72 (0, 0)), own b6 (.cells (w32s (List.replicate 8 0)).toArray 59 (0, 0)), own b3 (.cells (w32s H).toArray 59 (0, 0))] w')
      (fun t => 16 - t) 0 ⟨rfl, rfl, rfl, rfl, rfl, rfl, trivial⟩ (fun w' hw => ⟨by omega, hw⟩) ?_
  intro t
  refine WC.pure (fun ht => ?_)
  have hsl := schW_length ((pl.drop p).take 64) t
  refine WC.seq ?_
  refine WC.seq ?_
  refine WC.region ?_
  refine WL.val (OV.move rfl) rfl ?_
  refine WL.val (OV.lss rfl rfl) rfl ?_
  refine WL.nil ?_
  refine WX.next ?_
  refine WC.cond rfl (fun c21 => ?_) (fun c21 => ?_)
  · simp only [decide_eq_true_eq, decide_eq_false_iff_not, Bool.not_eq_true', Bool.not_eq_false'] at c21
    refine WC.skip ?_
    refine WX.next ?_
    refine WC.seq ?_
    refine WC.block ?_
    refine WC.seq ?_
    refine WC.region ?_
    refine WL.val (OV.move rfl) rfl ?_
    refine WL.val (OV.move rfl) rfl ?_
    refine WL.val (OV.mulN (i := 4) rfl rfl (by omega)) rfl ?_
    refine WL.val (OV.addN rfl rfl (by omega)) rfl ?_
    refine WL.val (OV.assign rfl) rfl ?_
    refine WL.nil ?_
    refine WX.next ?_
    refine WC.tail 31 (by kernel_rfl) (by kernel_rfl) ?_
    refine WS.val (OV.move rfl) rfl ?_
    refine WS.val (OV.move rfl) rfl ?_
    refine WS.val (OV.move rfl) rfl ?_
    refine WS.val (OV.indexSliceA (i := p + 4 * t) rfl rfl T.u22 T.z5 (by omega)) rfl ?_
    refine WS.val (OV.load1 (v := b8 (((pl.drop p).take 64).getD (4 * t + 0) 0)) rfl T.u5 rfl (fun _ hw => by
      rw [chunk_get (by omega)]
      exact snapL hw (hb.cell (by omega)))) rfl ?_
    first
    | (refine WS.val (OV.conv8_32 T.u5 T.u58 rfl) rfl ?_)
    | (refine WS.val (OV.conv32_8 T.u5 T.u58 rfl) rfl ?_)
    | (refine WS.val (OV.convI T.u5 T.u58 rfl (by omega)) rfl ?_)
    | (refine WS.val (OV.convU64 T.u5 T.u58 rfl (by omega)) rfl ?_)
    | (refine WS.val (OV.conv T.u5 T.u58 rfl) rfl ?_)
    first
    | (refine WS.val (OV.shlW (m := 24) rfl rfl rfl) rfl ?_)
    | (refine WS.val (OV.shl rfl rfl (by decide)) rfl ?_)
    refine WS.val (OV.move rfl) rfl ?_
    refine WS.val (OV.move rfl) rfl ?_
    refine WS.val (OV.addN (j := 1) rfl rfl (by omega)) rfl ?_
    refine WS.val (OV.indexSliceA (i := p + 4 * t + 1) rfl rfl T.u22 T.z5 (by omega)) rfl ?_
    refine WS.val (OV.load1 (v := b8 (((pl.drop p).take 64).getD (4 * t + 1) 0)) rfl T.u5 rfl (fun _ hw => by
      rw [chunk_get (by omega)]
      exact snapL hw (hb.cell (by omega)))) rfl ?_
    first
    | (refine WS.val (OV.conv8_32 T.u5 T.u58 rfl) rfl ?_)
    | (refine WS.val (OV.conv32_8 T.u5 T.u58 rfl) rfl ?_)
    | (refine WS.val (OV.convI T.u5 T.u58 rfl (by omega)) rfl ?_)
    | (refine WS.val (OV.convU64 T.u5 T.u58 rfl (by omega)) rfl ?_)
    | (refine WS.val (OV.conv T.u5 T.u58 rfl) rfl ?_)
    first
    | (refine WS.val (OV.shlW (m := 16) rfl rfl rfl) rfl ?_)
    | (refine WS.val (OV.shl rfl rfl (by decide)) rfl ?_)
    refine WS.val (OV.orW rfl rfl) rfl ?_
    refine WS.val (OV.move rfl) rfl ?_
    refine WS.val (OV.move rfl) rfl ?_
    refine WS.val (OV.addN (j := 2) rfl rfl (by omega)) rfl ?_
    refine WS.val (OV.indexSliceA (i := p + 4 * t + 2) rfl rfl T.u22 T.z5 (by omega)) rfl ?_
    refine WS.val (OV.load1 (v := b8 (((pl.drop p).take 64).getD (4 * t + 2) 0)) rfl T.u5 rfl (fun _ hw => by
      rw [chunk_get (by omega)]
      exact snapL hw (hb.cell (by omega)))) rfl ?_
    first
    | (refine WS.val (OV.conv8_32 T.u5 T.u58 rfl) rfl ?_)
    | (refine WS.val (OV.conv32_8 T.u5 T.u58 rfl) rfl ?_)
    | (refine WS.val (OV.convI T.u5 T.u58 rfl (by omega)) rfl ?_)
    | (refine WS.val (OV.convU64 T.u5 T.u58 rfl (by omega)) rfl ?_)
    | (refine WS.val (OV.conv T.u5 T.u58 rfl) rfl ?_)
    first
    | (refine WS.val (OV.shlW (m := 8) rfl rfl rfl) rfl ?_)
    | (refine WS.val (OV.shl rfl rfl (by decide)) rfl ?_)
    refine WS.val (OV.orW rfl rfl) rfl ?_
    refine WS.val (OV.move rfl) rfl ?_
    refine WS.val (OV.move rfl) rfl ?_
    refine WS.val (OV.addN (j := 3) rfl rfl (by omega)) rfl ?_
    refine WS.val (OV.indexSliceA (i := p + 4 * t + 3) rfl rfl T.u22 T.z5 (by omega)) rfl ?_
    refine WS.val (OV.load1 (v := b8 (((pl.drop p).take 64).getD (4 * t + 3) 0)) rfl T.u5 rfl (fun _ hw => by
      rw [chunk_get (by omega)]
      exact snapL hw (hb.cell (by omega)))) rfl ?_
    first
    | (refine WS.val (OV.conv8_32 T.u5 T.u58 rfl) rfl ?_)
    | (refine WS.val (OV.conv32_8 T.u5 T.u58 rfl) rfl ?_)
    | (refine WS.val (OV.convI T.u5 T.u58 rfl (by omega)) rfl ?_)
    | (refine WS.val (OV.convU64 T.u5 T.u58 rfl (by omega)) rfl ?_)
    | (refine WS.val (OV.conv T.u5 T.u58 rfl) rfl ?_)
    refine WS.val (OV.orW rfl rfl) rfl ?_
    first
    | (refine WS.val (OV.indexArrN rfl rfl T.u72 T.z58 (by omega)) rfl ?_)
    | (refine WS.val (OV.indexArrON rfl rfl T.u72 T.z58 (by omega)) rfl ?_)
    | (refine WS.val (OV.indexArr1 rfl rfl T.u72 T.z58 (by omega)) rfl ?_)
    refine WS.nil ?_
    refine WL.store1 rfl rfl rfl T.z58 (by simp [w32s_length, hsl]; omega) ?_
    refine WL.nil ?_
    refine WX.block_normal ?_
    refine WX.next ?_
    refine WC.region ?_
    refine WL.val (OV.move rfl) rfl ?_
    refine WL.val (OV.addN (j := 1) rfl rfl (by omega)) rfl ?_
    refine WL.val (OV.assign rfl) rfl ?_
    refine WL.nil ?_
    exact WX.round1 (t + 1) ⟨rfl, rfl, rfl, rfl, rfl, rfl, trivial⟩ (fun w' hw => ⟨by omega, by
      rw [w32_next hsl (by omega)] at hw
      unfold schW
      rw [if_pos (by omega)]
      exact hw⟩) (by show 16 - (t + 1) < 16 - t; omega)
  · simp only [decide_eq_true_eq, decide_eq_false_iff_not, Bool.not_eq_true', Bool.not_eq_false'] at c21
    refine WC.exit ?_
    refine WX.then_exit ?_
    refine WX.then_exit ?_
    refine WX.block_hit ?_
    refine WX.next ?_
    refine WC.seq ?_
    refine WC.seq ?_
    refine WC.region ?_
    refine WL.val (OV.assign rfl) rfl ?_
    refine WL.nil ?_
    refine WX.next ?_
    refine WC.block ?_
    have ht16 : t = 16 := by omega
    subst ht16
    refine WC.loop1 (fun (t : Nat) => [(1, .slice (some a) m c), (2, .int .i64 (p : Int)), (3, .pointer (some ⟨b3, 0, none⟩)), (6, .pointer (some ⟨b6, 0, none⟩)), (7, .pointer (some ⟨b7, 0, none⟩)), (10, .int .i64 t)])
        (fun t w' => (16 ≤ t ∧ t ≤ 64) ∧ Sat w (fun _ => False) (fun b => b < w.heap.size) w [own b7 (.cells (w32s (schW ((pl.drop p).take 64) t ++ List.replicate (64 - t) 0)).toArray 72 (0, 0)), own b6 (.cells (w32s (List.replicate 8 0)).toArray 59 (0, 0)), own b3 (.cells (w32s H).toArray 59 (0, 0))] w')
        (fun t => 64 - t) 16 ⟨rfl, rfl, rfl, rfl, rfl, rfl, trivial⟩ (fun w' hw => ⟨by omega, hw⟩) ?_
    intro t
    refine WC.pure (fun ht => ?_)
    have hsl := schW_length ((pl.drop p).take 64) t
    refine WC.seq ?_
    refine WC.seq ?_
    refine WC.region ?_
    refine WL.val (OV.move rfl) rfl ?_
    refine WL.val (OV.lss rfl rfl) rfl ?_
    refine WL.nil ?_
    refine WX.next ?_
    refine WC.cond rfl (fun c60 => ?_) (fun c60 => ?_)
    · simp only [decide_eq_true_eq, decide_eq_false_iff_not, Bool.not_eq_true', Bool.not_eq_false'] at c60
      refine WC.skip ?_
      refine WX.next ?_
      refine WC.seq ?_
      refine WC.block ?_
      refine WC.seq ?_
      refine WC.region ?_
      refine WL.val (OV.move rfl) rfl ?_
      first
      | (refine WL.val (OV.subN (j := 15) rfl rfl (wrap_i64 (by omega)) (by omega)) rfl ?_)
      | (refine WL.val (OV.subI rfl rfl (by omega)) rfl ?_)
      | (refine WL.val (OV.sub rfl rfl) rfl ?_)
      first
      | (refine WL.val (OV.indexArrN rfl rfl T.u72 T.z58 (by omega)) rfl ?_)
      | (refine WL.val (OV.indexArrON rfl rfl T.u72 T.z58 (by omega)) rfl ?_)
      | (refine WL.val (OV.indexArr1 rfl rfl T.u72 T.z58 (by omega)) rfl ?_)
      refine WL.val (OV.load1 rfl T.u58 rfl (fun _ hw => cell_own hw (.head _) (schCell ((pl.drop p).take 64) t (t - 15) _ (by omega)))) rfl ?_
      refine WL.val (OV.assign rfl) rfl ?_
      refine WL.nil ?_
      refine WX.next ?_
      refine WC.seq ?_
      refine WC.region ?_
      refine WL.val (OV.move rfl) rfl ?_
      first
      | (refine WL.val (OV.subN (j := 2) rfl rfl (wrap_i64 (by omega)) (by omega)) rfl ?_)
      | (refine WL.val (OV.subI rfl rfl (by omega)) rfl ?_)
      | (refine WL.val (OV.sub rfl rfl) rfl ?_)
      first
      | (refine WL.val (OV.indexArrN rfl rfl T.u72 T.z58 (by omega)) rfl ?_)
      | (refine WL.val (OV.indexArrON rfl rfl T.u72 T.z58 (by omega)) rfl ?_)
      | (refine WL.val (OV.indexArr1 rfl rfl T.u72 T.z58 (by omega)) rfl ?_)
      refine WL.val (OV.load1 rfl T.u58 rfl (fun _ hw => cell_own hw (.head _) (schCell ((pl.drop p).take 64) t (t - 2) _ (by omega)))) rfl ?_
      refine WL.val (OV.assign rfl) rfl ?_
      refine WL.nil ?_
      refine WX.next ?_
      refine WC.drawnS (fun w' => ∀ j, j < t → w'.cell? ⟨b7, j, none⟩ = some (w32 ((schW ((pl.drop p).take 64) t).getD j 0))) (by kernel_rfl) (m := 30) rfl ?_
      refine WH.take 0 rfl (by kernel_rfl) (by kernel_rfl) (by kernel_rfl) (fun _ hw j hj => by first | exact cell_own hw (.head _) (schCell ((pl.drop p).take 64) t j _ hj) | exact cell_own hw (.head _) (schCell2 ((pl.drop p).take 64) t j _ _ hj)) (OV.move rfl) rfl (listed' := [true, false, false, false, false, false, false, false, false, false, false, false, false, false, false, false, false, false, false, false, false, false, false, false, false, false, false, false, false, false]) rfl ?_
      refine WH.take 1 rfl (by kernel_rfl) (by kernel_rfl) (by kernel_rfl) (fun _ hw j hj => by first | exact cell_own hw (.head _) (schCell ((pl.drop p).take 64) t j _ hj) | exact cell_own hw (.head _) (schCell2 ((pl.drop p).take 64) t j _ _ hj)) (OV.move rfl) rfl (listed' := [true, true, false, false, false, false, false, false, false, false, false, false, false, false, false, false, false, false, false, false, false, false, false, false, false, false, false, false, false, false]) rfl ?_
      first
      | (refine WH.take 2 rfl (by kernel_rfl) (by kernel_rfl) (by kernel_rfl) (fun _ hw j hj => by first | exact cell_own hw (.head _) (schCell ((pl.drop p).take 64) t j _ hj) | exact cell_own hw (.head _) (schCell2 ((pl.drop p).take 64) t j _ _ hj)) (OV.subN (j := 16) rfl rfl (wrap_i64 (by omega)) (by omega)) rfl (listed' := [true, true, true, false, false, false, false, false, false, false, false, false, false, false, false, false, false, false, false, false, false, false, false, false, false, false, false, false, false, false]) rfl ?_)
      | (refine WH.take 2 rfl (by kernel_rfl) (by kernel_rfl) (by kernel_rfl) (fun _ hw j hj => by first | exact cell_own hw (.head _) (schCell ((pl.drop p).take 64) t j _ hj) | exact cell_own hw (.head _) (schCell2 ((pl.drop p).take 64) t j _ _ hj)) (OV.subI rfl rfl (by omega)) rfl (listed' := [true, true, true, false, false, false, false, false, false, false, false, false, false, false, false, false, false, false, false, false, false, false, false, false, false, false, false, false, false, false]) rfl ?_)
      | (refine WH.take 2 rfl (by kernel_rfl) (by kernel_rfl) (by kernel_rfl) (fun _ hw j hj => by first | exact cell_own hw (.head _) (schCell ((pl.drop p).take 64) t j _ hj) | exact cell_own hw (.head _) (schCell2 ((pl.drop p).take 64) t j _ _ hj)) (OV.sub rfl rfl) rfl (listed' := [true, true, true, false, false, false, false, false, false, false, false, false, false, false, false, false, false, false, false, false, false, false, false, false, false, false, false, false, false, false]) rfl ?_)
      first
      | (refine WH.take 3 rfl (by kernel_rfl) (by kernel_rfl) (by kernel_rfl) (fun _ hw j hj => by first | exact cell_own hw (.head _) (schCell ((pl.drop p).take 64) t j _ hj) | exact cell_own hw (.head _) (schCell2 ((pl.drop p).take 64) t j _ _ hj)) (OV.indexArrN rfl rfl T.u72 T.z58 (by omega)) rfl (listed' := [true, true, true, true, false, false, false, false, false, false, false, false, false, false, false, false, false, false, false, false, false, false, false, false, false, false, false, false, false, false]) rfl ?_)
      | (refine WH.take 3 rfl (by kernel_rfl) (by kernel_rfl) (by kernel_rfl) (fun _ hw j hj => by first | exact cell_own hw (.head _) (schCell ((pl.drop p).take 64) t j _ hj) | exact cell_own hw (.head _) (schCell2 ((pl.drop p).take 64) t j _ _ hj)) (OV.indexArrON rfl rfl T.u72 T.z58 (by omega)) rfl (listed' := [true, true, true, true, false, false, false, false, false, false, false, false, false, false, false, false, false, false, false, false, false, false, false, false, false, false, false, false, false, false]) rfl ?_)
      | (refine WH.take 3 rfl (by kernel_rfl) (by kernel_rfl) (by kernel_rfl) (fun _ hw j hj => by first | exact cell_own hw (.head _) (schCell ((pl.drop p).take 64) t j _ hj) | exact cell_own hw (.head _) (schCell2 ((pl.drop p).take 64) t j _ _ hj)) (OV.indexArr1 rfl rfl T.u72 T.z58 (by omega)) rfl (listed' := [true, true, true, true, false, false, false, false, false, false, false, false, false, false, false, false, false, false, false, false, false, false, false, false, false, false, false, false, false, false]) rfl ?_)
      refine WH.take 4 rfl (by kernel_rfl) (by kernel_rfl) (by kernel_rfl) (fun _ hw j hj => by first | exact cell_own hw (.head _) (schCell ((pl.drop p).take 64) t j _ hj) | exact cell_own hw (.head _) (schCell2 ((pl.drop p).take 64) t j _ _ hj)) (OV.load1 rfl T.u58 rfl (fun _ hw => hw (t - 16) (by omega))) rfl (listed' := [true, true, true, true, true, false, false, false, false, false, false, false, false, false, false, false, false, false, false, false, false, false, false, false, false, false, false, false, false, false]) rfl ?_
      refine WH.take 5 rfl (by kernel_rfl) (by kernel_rfl) (by kernel_rfl) (fun _ hw j hj => by first | exact cell_own hw (.head _) (schCell ((pl.drop p).take 64) t j _ hj) | exact cell_own hw (.head _) (schCell2 ((pl.drop p).take 64) t j _ _ hj)) (OV.move rfl) rfl (listed' := [true, true, true, true, true, true, false, false, false, false, false, false, false, false, false, false, false, false, false, false, false, false, false, false, false, false, false, false, false, false]) rfl ?_
      refine WH.take 7 rfl (by kernel_rfl) (by kernel_rfl) (by kernel_rfl) (fun _ hw j hj => by first | exact cell_own hw (.head _) (schCell ((pl.drop p).take 64) t j _ hj) | exact cell_own hw (.head _) (schCell2 ((pl.drop p).take 64) t j _ _ hj)) (OV.move rfl) rfl (listed' := [true, true, true, true, true, true, false, true, false, false, false, false, false, false, false, false, false, false, false, false, false, false, false, false, false, false, false, false, false, false]) rfl ?_
      refine WH.take 10 rfl (by kernel_rfl) (by kernel_rfl) (by kernel_rfl) (fun _ hw j hj => by first | exact cell_own hw (.head _) (schCell ((pl.drop p).take 64) t j _ hj) | exact cell_own hw (.head _) (schCell2 ((pl.drop p).take 64) t j _ _ hj)) (OV.move rfl) rfl (listed' := [true, true, true, true, true, true, false, true, false, false, true, false, false, false, false, false, false, false, false, false, false, false, false, false, false, false, false, false, false, false]) rfl ?_
      first
      | (refine WH.take 11 rfl (by kernel_rfl) (by kernel_rfl) (by kernel_rfl) (fun _ hw j hj => by first | exact cell_own hw (.head _) (schCell ((pl.drop p).take 64) t j _ hj) | exact cell_own hw (.head _) (schCell2 ((pl.drop p).take 64) t j _ _ hj)) (OV.shrW (m := 3) rfl rfl rfl) rfl (listed' := [true, true, true, true, true, true, false, true, false, false, true, true, false, false, false, false, false, false, false, false, false, false, false, false, false, false, false, false, false, false]) rfl ?_)
      | (refine WH.take 11 rfl (by kernel_rfl) (by kernel_rfl) (by kernel_rfl) (fun _ hw j hj => by first | exact cell_own hw (.head _) (schCell ((pl.drop p).take 64) t j _ hj) | exact cell_own hw (.head _) (schCell2 ((pl.drop p).take 64) t j _ _ hj)) (OV.shrB (m := 3) rfl rfl rfl) rfl (listed' := [true, true, true, true, true, true, false, true, false, false, true, true, false, false, false, false, false, false, false, false, false, false, false, false, false, false, false, false, false, false]) rfl ?_)
      | (refine WH.take 11 rfl (by kernel_rfl) (by kernel_rfl) (by kernel_rfl) (fun _ hw j hj => by first | exact cell_own hw (.head _) (schCell ((pl.drop p).take 64) t j _ hj) | exact cell_own hw (.head _) (schCell2 ((pl.drop p).take 64) t j _ _ hj)) (OV.shr rfl rfl (by decide)) rfl (listed' := [true, true, true, true, true, true, false, true, false, false, true, true, false, false, false, false, false, false, false, false, false, false, false, false, false, false, false, false, false, false]) rfl ?_)
      refine WH.take 14 rfl (by kernel_rfl) (by kernel_rfl) (by kernel_rfl) (fun _ hw j hj => by first | exact cell_own hw (.head _) (schCell ((pl.drop p).take 64) t j _ hj) | exact cell_own hw (.head _) (schCell2 ((pl.drop p).take 64) t j _ _ hj)) (OV.move rfl) rfl (listed' := [true, true, true, true, true, true, false, true, false, false, true, true, false, false, true, false, false, false, false, false, false, false, false, false, false, false, false, false, false, false]) rfl ?_
      first
      | (refine WH.take 15 rfl (by kernel_rfl) (by kernel_rfl) (by kernel_rfl) (fun _ hw j hj => by first | exact cell_own hw (.head _) (schCell ((pl.drop p).take 64) t j _ hj) | exact cell_own hw (.head _) (schCell2 ((pl.drop p).take 64) t j _ _ hj)) (OV.subN (j := 7) rfl rfl (wrap_i64 (by omega)) (by omega)) rfl (listed' := [true, true, true, true, true, true, false, true, false, false, true, true, false, false, true, true, false, false, false, false, false, false, false, false, false, false, false, false, false, false]) rfl ?_)
      | (refine WH.take 15 rfl (by kernel_rfl) (by kernel_rfl) (by kernel_rfl) (fun _ hw j hj => by first | exact cell_own hw (.head _) (schCell ((pl.drop p).take 64) t j _ hj) | exact cell_own hw (.head _) (schCell2 ((pl.drop p).take 64) t j _ _ hj)) (OV.subI rfl rfl (by omega)) rfl (listed' := [true, true, true, true, true, true, false, true, false, false, true, true, false, false, true, true, false, false, false, false, false, false, false, false, false, false, false, false, false, false]) rfl ?_)
      | (refine WH.take 15 rfl (by kernel_rfl) (by kernel_rfl) (by kernel_rfl) (fun _ hw j hj => by first | exact cell_own hw (.head _) (schCell ((pl.drop p).take 64) t j _ hj) | exact cell_own hw (.head _) (schCell2 ((pl.drop p).take 64) t j _ _ hj)) (OV.sub rfl rfl) rfl (listed' := [true, true, true, true, true, true, false, true, false, false, true, true, false, false, true, true, false, false, false, false, false, false, false, false, false, false, false, false, false, false]) rfl ?_)
      first
      | (refine WH.take 16 rfl (by kernel_rfl) (by kernel_rfl) (by kernel_rfl) (fun _ hw j hj => by first | exact cell_own hw (.head _) (schCell ((pl.drop p).take 64) t j _ hj) | exact cell_own hw (.head _) (schCell2 ((pl.drop p).take 64) t j _ _ hj)) (OV.indexArrN rfl rfl T.u72 T.z58 (by omega)) rfl (listed' := [true, true, true, true, true, true, false, true, false, false, true, true, false, false, true, true, true, false, false, false, false, false, false, false, false, false, false, false, false, false]) rfl ?_)
      | (refine WH.take 16 rfl (by kernel_rfl) (by kernel_rfl) (by kernel_rfl) (fun _ hw j hj => by first | exact cell_own hw (.head _) (schCell ((pl.drop p).take 64) t j _ hj) | exact cell_own hw (.head _) (schCell2 ((pl.drop p).take 64) t j _ _ hj)) (OV.indexArrON rfl rfl T.u72 T.z58 (by omega)) rfl (listed' := [true, true, true, true, true, true, false, true, false, false, true, true, false, false, true, true, true, false, false, false, false, false, false, false, false, false, false, false, false, false]) rfl ?_)
      | (refine WH.take 16 rfl (by kernel_rfl) (by kernel_rfl) (by kernel_rfl) (fun _ hw j hj => by first | exact cell_own hw (.head _) (schCell ((pl.drop p).take 64) t j _ hj) | exact cell_own hw (.head _) (schCell2 ((pl.drop p).take 64) t j _ _ hj)) (OV.indexArr1 rfl rfl T.u72 T.z58 (by omega)) rfl (listed' := [true, true, true, true, true, true, false, true, false, false, true, true, false, false, true, true, true, false, false, false, false, false, false, false, false, false, false, false, false, false]) rfl ?_)
      refine WH.take 17 rfl (by kernel_rfl) (by kernel_rfl) (by kernel_rfl) (fun _ hw j hj => by first | exact cell_own hw (.head _) (schCell ((pl.drop p).take 64) t j _ hj) | exact cell_own hw (.head _) (schCell2 ((pl.drop p).take 64) t j _ _ hj)) (OV.load1 rfl T.u58 rfl (fun _ hw => hw (t - 7) (by omega))) rfl (listed' := [true, true, true, true, true, true, false, true, false, false, true, true, false, false, true, true, true, true, false, false, false, false, false, false, false, false, false, false, false, false]) rfl ?_
      refine WH.take 19 rfl (by kernel_rfl) (by kernel_rfl) (by kernel_rfl) (fun _ hw j hj => by first | exact cell_own hw (.head _) (schCell ((pl.drop p).take 64) t j _ hj) | exact cell_own hw (.head _) (schCell2 ((pl.drop p).take 64) t j _ _ hj)) (OV.move rfl) rfl (listed' := [true, true, true, true, true, true, false, true, false, false, true, true, false, false, true, true, true, true, false, true, false, false, false, false, false, false, false, false, false, false]) rfl ?_
      refine WH.take 21 rfl (by kernel_rfl) (by kernel_rfl) (by kernel_rfl) (fun _ hw j hj => by first | exact cell_own hw (.head _) (schCell ((pl.drop p).take 64) t j _ hj) | exact cell_own hw (.head _) (schCell2 ((pl.drop p).take 64) t j _ _ hj)) (OV.move rfl) rfl (listed' := [true, true, true, true, true, true, false, true, false, false, true, true, false, false, true, true, true, true, false, true, false, true, false, false, false, false, false, false, false, false]) rfl ?_
      refine WH.take 24 rfl (by kernel_rfl) (by kernel_rfl) (by kernel_rfl) (fun _ hw j hj => by first | exact cell_own hw (.head _) (schCell ((pl.drop p).take 64) t j _ hj) | exact cell_own hw (.head _) (schCell2 ((pl.drop p).take 64) t j _ _ hj)) (OV.move rfl) rfl (listed' := [true, true, true, true, true, true, false, true, false, false, true, true, false, false, true, true, true, true, false, true, false, true, false, false, true, false, false, false, false, false]) rfl ?_
      first
      | (refine WH.take 25 rfl (by kernel_rfl) (by kernel_rfl) (by kernel_rfl) (fun _ hw j hj => by first | exact cell_own hw (.head _) (schCell ((pl.drop p).take 64) t j _ hj) | exact cell_own hw (.head _) (schCell2 ((pl.drop p).take 64) t j _ _ hj)) (OV.shrW (m := 10) rfl rfl rfl) rfl (listed' := [true, true, true, true, true, true, false, true, false, false, true, true, false, false, true, true, true, true, false, true, false, true, false, false, true, true, false, false, false, false]) rfl ?_)
      | (refine WH.take 25 rfl (by kernel_rfl) (by kernel_rfl) (by kernel_rfl) (fun _ hw j hj => by first | exact cell_own hw (.head _) (schCell ((pl.drop p).take 64) t j _ hj) | exact cell_own hw (.head _) (schCell2 ((pl.drop p).take 64) t j _ _ hj)) (OV.shrB (m := 10) rfl rfl rfl) rfl (listed' := [true, true, true, true, true, true, false, true, false, false, true, true, false, false, true, true, true, true, false, true, false, true, false, false, true, true, false, false, false, false]) rfl ?_)
      | (refine WH.take 25 rfl (by kernel_rfl) (by kernel_rfl) (by kernel_rfl) (fun _ hw j hj => by first | exact cell_own hw (.head _) (schCell ((pl.drop p).take 64) t j _ hj) | exact cell_own hw (.head _) (schCell2 ((pl.drop p).take 64) t j _ _ hj)) (OV.shr rfl rfl (by decide)) rfl (listed' := [true, true, true, true, true, true, false, true, false, false, true, true, false, false, true, true, true, true, false, true, false, true, false, false, true, true, false, false, false, false]) rfl ?_)
      refine WH.only 6 rfl (by kernel_rfl) (listed' := [true, true, true, true, true, true, true, true, false, false, true, true, false, false, true, true, true, true, false, true, false, true, false, false, true, true, false, false, false, false]) rfl ?_
      refine WL.call0 (by kernel_rfl) rfl rfl (fun w' _ => rot_calls _ 7 (by decide) w') ?_
      refine WL.nil ?_
      refine WX.cont (fun _ hw j hj => by first | exact cell_own hw (.head _) (schCell ((pl.drop p).take 64) t j _ hj) | exact cell_own hw (.head _) (schCell2 ((pl.drop p).take 64) t j _ _ hj)) ?_
      refine WH.only 8 rfl (by kernel_rfl) (listed' := [true, true, true, true, true, true, true, true, true, false, true, true, false, false, true, true, true, true, false, true, false, true, false, false, true, true, false, false, false, false]) rfl ?_
      refine WL.call0 (by kernel_rfl) rfl rfl (fun w' _ => rot_calls _ 18 (by decide) w') ?_
      refine WL.nil ?_
      refine WX.cont (fun _ hw j hj => by first | exact cell_own hw (.head _) (schCell ((pl.drop p).take 64) t j _ hj) | exact cell_own hw (.head _) (schCell2 ((pl.drop p).take 64) t j _ _ hj)) ?_
      refine WH.take 9 rfl (by kernel_rfl) (by kernel_rfl) (by kernel_rfl) (fun _ hw j hj => by first | exact cell_own hw (.head _) (schCell ((pl.drop p).take 64) t j _ hj) | exact cell_own hw (.head _) (schCell2 ((pl.drop p).take 64) t j _ _ hj)) (OV.xorW rfl rfl) rfl (listed' := [true, true, true, true, true, true, true, true, true, true, true, true, false, false, true, true, true, true, false, true, false, true, false, false, true, true, false, false, false, false]) rfl ?_
      refine WH.take 12 rfl (by kernel_rfl) (by kernel_rfl) (by kernel_rfl) (fun _ hw j hj => by first | exact cell_own hw (.head _) (schCell ((pl.drop p).take 64) t j _ hj) | exact cell_own hw (.head _) (schCell2 ((pl.drop p).take 64) t j _ _ hj)) (OV.xorW rfl rfl) rfl (listed' := [true, true, true, true, true, true, true, true, true, true, true, true, true, false, true, true, true, true, false, true, false, true, false, false, true, true, false, false, false, false]) rfl ?_
      refine WH.take 13 rfl (by kernel_rfl) (by kernel_rfl) (by kernel_rfl) (fun _ hw j hj => by first | exact cell_own hw (.head _) (schCell ((pl.drop p).take 64) t j _ hj) | exact cell_own hw (.head _) (schCell2 ((pl.drop p).take 64) t j _ _ hj)) (OV.addW rfl rfl) rfl (listed' := [true, true, true, true, true, true, true, true, true, true, true, true, true, true, true, true, true, true, false, true, false, true, false, false, true, true, false, false, false, false]) rfl ?_
      refine WH.take 18 rfl (by kernel_rfl) (by kernel_rfl) (by kernel_rfl) (fun _ hw j hj => by first | exact cell_own hw (.head _) (schCell ((pl.drop p).take 64) t j _ hj) | exact cell_own hw (.head _) (schCell2 ((pl.drop p).take 64) t j _ _ hj)) (OV.addW rfl rfl) rfl (listed' := [true, true, true, true, true, true, true, true, true, true, true, true, true, true, true, true, true, true, true, true, false, true, false, false, true, true, false, false, false, false]) rfl ?_
      refine WH.only 20 rfl (by kernel_rfl) (listed' := [true, true, true, true, true, true, true, true, true, true, true, true, true, true, true, true, true, true, true, true, true, true, false, false, true, true, false, false, false, false]) rfl ?_
      refine WL.call0 (by kernel_rfl) rfl rfl (fun w' _ => rot_calls _ 17 (by decide) w') ?_
      refine WL.nil ?_
      refine WX.cont (fun _ hw j hj => by first | exact cell_own hw (.head _) (schCell ((pl.drop p).take 64) t j _ hj) | exact cell_own hw (.head _) (schCell2 ((pl.drop p).take 64) t j _ _ hj)) ?_
      refine WH.only 22 rfl (by kernel_rfl) (listed' := [true, true, true, true, true, true, true, true, true, true, true, true, true, true, true, true, true, true, true, true, true, true, true, false, true, true, false, false, false, false]) rfl ?_
      refine WL.call0 (by kernel_rfl) rfl rfl (fun w' _ => rot_calls _ 19 (by decide) w') ?_
      refine WL.nil ?_
      refine WX.cont (fun _ hw j hj => by first | exact cell_own hw (.head _) (schCell ((pl.drop p).take 64) t j _ hj) | exact cell_own hw (.head _) (schCell2 ((pl.drop p).take 64) t j _ _ hj)) ?_
      refine WH.take 23 rfl (by kernel_rfl) (by kernel_rfl) (by kernel_rfl) (fun _ hw j hj => by first | exact cell_own hw (.head _) (schCell ((pl.drop p).take 64) t j _ hj) | exact cell_own hw (.head _) (schCell2 ((pl.drop p).take 64) t j _ _ hj)) (OV.xorW rfl rfl) rfl (listed' := [true, true, true, true, true, true, true, true, true, true, true, true, true, true, true, true, true, true, true, true, true, true, true, true, true, true, false, false, false, false]) rfl ?_
      refine WH.take 26 rfl (by kernel_rfl) (by kernel_rfl) (by kernel_rfl) (fun _ hw j hj => by first | exact cell_own hw (.head _) (schCell ((pl.drop p).take 64) t j _ hj) | exact cell_own hw (.head _) (schCell2 ((pl.drop p).take 64) t j _ _ hj)) (OV.xorW rfl rfl) rfl (listed' := [true, true, true, true, true, true, true, true, true, true, true, true, true, true, true, true, true, true, true, true, true, true, true, true, true, true, true, false, false, false]) rfl ?_
      refine WH.take 27 rfl (by kernel_rfl) (by kernel_rfl) (by kernel_rfl) (fun _ hw j hj => by first | exact cell_own hw (.head _) (schCell ((pl.drop p).take 64) t j _ hj) | exact cell_own hw (.head _) (schCell2 ((pl.drop p).take 64) t j _ _ hj)) (OV.addW rfl rfl) rfl (listed' := [true, true, true, true, true, true, true, true, true, true, true, true, true, true, true, true, true, true, true, true, true, true, true, true, true, true, true, true, false, false]) rfl ?_
      first
      | (refine WH.take 28 rfl (by kernel_rfl) (by kernel_rfl) (by kernel_rfl) (fun _ hw j hj => by first | exact cell_own hw (.head _) (schCell ((pl.drop p).take 64) t j _ hj) | exact cell_own hw (.head _) (schCell2 ((pl.drop p).take 64) t j _ _ hj)) (OV.indexArrN rfl rfl T.u72 T.z58 (by omega)) rfl (listed' := [true, true, true, true, true, true, true, true, true, true, true, true, true, true, true, true, true, true, true, true, true, true, true, true, true, true, true, true, true, false]) rfl ?_)
      | (refine WH.take 28 rfl (by kernel_rfl) (by kernel_rfl) (by kernel_rfl) (fun _ hw j hj => by first | exact cell_own hw (.head _) (schCell ((pl.drop p).take 64) t j _ hj) | exact cell_own hw (.head _) (schCell2 ((pl.drop p).take 64) t j _ _ hj)) (OV.indexArrON rfl rfl T.u72 T.z58 (by omega)) rfl (listed' := [true, true, true, true, true, true, true, true, true, true, true, true, true, true, true, true, true, true, true, true, true, true, true, true, true, true, true, true, true, false]) rfl ?_)
      | (refine WH.take 28 rfl (by kernel_rfl) (by kernel_rfl) (by kernel_rfl) (fun _ hw j hj => by first | exact cell_own hw (.head _) (schCell ((pl.drop p).take 64) t j _ hj) | exact cell_own hw (.head _) (schCell2 ((pl.drop p).take 64) t j _ _ hj)) (OV.indexArr1 rfl rfl T.u72 T.z58 (by omega)) rfl (listed' := [true, true, true, true, true, true, true, true, true, true, true, true, true, true, true, true, true, true, true, true, true, true, true, true, true, true, true, true, true, false]) rfl ?_)
      refine WH.only 29 rfl (by kernel_rfl) (listed' := [true, true, true, true, true, true, true, true, true, true, true, true, true, true, true, true, true, true, true, true, true, true, true, true, true, true, true, true, true, true]) rfl ?_
      refine WL.store1 rfl rfl rfl T.z58 (by simp [w32s_length, hsl]; omega) ?_
      refine WL.nil ?_
      refine WX.cont (fun _ hw j hj => by first | exact cell_own hw (.head _) (schCell ((pl.drop p).take 64) t j _ hj) | exact cell_own hw (.head _) (schCell2 ((pl.drop p).take 64) t j _ _ hj)) ?_
      refine WH.done (by kernel_rfl) ?_
      refine WX.block_normal ?_
      refine WX.next ?_
      refine WC.region ?_
      refine WL.val (OV.move rfl) rfl ?_
      refine WL.val (OV.addN (j := 1) rfl rfl (by omega)) rfl ?_
      refine WL.val (OV.assign rfl) rfl ?_
      refine WL.nil ?_
      exact WX.round1 (t + 1) ⟨rfl, rfl, rfl, rfl, rfl, rfl, trivial⟩ (fun w' hw => ⟨by omega, by
        rw [w32_next hsl (by omega)] at hw
        unfold schW
        rw [if_neg (by omega)]
        exact hw⟩) (by show 64 - (t + 1) < 64 - t; omega)
    · simp only [decide_eq_true_eq, decide_eq_false_iff_not, Bool.not_eq_true', Bool.not_eq_false'] at c60
      refine WC.exit ?_
      refine WX.then_exit ?_
      refine WX.then_exit ?_
      refine WX.block_hit ?_
      refine WX.next ?_
      refine WC.seq ?_
      refine WC.region ?_
      have ht64 : t = 64 := by omega
      subst ht64
      refine WL.val (OV.loadN (cs := w32s H) rfl T.u59 rfl (by rw [w32s_length]; exact hH ▸ T.z59) (fun _ hw j v hj => by rw [add_off, Nat.zero_add]; exact own_cells hw (.tail _ (.tail _ (.head _))) j v hj)) rfl ?_
      refine WL.alloc T.zr59 rfl ?_
      intro b13
      refine WL.storeAll (vs := w32s H) rfl rfl (List.all_eq_true.2 (w32s_one _)) (by rw [w32s_length]; exact hH ▸ T.z59) (by rw [w32s_length, w32s_length, hH]; rfl) ?_
      refine WL.nil ?_
      refine WX.next ?_
      refine WC.seq ?_
      refine WC.seq ?_
      refine WC.region ?_
      refine WL.val (OV.assign rfl) rfl ?_
      refine WL.nil ?_
      refine WX.next ?_
      refine WC.block ?_
      refine WC.loop1 (fun (t : Nat) => [(1, .slice (some a) m c), (2, .int .i64 (p : Int)), (3, .pointer (some ⟨b3, 0, none⟩)), (6, .pointer (some ⟨b6, 0, none⟩)), (7, .pointer (some ⟨b7, 0, none⟩)), (13, .pointer (some ⟨b13, 0, none⟩)), (14, .int .i64 t)])
          (fun t w' => t ≤ 64 ∧ Sat w (fun _ => False) (fun b => b < w.heap.size) w [own b13 (.cells (w32s (cmpS (S8.ofL H) (schW ((pl.drop p).take 64) 64) t).toL).toArray 59 (0, 0)), own b7 (.cells (w32s (schW ((pl.drop p).take 64) 64 ++ List.replicate (64 - 64) 0)).toArray 72 (0, 0)), own b6 (.cells (w32s (List.replicate 8 0)).toArray 59 (0, 0)), own b3 (.cells (w32s H).toArray 59 (0, 0))] w')
          (fun t => 64 - t) 0 ⟨rfl, rfl, rfl, rfl, rfl, rfl, rfl, trivial⟩ (fun w' hw => ⟨by omega, by rw [show (cmpS (S8.ofL H) (schW ((pl.drop p).take 64) 64) 0).toL = H from ofL_toL hH]; exact hw⟩) ?_
      intro t
      refine WC.pure (fun ht => ?_)
      obtain ⟨S, hS⟩ : ∃ S, S = (cmpS (S8.ofL H) (schW ((pl.drop p).take 64) 64) t) := ⟨_, rfl⟩
      rw [← hS]
      refine WC.seq ?_
      refine WC.seq ?_
      refine WC.region ?_
      refine WL.val (OV.move rfl) rfl ?_
      refine WL.val (OV.lss rfl rfl) rfl ?_
      refine WL.nil ?_
      refine WX.next ?_
      refine WC.cond rfl (fun c102 => ?_) (fun c102 => ?_)
      · simp only [decide_eq_true_eq, decide_eq_false_iff_not, Bool.not_eq_true', Bool.not_eq_false'] at c102
        refine WC.skip ?_
        refine WX.next ?_
        refine WC.seq ?_
        refine WC.block ?_
        refine WC.seq ?_
        refine WC.region ?_
        first
        | (refine WL.val (OV.indexArrN (i := 0) rfl rfl T.u59 T.z58 (by omega)) rfl ?_)
        | (refine WL.val (OV.indexArrON (i := 0) rfl rfl T.u59 T.z58 (by omega)) rfl ?_)
        | (refine WL.val (OV.indexArr1 rfl rfl T.u59 T.z58 (by omega)) rfl ?_)
        refine WL.val (OV.load1 (v := w32 S.a) rfl T.u58 rfl (fun _ hw => cell_own hw (.head _) (w32s_arr (i := 0) S.toL (show _ < 8 from by decide)))) rfl ?_
        refine WL.val (OV.assign rfl) rfl ?_
        refine WL.nil ?_
        refine WX.next ?_
        refine WC.seq ?_
        refine WC.region ?_
        first
        | (refine WL.val (OV.indexArrN (i := 4) rfl rfl T.u59 T.z58 (by omega)) rfl ?_)
        | (refine WL.val (OV.indexArrON (i := 4) rfl rfl T.u59 T.z58 (by omega)) rfl ?_)
        | (refine WL.val (OV.indexArr1 rfl rfl T.u59 T.z58 (by omega)) rfl ?_)
        refine WL.val (OV.load1 (v := w32 S.e) rfl T.u58 rfl (fun _ hw => cell_own hw (.head _) (w32s_arr (i := 4) S.toL (show _ < 8 from by decide)))) rfl ?_
        refine WL.val (OV.assign rfl) rfl ?_
        refine WL.nil ?_
        refine WX.next ?_
        refine WC.seq ?_
        refine WC.quietS (by kernel_rfl) (m := 31) rfl ?_
        first
        | (refine WH.take 0 rfl (by kernel_rfl) (by kernel_rfl) (by kernel_rfl) (fun _ h => h) (OV.indexArrN (i := 7) rfl rfl T.u59 T.z58 (by omega)) rfl (listed' := [true, false, false, false, false, false, false, false, false, false, false, false, false, false, false, false, false, false, false, false, false, false, false, false, false, false, false, false, false, false, false]) rfl ?_)
        | (refine WH.take 0 rfl (by kernel_rfl) (by kernel_rfl) (by kernel_rfl) (fun _ h => h) (OV.indexArrON (i := 7) rfl rfl T.u59 T.z58 (by omega)) rfl (listed' := [true, false, false, false, false, false, false, false, false, false, false, false, false, false, false, false, false, false, false, false, false, false, false, false, false, false, false, false, false, false, false]) rfl ?_)
        | (refine WH.take 0 rfl (by kernel_rfl) (by kernel_rfl) (by kernel_rfl) (fun _ h => h) (OV.indexArr1 rfl rfl T.u59 T.z58 (by omega)) rfl (listed' := [true, false, false, false, false, false, false, false, false, false, false, false, false, false, false, false, false, false, false, false, false, false, false, false, false, false, false, false, false, false, false]) rfl ?_)
        refine WH.take 1 rfl (by kernel_rfl) (by kernel_rfl) (by kernel_rfl) (fun _ h => h) (OV.load1 (v := w32 S.h) rfl T.u58 rfl (fun _ hw => cell_own hw (.head _) (w32s_arr (i := 7) S.toL (show _ < 8 from by decide)))) rfl (listed' := [true, true, false, false, false, false, false, false, false, false, false, false, false, false, false, false, false, false, false, false, false, false, false, false, false, false, false, false, false, false, false]) rfl ?_
        refine WH.take 2 rfl (by kernel_rfl) (by kernel_rfl) (by kernel_rfl) (fun _ h => h) (OV.move rfl) rfl (listed' := [true, true, true, false, false, false, false, false, false, false, false, false, false, false, false, false, false, false, false, false, false, false, false, false, false, false, false, false, false, false, false]) rfl ?_
        refine WH.take 4 rfl (by kernel_rfl) (by kernel_rfl) (by kernel_rfl) (fun _ h => h) (OV.move rfl) rfl (listed' := [true, true, true, false, true, false, false, false, false, false, false, false, false, false, false, false, false, false, false, false, false, false, false, false, false, false, false, false, false, false, false]) rfl ?_
        refine WH.take 7 rfl (by kernel_rfl) (by kernel_rfl) (by kernel_rfl) (fun _ h => h) (OV.move rfl) rfl (listed' := [true, true, true, false, true, false, false, true, false, false, false, false, false, false, false, false, false, false, false, false, false, false, false, false, false, false, false, false, false, false, false]) rfl ?_
        refine WH.take 11 rfl (by kernel_rfl) (by kernel_rfl) (by kernel_rfl) (fun _ h => h) (OV.move rfl) rfl (listed' := [true, true, true, false, true, false, false, true, false, false, false, true, false, false, false, false, false, false, false, false, false, false, false, false, false, false, false, false, false, false, false]) rfl ?_
        first
        | (refine WH.take 12 rfl (by kernel_rfl) (by kernel_rfl) (by kernel_rfl) (fun _ h => h) (OV.indexArrN (i := 5) rfl rfl T.u59 T.z58 (by omega)) rfl (listed' := [true, true, true, false, true, false, false, true, false, false, false, true, true, false, false, false, false, false, false, false, false, false, false, false, false, false, false, false, false, false, false]) rfl ?_)
        | (refine WH.take 12 rfl (by kernel_rfl) (by kernel_rfl) (by kernel_rfl) (fun _ h => h) (OV.indexArrON (i := 5) rfl rfl T.u59 T.z58 (by omega)) rfl (listed' := [true, true, true, false, true, false, false, true, false, false, false, true, true, false, false, false, false, false, false, false, false, false, false, false, false, false, false, false, false, false, false]) rfl ?_)
        | (refine WH.take 12 rfl (by kernel_rfl) (by kernel_rfl) (by kernel_rfl) (fun _ h => h) (OV.indexArr1 rfl rfl T.u59 T.z58 (by omega)) rfl (listed' := [true, true, true, false, true, false, false, true, false, false, false, true, true, false, false, false, false, false, false, false, false, false, false, false, false, false, false, false, false, false, false]) rfl ?_)
        refine WH.take 13 rfl (by kernel_rfl) (by kernel_rfl) (by kernel_rfl) (fun _ h => h) (OV.load1 (v := w32 S.f) rfl T.u58 rfl (fun _ hw => cell_own hw (.head _) (w32s_arr (i := 5) S.toL (show _ < 8 from by decide)))) rfl (listed' := [true, true, true, false, true, false, false, true, false, false, false, true, true, true, false, false, false, false, false, false, false, false, false, false, false, false, false, false, false, false, false]) rfl ?_
        refine WH.take 14 rfl (by kernel_rfl) (by kernel_rfl) (by kernel_rfl) (fun _ h => h) (OV.andW rfl rfl) rfl (listed' := [true, true, true, false, true, false, false, true, false, false, false, true, true, true, true, false, false, false, false, false, false, false, false, false, false, false, false, false, false, false, false]) rfl ?_
        refine WH.take 15 rfl (by kernel_rfl) (by kernel_rfl) (by kernel_rfl) (fun _ h => h) (OV.move rfl) rfl (listed' := [true, true, true, false, true, false, false, true, false, false, false, true, true, true, true, true, false, false, false, false, false, false, false, false, false, false, false, false, false, false, false]) rfl ?_
        first
        | (refine WH.take 16 rfl (by kernel_rfl) (by kernel_rfl) (by kernel_rfl) (fun _ h => h) (OV.complW rfl) rfl (listed' := [true, true, true, false, true, false, false, true, false, false, false, true, true, true, true, true, true, false, false, false, false, false, false, false, false, false, false, false, false, false, false]) rfl ?_)
        | (refine WH.take 16 rfl (by kernel_rfl) (by kernel_rfl) (by kernel_rfl) (fun _ h => h) (OV.compl rfl) rfl (listed' := [true, true, true, false, true, false, false, true, false, false, false, true, true, true, true, true, true, false, false, false, false, false, false, false, false, false, false, false, false, false, false]) rfl ?_)
        first
        | (refine WH.take 17 rfl (by kernel_rfl) (by kernel_rfl) (by kernel_rfl) (fun _ h => h) (OV.indexArrN (i := 6) rfl rfl T.u59 T.z58 (by omega)) rfl (listed' := [true, true, true, false, true, false, false, true, false, false, false, true, true, true, true, true, true, true, false, false, false, false, false, false, false, false, false, false, false, false, false]) rfl ?_)
        | (refine WH.take 17 rfl (by kernel_rfl) (by kernel_rfl) (by kernel_rfl) (fun _ h => h) (OV.indexArrON (i := 6) rfl rfl T.u59 T.z58 (by omega)) rfl (listed' := [true, true, true, false, true, false, false, true, false, false, false, true, true, true, true, true, true, true, false, false, false, false, false, false, false, false, false, false, false, false, false]) rfl ?_)
        | (refine WH.take 17 rfl (by kernel_rfl) (by kernel_rfl) (by kernel_rfl) (fun _ h => h) (OV.indexArr1 rfl rfl T.u59 T.z58 (by omega)) rfl (listed' := [true, true, true, false, true, false, false, true, false, false, false, true, true, true, true, true, true, true, false, false, false, false, false, false, false, false, false, false, false, false, false]) rfl ?_)
        refine WH.take 18 rfl (by kernel_rfl) (by kernel_rfl) (by kernel_rfl) (fun _ h => h) (OV.load1 (v := w32 S.g) rfl T.u58 rfl (fun _ hw => cell_own hw (.head _) (w32s_arr (i := 6) S.toL (show _ < 8 from by decide)))) rfl (listed' := [true, true, true, false, true, false, false, true, false, false, false, true, true, true, true, true, true, true, true, false, false, false, false, false, false, false, false, false, false, false, false]) rfl ?_
        refine WH.take 19 rfl (by kernel_rfl) (by kernel_rfl) (by kernel_rfl) (fun _ h => h) (OV.andW rfl rfl) rfl (listed' := [true, true, true, false, true, false, false, true, false, false, false, true, true, true, true, true, true, true, true, true, false, false, false, false, false, false, false, false, false, false, false]) rfl ?_
        refine WH.take 20 rfl (by kernel_rfl) (by kernel_rfl) (by kernel_rfl) (fun _ h => h) (OV.xorW rfl rfl) rfl (listed' := [true, true, true, false, true, false, false, true, false, false, false, true, true, true, true, true, true, true, true, true, true, false, false, false, false, false, false, false, false, false, false]) rfl ?_
        refine WH.take 22 rfl (by kernel_rfl) (by kernel_rfl) (by kernel_rfl) (fun _ h => h) (OV.move rfl) rfl (listed' := [true, true, true, false, true, false, false, true, false, false, false, true, true, true, true, true, true, true, true, true, true, false, true, false, false, false, false, false, false, false, false]) rfl ?_
        first
        | (refine WH.take 23 rfl (by kernel_rfl) (by kernel_rfl) (by kernel_rfl) (fun _ h => h) (OV.indexArrN rfl rfl T.u72 T.z58 (by omega)) rfl (listed' := [true, true, true, false, true, false, false, true, false, false, false, true, true, true, true, true, true, true, true, true, true, false, true, true, false, false, false, false, false, false, false]) rfl ?_)
        | (refine WH.take 23 rfl (by kernel_rfl) (by kernel_rfl) (by kernel_rfl) (fun _ h => h) (OV.indexArrON rfl rfl T.u72 T.z58 (by omega)) rfl (listed' := [true, true, true, false, true, false, false, true, false, false, false, true, true, true, true, true, true, true, true, true, true, false, true, true, false, false, false, false, false, false, false]) rfl ?_)
        | (refine WH.take 23 rfl (by kernel_rfl) (by kernel_rfl) (by kernel_rfl) (fun _ h => h) (OV.indexArr1 rfl rfl T.u72 T.z58 (by omega)) rfl (listed' := [true, true, true, false, true, false, false, true, false, false, false, true, true, true, true, true, true, true, true, true, true, false, true, true, false, false, false, false, false, false, false]) rfl ?_)
        refine WH.take 24 rfl (by kernel_rfl) (by kernel_rfl) (by kernel_rfl) (fun _ h => h) (OV.load1 rfl T.u58 rfl (fun _ hw => snapL hw (hK t (by show t < 64; omega)))) rfl (listed' := [true, true, true, false, true, false, false, true, false, false, false, true, true, true, true, true, true, true, true, true, true, false, true, true, true, false, false, false, false, false, false]) rfl ?_
        refine WH.take 26 rfl (by kernel_rfl) (by kernel_rfl) (by kernel_rfl) (fun _ h => h) (OV.move rfl) rfl (listed' := [true, true, true, false, true, false, false, true, false, false, false, true, true, true, true, true, true, true, true, true, true, false, true, true, true, false, true, false, false, false, false]) rfl ?_
        first
        | (refine WH.take 27 rfl (by kernel_rfl) (by kernel_rfl) (by kernel_rfl) (fun _ h => h) (OV.indexArrN rfl rfl T.u72 T.z58 (by omega)) rfl (listed' := [true, true, true, false, true, false, false, true, false, false, false, true, true, true, true, true, true, true, true, true, true, false, true, true, true, false, true, true, false, false, false]) rfl ?_)
        | (refine WH.take 27 rfl (by kernel_rfl) (by kernel_rfl) (by kernel_rfl) (fun _ h => h) (OV.indexArrON rfl rfl T.u72 T.z58 (by omega)) rfl (listed' := [true, true, true, false, true, false, false, true, false, false, false, true, true, true, true, true, true, true, true, true, true, false, true, true, true, false, true, true, false, false, false]) rfl ?_)
        | (refine WH.take 27 rfl (by kernel_rfl) (by kernel_rfl) (by kernel_rfl) (fun _ h => h) (OV.indexArr1 rfl rfl T.u72 T.z58 (by omega)) rfl (listed' := [true, true, true, false, true, false, false, true, false, false, false, true, true, true, true, true, true, true, true, true, true, false, true, true, true, false, true, true, false, false, false]) rfl ?_)
        refine WH.take 28 rfl (by kernel_rfl) (by kernel_rfl) (by kernel_rfl) (fun _ h => h) (OV.load1 rfl T.u58 rfl (fun _ hw => cell_own hw (.tail _ (.head _)) (schCell ((pl.drop p).take 64) 64 t _ (by omega)))) rfl (listed' := [true, true, true, false, true, false, false, true, false, false, false, true, true, true, true, true, true, true, true, true, true, false, true, true, true, false, true, true, true, false, false]) rfl ?_
        refine WH.only 3 rfl (by kernel_rfl) (listed' := [true, true, true, true, true, false, false, true, false, false, false, true, true, true, true, true, true, true, true, true, true, false, true, true, true, false, true, true, true, false, false]) rfl ?_
        refine WL.call0 (by kernel_rfl) rfl rfl (fun w' _ => rot_calls _ 6 (by decide) w') ?_
        refine WL.nil ?_
        refine WX.cont (fun _ h => h) ?_
        refine WH.only 5 rfl (by kernel_rfl) (listed' := [true, true, true, true, true, true, false, true, false, false, false, true, true, true, true, true, true, true, true, true, true, false, true, true, true, false, true, true, true, false, false]) rfl ?_
        refine WL.call0 (by kernel_rfl) rfl rfl (fun w' _ => rot_calls _ 11 (by decide) w') ?_
        refine WL.nil ?_
        refine WX.cont (fun _ h => h) ?_
        refine WH.take 6 rfl (by kernel_rfl) (by kernel_rfl) (by kernel_rfl) (fun _ h => h) (OV.xorW rfl rfl) rfl (listed' := [true, true, true, true, true, true, true, true, false, false, false, true, true, true, true, true, true, true, true, true, true, false, true, true, true, false, true, true, true, false, false]) rfl ?_
        refine WH.only 8 rfl (by kernel_rfl) (listed' := [true, true, true, true, true, true, true, true, true, false, false, true, true, true, true, true, true, true, true, true, true, false, true, true, true, false, true, true, true, false, false]) rfl ?_
        refine WL.call0 (by kernel_rfl) rfl rfl (fun w' _ => rot_calls _ 25 (by decide) w') ?_
        refine WL.nil ?_
        refine WX.cont (fun _ h => h) ?_
        refine WH.take 9 rfl (by kernel_rfl) (by kernel_rfl) (by kernel_rfl) (fun _ h => h) (OV.xorW rfl rfl) rfl (listed' := [true, true, true, true, true, true, true, true, true, true, false, true, true, true, true, true, true, true, true, true, true, false, true, true, true, false, true, true, true, false, false]) rfl ?_
        refine WH.take 10 rfl (by kernel_rfl) (by kernel_rfl) (by kernel_rfl) (fun _ h => h) (OV.addW rfl rfl) rfl (listed' := [true, true, true, true, true, true, true, true, true, true, true, true, true, true, true, true, true, true, true, true, true, false, true, true, true, false, true, true, true, false, false]) rfl ?_
        refine WH.take 21 rfl (by kernel_rfl) (by kernel_rfl) (by kernel_rfl) (fun _ h => h) (OV.addW rfl rfl) rfl (listed' := [true, true, true, true, true, true, true, true, true, true, true, true, true, true, true, true, true, true, true, true, true, true, true, true, true, false, true, true, true, false, false]) rfl ?_
        refine WH.take 25 rfl (by kernel_rfl) (by kernel_rfl) (by kernel_rfl) (fun _ h => h) (OV.addW rfl rfl) rfl (listed' := [true, true, true, true, true, true, true, true, true, true, true, true, true, true, true, true, true, true, true, true, true, true, true, true, true, true, true, true, true, false, false]) rfl ?_
        refine WH.take 29 rfl (by kernel_rfl) (by kernel_rfl) (by kernel_rfl) (fun _ h => h) (OV.addW rfl rfl) rfl (listed' := [true, true, true, true, true, true, true, true, true, true, true, true, true, true, true, true, true, true, true, true, true, true, true, true, true, true, true, true, true, true, false]) rfl ?_
        refine WH.take 30 rfl (by kernel_rfl) (by kernel_rfl) (by kernel_rfl) (fun _ h => h) (OV.assign rfl) rfl (listed' := [true, true, true, true, true, true, true, true, true, true, true, true, true, true, true, true, true, true, true, true, true, true, true, true, true, true, true, true, true, true, true]) rfl ?_
        refine WH.done (by kernel_rfl) ?_
        refine WX.next ?_
        refine WC.seq ?_
        refine WC.quietS (by kernel_rfl) (m := 25) rfl ?_
        refine WH.take 0 rfl (by kernel_rfl) (by kernel_rfl) (by kernel_rfl) (fun _ h => h) (OV.move rfl) rfl (listed' := [true, false, false, false, false, false, false, false, false, false, false, false, false, false, false, false, false, false, false, false, false, false, false, false, false]) rfl ?_
        refine WH.take 2 rfl (by kernel_rfl) (by kernel_rfl) (by kernel_rfl) (fun _ h => h) (OV.move rfl) rfl (listed' := [true, false, true, false, false, false, false, false, false, false, false, false, false, false, false, false, false, false, false, false, false, false, false, false, false]) rfl ?_
        refine WH.take 5 rfl (by kernel_rfl) (by kernel_rfl) (by kernel_rfl) (fun _ h => h) (OV.move rfl) rfl (listed' := [true, false, true, false, false, true, false, false, false, false, false, false, false, false, false, false, false, false, false, false, false, false, false, false, false]) rfl ?_
        refine WH.take 8 rfl (by kernel_rfl) (by kernel_rfl) (by kernel_rfl) (fun _ h => h) (OV.move rfl) rfl (listed' := [true, false, true, false, false, true, false, false, true, false, false, false, false, false, false, false, false, false, false, false, false, false, false, false, false]) rfl ?_
        first
        | (refine WH.take 9 rfl (by kernel_rfl) (by kernel_rfl) (by kernel_rfl) (fun _ h => h) (OV.indexArrN (i := 1) rfl rfl T.u59 T.z58 (by omega)) rfl (listed' := [true, false, true, false, false, true, false, false, true, true, false, false, false, false, false, false, false, false, false, false, false, false, false, false, false]) rfl ?_)
        | (refine WH.take 9 rfl (by kernel_rfl) (by kernel_rfl) (by kernel_rfl) (fun _ h => h) (OV.indexArrON (i := 1) rfl rfl T.u59 T.z58 (by omega)) rfl (listed' := [true, false, true, false, false, true, false, false, true, true, false, false, false, false, false, false, false, false, false, false, false, false, false, false, false]) rfl ?_)
        | (refine WH.take 9 rfl (by kernel_rfl) (by kernel_rfl) (by kernel_rfl) (fun _ h => h) (OV.indexArr1 rfl rfl T.u59 T.z58 (by omega)) rfl (listed' := [true, false, true, false, false, true, false, false, true, true, false, false, false, false, false, false, false, false, false, false, false, false, false, false, false]) rfl ?_)
        refine WH.take 10 rfl (by kernel_rfl) (by kernel_rfl) (by kernel_rfl) (fun _ h => h) (OV.load1 (v := w32 S.b) rfl T.u58 rfl (fun _ hw => cell_own hw (.head _) (w32s_arr (i := 1) S.toL (show _ < 8 from by decide)))) rfl (listed' := [true, false, true, false, false, true, false, false, true, true, true, false, false, false, false, false, false, false, false, false, false, false, false, false, false]) rfl ?_
        refine WH.take 11 rfl (by kernel_rfl) (by kernel_rfl) (by kernel_rfl) (fun _ h => h) (OV.andW rfl rfl) rfl (listed' := [true, false, true, false, false, true, false, false, true, true, true, true, false, false, false, false, false, false, false, false, false, false, false, false, false]) rfl ?_
        refine WH.take 12 rfl (by kernel_rfl) (by kernel_rfl) (by kernel_rfl) (fun _ h => h) (OV.move rfl) rfl (listed' := [true, false, true, false, false, true, false, false, true, true, true, true, true, false, false, false, false, false, false, false, false, false, false, false, false]) rfl ?_
        first
        | (refine WH.take 13 rfl (by kernel_rfl) (by kernel_rfl) (by kernel_rfl) (fun _ h => h) (OV.indexArrN (i := 2) rfl rfl T.u59 T.z58 (by omega)) rfl (listed' := [true, false, true, false, false, true, false, false, true, true, true, true, true, true, false, false, false, false, false, false, false, false, false, false, false]) rfl ?_)
        | (refine WH.take 13 rfl (by kernel_rfl) (by kernel_rfl) (by kernel_rfl) (fun _ h => h) (OV.indexArrON (i := 2) rfl rfl T.u59 T.z58 (by omega)) rfl (listed' := [true, false, true, false, false, true, false, false, true, true, true, true, true, true, false, false, false, false, false, false, false, false, false, false, false]) rfl ?_)
        | (refine WH.take 13 rfl (by kernel_rfl) (by kernel_rfl) (by kernel_rfl) (fun _ h => h) (OV.indexArr1 rfl rfl T.u59 T.z58 (by omega)) rfl (listed' := [true, false, true, false, false, true, false, false, true, true, true, true, true, true, false, false, false, false, false, false, false, false, false, false, false]) rfl ?_)
        refine WH.take 14 rfl (by kernel_rfl) (by kernel_rfl) (by kernel_rfl) (fun _ h => h) (OV.load1 (v := w32 S.c) rfl T.u58 rfl (fun _ hw => cell_own hw (.head _) (w32s_arr (i := 2) S.toL (show _ < 8 from by decide)))) rfl (listed' := [true, false, true, false, false, true, false, false, true, true, true, true, true, true, true, false, false, false, false, false, false, false, false, false, false]) rfl ?_
        refine WH.take 15 rfl (by kernel_rfl) (by kernel_rfl) (by kernel_rfl) (fun _ h => h) (OV.andW rfl rfl) rfl (listed' := [true, false, true, false, false, true, false, false, true, true, true, true, true, true, true, true, false, false, false, false, false, false, false, false, false]) rfl ?_
        refine WH.take 16 rfl (by kernel_rfl) (by kernel_rfl) (by kernel_rfl) (fun _ h => h) (OV.xorW rfl rfl) rfl (listed' := [true, false, true, false, false, true, false, false, true, true, true, true, true, true, true, true, true, false, false, false, false, false, false, false, false]) rfl ?_
        first
        | (refine WH.take 17 rfl (by kernel_rfl) (by kernel_rfl) (by kernel_rfl) (fun _ h => h) (OV.indexArrN (i := 1) rfl rfl T.u59 T.z58 (by omega)) rfl (listed' := [true, false, true, false, false, true, false, false, true, true, true, true, true, true, true, true, true, true, false, false, false, false, false, false, false]) rfl ?_)
        | (refine WH.take 17 rfl (by kernel_rfl) (by kernel_rfl) (by kernel_rfl) (fun _ h => h) (OV.indexArrON (i := 1) rfl rfl T.u59 T.z58 (by omega)) rfl (listed' := [true, false, true, false, false, true, false, false, true, true, true, true, true, true, true, true, true, true, false, false, false, false, false, false, false]) rfl ?_)
        | (refine WH.take 17 rfl (by kernel_rfl) (by kernel_rfl) (by kernel_rfl) (fun _ h => h) (OV.indexArr1 rfl rfl T.u59 T.z58 (by omega)) rfl (listed' := [true, false, true, false, false, true, false, false, true, true, true, true, true, true, true, true, true, true, false, false, false, false, false, false, false]) rfl ?_)
        refine WH.take 18 rfl (by kernel_rfl) (by kernel_rfl) (by kernel_rfl) (fun _ h => h) (OV.load1 (v := w32 S.b) rfl T.u58 rfl (fun _ hw => cell_own hw (.head _) (w32s_arr (i := 1) S.toL (show _ < 8 from by decide)))) rfl (listed' := [true, false, true, false, false, true, false, false, true, true, true, true, true, true, true, true, true, true, true, false, false, false, false, false, false]) rfl ?_
        first
        | (refine WH.take 19 rfl (by kernel_rfl) (by kernel_rfl) (by kernel_rfl) (fun _ h => h) (OV.indexArrN (i := 2) rfl rfl T.u59 T.z58 (by omega)) rfl (listed' := [true, false, true, false, false, true, false, false, true, true, true, true, true, true, true, true, true, true, true, true, false, false, false, false, false]) rfl ?_)
        | (refine WH.take 19 rfl (by kernel_rfl) (by kernel_rfl) (by kernel_rfl) (fun _ h => h) (OV.indexArrON (i := 2) rfl rfl T.u59 T.z58 (by omega)) rfl (listed' := [true, false, true, false, false, true, false, false, true, true, true, true, true, true, true, true, true, true, true, true, false, false, false, false, false]) rfl ?_)
        | (refine WH.take 19 rfl (by kernel_rfl) (by kernel_rfl) (by kernel_rfl) (fun _ h => h) (OV.indexArr1 rfl rfl T.u59 T.z58 (by omega)) rfl (listed' := [true, false, true, false, false, true, false, false, true, true, true, true, true, true, true, true, true, true, true, true, false, false, false, false, false]) rfl ?_)
        refine WH.take 20 rfl (by kernel_rfl) (by kernel_rfl) (by kernel_rfl) (fun _ h => h) (OV.load1 (v := w32 S.c) rfl T.u58 rfl (fun _ hw => cell_own hw (.head _) (w32s_arr (i := 2) S.toL (show _ < 8 from by decide)))) rfl (listed' := [true, false, true, false, false, true, false, false, true, true, true, true, true, true, true, true, true, true, true, true, true, false, false, false, false]) rfl ?_
        refine WH.take 21 rfl (by kernel_rfl) (by kernel_rfl) (by kernel_rfl) (fun _ h => h) (OV.andW rfl rfl) rfl (listed' := [true, false, true, false, false, true, false, false, true, true, true, true, true, true, true, true, true, true, true, true, true, true, false, false, false]) rfl ?_
        refine WH.take 22 rfl (by kernel_rfl) (by kernel_rfl) (by kernel_rfl) (fun _ h => h) (OV.xorW rfl rfl) rfl (listed' := [true, false, true, false, false, true, false, false, true, true, true, true, true, true, true, true, true, true, true, true, true, true, true, false, false]) rfl ?_
        refine WH.only 1 rfl (by kernel_rfl) (listed' := [true, true, true, false, false, true, false, false, true, true, true, true, true, true, true, true, true, true, true, true, true, true, true, false, false]) rfl ?_
        refine WL.call0 (by kernel_rfl) rfl rfl (fun w' _ => rot_calls _ 2 (by decide) w') ?_
        refine WL.nil ?_
        refine WX.cont (fun _ h => h) ?_
        refine WH.only 3 rfl (by kernel_rfl) (listed' := [true, true, true, true, false, true, false, false, true, true, true, true, true, true, true, true, true, true, true, true, true, true, true, false, false]) rfl ?_
        refine WL.call0 (by kernel_rfl) rfl rfl (fun w' _ => rot_calls _ 13 (by decide) w') ?_
        refine WL.nil ?_
        refine WX.cont (fun _ h => h) ?_
        refine WH.take 4 rfl (by kernel_rfl) (by kernel_rfl) (by kernel_rfl) (fun _ h => h) (OV.xorW rfl rfl) rfl (listed' := [true, true, true, true, true, true, false, false, true, true, true, true, true, true, true, true, true, true, true, true, true, true, true, false, false]) rfl ?_
        refine WH.only 6 rfl (by kernel_rfl) (listed' := [true, true, true, true, true, true, true, false, true, true, true, true, true, true, true, true, true, true, true, true, true, true, true, false, false]) rfl ?_
        refine WL.call0 (by kernel_rfl) rfl rfl (fun w' _ => rot_calls _ 22 (by decide) w') ?_
        refine WL.nil ?_
        refine WX.cont (fun _ h => h) ?_
        refine WH.take 7 rfl (by kernel_rfl) (by kernel_rfl) (by kernel_rfl) (fun _ h => h) (OV.xorW rfl rfl) rfl (listed' := [true, true, true, true, true, true, true, true, true, true, true, true, true, true, true, true, true, true, true, true, true, true, true, false, false]) rfl ?_
        refine WH.take 23 rfl (by kernel_rfl) (by kernel_rfl) (by kernel_rfl) (fun _ h => h) (OV.addW rfl rfl) rfl (listed' := [true, true, true, true, true, true, true, true, true, true, true, true, true, true, true, true, true, true, true, true, true, true, true, true, false]) rfl ?_
        refine WH.take 24 rfl (by kernel_rfl) (by kernel_rfl) (by kernel_rfl) (fun _ h => h) (OV.assign rfl) rfl (listed' := [true, true, true, true, true, true, true, true, true, true, true, true, true, true, true, true, true, true, true, true, true, true, true, true, true]) rfl ?_
        refine WH.done (by kernel_rfl) ?_
        refine WX.next ?_
        refine WC.region ?_
        refine WL.val (OV.move rfl) rfl ?_
        refine WL.val (OV.move rfl) rfl ?_
        refine WL.val (OV.addW rfl rfl) rfl ?_
        first
        | (refine WL.val (OV.indexArrN (i := 0) rfl rfl T.u59 T.z58 (by omega)) rfl ?_)
        | (refine WL.val (OV.indexArrON (i := 0) rfl rfl T.u59 T.z58 (by omega)) rfl ?_)
        | (refine WL.val (OV.indexArr1 rfl rfl T.u59 T.z58 (by omega)) rfl ?_)
        refine WL.val (OV.load1 (v := w32 S.a) rfl T.u58 rfl (fun _ hw => cell_own hw (.head _) (w32s_arr (i := 0) S.toL (show _ < 8 from by decide)))) rfl ?_
        first
        | (refine WL.val (OV.indexArrN (i := 1) rfl rfl T.u59 T.z58 (by omega)) rfl ?_)
        | (refine WL.val (OV.indexArrON (i := 1) rfl rfl T.u59 T.z58 (by omega)) rfl ?_)
        | (refine WL.val (OV.indexArr1 rfl rfl T.u59 T.z58 (by omega)) rfl ?_)
        refine WL.val (OV.load1 (v := w32 S.b) rfl T.u58 rfl (fun _ hw => cell_own hw (.head _) (w32s_arr (i := 1) S.toL (show _ < 8 from by decide)))) rfl ?_
        first
        | (refine WL.val (OV.indexArrN (i := 2) rfl rfl T.u59 T.z58 (by omega)) rfl ?_)
        | (refine WL.val (OV.indexArrON (i := 2) rfl rfl T.u59 T.z58 (by omega)) rfl ?_)
        | (refine WL.val (OV.indexArr1 rfl rfl T.u59 T.z58 (by omega)) rfl ?_)
        refine WL.val (OV.load1 (v := w32 S.c) rfl T.u58 rfl (fun _ hw => cell_own hw (.head _) (w32s_arr (i := 2) S.toL (show _ < 8 from by decide)))) rfl ?_
        first
        | (refine WL.val (OV.indexArrN (i := 3) rfl rfl T.u59 T.z58 (by omega)) rfl ?_)
        | (refine WL.val (OV.indexArrON (i := 3) rfl rfl T.u59 T.z58 (by omega)) rfl ?_)
        | (refine WL.val (OV.indexArr1 rfl rfl T.u59 T.z58 (by omega)) rfl ?_)
        refine WL.val (OV.load1 (v := w32 S.d) rfl T.u58 rfl (fun _ hw => cell_own hw (.head _) (w32s_arr (i := 3) S.toL (show _ < 8 from by decide)))) rfl ?_
        refine WL.val (OV.move rfl) rfl ?_
        refine WL.val (OV.addW rfl rfl) rfl ?_
        first
        | (refine WL.val (OV.indexArrN (i := 4) rfl rfl T.u59 T.z58 (by omega)) rfl ?_)
        | (refine WL.val (OV.indexArrON (i := 4) rfl rfl T.u59 T.z58 (by omega)) rfl ?_)
        | (refine WL.val (OV.indexArr1 rfl rfl T.u59 T.z58 (by omega)) rfl ?_)
        refine WL.val (OV.load1 (v := w32 S.e) rfl T.u58 rfl (fun _ hw => cell_own hw (.head _) (w32s_arr (i := 4) S.toL (show _ < 8 from by decide)))) rfl ?_
        first
        | (refine WL.val (OV.indexArrN (i := 5) rfl rfl T.u59 T.z58 (by omega)) rfl ?_)
        | (refine WL.val (OV.indexArrON (i := 5) rfl rfl T.u59 T.z58 (by omega)) rfl ?_)
        | (refine WL.val (OV.indexArr1 rfl rfl T.u59 T.z58 (by omega)) rfl ?_)
        refine WL.val (OV.load1 (v := w32 S.f) rfl T.u58 rfl (fun _ hw => cell_own hw (.head _) (w32s_arr (i := 5) S.toL (show _ < 8 from by decide)))) rfl ?_
        first
        | (refine WL.val (OV.indexArrN (i := 6) rfl rfl T.u59 T.z58 (by omega)) rfl ?_)
        | (refine WL.val (OV.indexArrON (i := 6) rfl rfl T.u59 T.z58 (by omega)) rfl ?_)
        | (refine WL.val (OV.indexArr1 rfl rfl T.u59 T.z58 (by omega)) rfl ?_)
        refine WL.val (OV.load1 (v := w32 S.g) rfl T.u58 rfl (fun _ hw => cell_own hw (.head _) (w32s_arr (i := 6) S.toL (show _ < 8 from by decide)))) rfl ?_
        refine WL.val (OV.buildArr (xs := [.tmp 165, .tmp 167, .tmp 169, .tmp 171, .tmp 175, .tmp 177, .tmp 179, .tmp 181]) (vs := w32s (rndS S (kW.getD t 0) ((schW ((pl.drop p).take 64) 64).getD t 0)).toL) rfl T.u59 T.z58 T.zr59 rfl (Eq.refl 8) rfl) rfl ?_
        refine WL.storeAll (vs := w32s (rndS S (kW.getD t 0) ((schW ((pl.drop p).take 64) 64).getD t 0)).toL) rfl rfl (List.all_eq_true.2 (w32s_one _)) T.z59 (Eq.refl 8) ?_
        refine WL.nil ?_
        refine WX.block_normal ?_
        refine WX.next ?_
        refine WC.region ?_
        refine WL.val (OV.move rfl) rfl ?_
        refine WL.val (OV.addN (j := 1) rfl rfl (by omega)) rfl ?_
        refine WL.val (OV.assign rfl) rfl ?_
        refine WL.nil ?_
        exact WX.round1 (t + 1) ⟨rfl, rfl, rfl, rfl, rfl, rfl, rfl, trivial⟩ (fun w' hw => ⟨by omega, by subst hS; exact hw⟩) (by show 64 - (t + 1) < 64 - t; omega)
      · simp only [decide_eq_true_eq, decide_eq_false_iff_not, Bool.not_eq_true', Bool.not_eq_false'] at c102
        refine WC.exit ?_
        refine WX.then_exit ?_
        refine WX.then_exit ?_
        refine WX.block_hit ?_
        refine WX.next ?_
        refine WC.seq ?_
        refine WC.seq ?_
        refine WC.region ?_
        refine WL.val (OV.assign rfl) rfl ?_
        refine WL.nil ?_
        refine WX.next ?_
        refine WC.block ?_
        have ht64 : t = 64 := by omega
        subst ht64
        refine WC.loop1 (fun (i : Nat) => [(1, .slice (some a) m c), (2, .int .i64 (p : Int)), (3, .pointer (some ⟨b3, 0, none⟩)), (6, .pointer (some ⟨b6, 0, none⟩)), (7, .pointer (some ⟨b7, 0, none⟩)), (13, .pointer (some ⟨b13, 0, none⟩)), (19, .int .i64 i)])
            (fun i w' => i ≤ 8 ∧ Sat w (fun _ => False) (fun b => b < w.heap.size) w [own b13 (.cells (w32s (addP S.toL H i)).toArray 59 (0, 0)), own b7 (.cells (w32s (schW ((pl.drop p).take 64) 64 ++ List.replicate (64 - 64) 0)).toArray 72 (0, 0)), own b6 (.cells (w32s (List.replicate 8 0)).toArray 59 (0, 0)), own b3 (.cells (w32s H).toArray 59 (0, 0))] w')
            (fun i => 8 - i) 0 ⟨rfl, rfl, rfl, rfl, rfl, rfl, rfl, trivial⟩ (fun w' hw => ⟨by omega, hw⟩) ?_
        intro i
        refine WC.pure (fun hi => ?_)
        have hal : (addP S.toL H i).length = 8 := addP_length _ _ _
        refine WC.seq ?_
        refine WC.seq ?_
        refine WC.region ?_
        refine WL.val (OV.move rfl) rfl ?_
        refine WL.val (OV.lss rfl rfl) rfl ?_
        refine WL.nil ?_
        refine WX.next ?_
        refine WC.cond rfl (fun c184 => ?_) (fun c184 => ?_)
        · simp only [decide_eq_true_eq, decide_eq_false_iff_not, Bool.not_eq_true', Bool.not_eq_false'] at c184
          refine WC.skip ?_
          refine WX.next ?_
          refine WC.seq ?_
          refine WC.block ?_
          refine WC.tail 8 (by kernel_rfl) (by kernel_rfl) ?_
          refine WS.val (OV.move rfl) rfl ?_
          first
          | (refine WS.val (OV.indexArrN rfl rfl T.u59 T.z58 (by omega)) rfl ?_)
          | (refine WS.val (OV.indexArrON rfl rfl T.u59 T.z58 (by omega)) rfl ?_)
          | (refine WS.val (OV.indexArr1 rfl rfl T.u59 T.z58 (by omega)) rfl ?_)
          refine WS.val (OV.load1 rfl T.u58 rfl (fun _ hw => cell_own hw (.head _) (w32s_arr _ (by omega)))) rfl ?_
          refine WS.val (OV.move rfl) rfl ?_
          first
          | (refine WS.val (OV.indexArrN rfl rfl T.u59 T.z58 (by omega)) rfl ?_)
          | (refine WS.val (OV.indexArrON rfl rfl T.u59 T.z58 (by omega)) rfl ?_)
          | (refine WS.val (OV.indexArr1 rfl rfl T.u59 T.z58 (by omega)) rfl ?_)
          refine WS.val (OV.load1 rfl T.u58 rfl (fun _ hw => cell_own hw (.tail _ (.tail _ (.tail _ (.head _)))) (w32s_arr _ (by omega)))) rfl ?_
          refine WS.val (OV.addW rfl rfl) rfl ?_
          first
          | (refine WS.val (OV.indexArrN rfl rfl T.u59 T.z58 (by omega)) rfl ?_)
          | (refine WS.val (OV.indexArrON rfl rfl T.u59 T.z58 (by omega)) rfl ?_)
          | (refine WS.val (OV.indexArr1 rfl rfl T.u59 T.z58 (by omega)) rfl ?_)
          refine WS.nil ?_
          refine WL.store1 rfl rfl rfl T.z58 (by rw [w32s_length, hal]; omega) ?_
          refine WL.nil ?_
          refine WX.block_normal ?_
          refine WX.next ?_
          refine WC.region ?_
          refine WL.val (OV.move rfl) rfl ?_
          refine WL.val (OV.addN (j := 1) rfl rfl (by omega)) rfl ?_
          refine WL.val (OV.assign rfl) rfl ?_
          refine WL.nil ?_
          exact WX.round1 (i + 1) ⟨rfl, rfl, rfl, rfl, rfl, rfl, rfl, trivial⟩ (fun w' hw => ⟨by omega, by
            rw [w32s_set] at hw
            exact hw⟩) (by show 8 - (i + 1) < 8 - i; omega)
        · simp only [decide_eq_true_eq, decide_eq_false_iff_not, Bool.not_eq_true', Bool.not_eq_false'] at c184
          refine WC.exit ?_
          refine WX.then_exit ?_
          refine WX.then_exit ?_
          refine WX.block_hit ?_
          refine WX.next ?_
          refine WC.seq ?_
          refine WC.region ?_
          have hi8 : i = 8 := by omega
          subst hi8
          rw [show addP S.toL H 8 = turnL H ((pl.drop p).take 64) from by rw [turnL, addP_comm _ _ hH rfl, hS]]
          have hTl : (turnL H ((pl.drop p).take 64)).length = 8 := by rw [turnL_length, hH]
          refine WL.val (OV.loadN (cs := w32s (turnL H ((pl.drop p).take 64))) rfl T.u59 rfl (by rw [w32s_length]; exact hTl ▸ T.z59) (fun _ hw j v hj => by rw [add_off, Nat.zero_add]; exact own_cells hw (.head _) j v hj)) rfl ?_
          refine WL.focus perm2 (WL.storeAll (vs := w32s (turnL H ((pl.drop p).take 64))) rfl rfl (List.all_eq_true.2 (w32s_one _)) (by rw [w32s_length]; exact hTl ▸ T.z59) (by rw [w32s_length, w32s_length, hTl]; rfl) ?_)
          refine WL.nil ?_
          refine WX.next ?_
          refine WC.ret ?_
          exact WX.retC (cs := w32s (turnL H ((pl.drop p).take 64))) rfl rfl rfl T.u59 rfl (by rw [w32s_length]; exact hTl ▸ T.z59) (fun _ hw => own_cells hw (.head _)) (fun w hw => ⟨rfl, hw.fr⟩)

end Go.Proofs.YtplebagdajdcnaaDoor
