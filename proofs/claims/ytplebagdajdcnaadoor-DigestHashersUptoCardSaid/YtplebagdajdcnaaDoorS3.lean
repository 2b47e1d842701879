/- Contracts of functions of the program: what each returns and leaves in memory. Printed by gen.py and walk.py. -/
import Derived.Test.YtplebagdajdcnaaDoorS2
namespace Go.Proofs.YtplebagdajdcnaaDoor
open Go Go.Hw
set_option linter.unusedSimpArgs false
set_option linter.unusedVariables false
theorem Tab.sat {w w' : World} {ow : List Hw.Item} {g : Nat} {l : List UInt32} (h : Tab w g l) (hw : Sat w (fun _ => False) (fun b => b < w.heap.size) w ow w') : Tab w' g l :=
  fun t ht => snapL hw (h t ht)
theorem Tab.satO {w w' : World} {b : Nat} {ow : List Hw.Item} {g : Nat} {l : List UInt32} (h : Tab w g l) (hw : Sat w (fun i => i = b) (fun i => i < w.heap.size ∧ i ≠ b) w ow w') (hne : b ≠ g) : Tab w' g l :=
  fun t ht => snapO hw (fun hh => hne hh.symm) (h t ht)
theorem Tab.lt {w : World} {g : Nat} {l : List UInt32} (h : Tab w g l) (hl : 0 < l.length) : g < w.heap.size := World.block_lt_of_cell? w _ (h 0 hl)
def beP (n i : Nat) : List UInt8 := (List.range i).map fun i => UInt8.ofNat (n / 2 ^ (56 - 8 * i))
theorem beP_length (n i : Nat) : (beP n i).length = i := by simp [beP]
theorem beP_succ (n i : Nat) : beP n (i + 1) = beP n i ++ [UInt8.ofNat (n / 2 ^ (56 - 8 * i))] := by simp [beP, List.range_succ]
theorem hp_nil : HP [] (List.replicate 64 0) := ⟨by decide, by decide⟩

set_option maxRecDepth 10000 in
theorem eight_calls (n : Nat) (hn : n < 18446744073709551616) (w : World) : Calls Tryd.prog 33 #[.int .u64 (n : Int)] w fun e w' => ∃ b, e = .returned (.slice (some ⟨b, 0, none⟩) 8 8) ∧ n < 18446744073709551616 ∧ Fr0 w w' ∧ New w w' (own b (.cells (u8s (be8 n)).toArray 74 (0, 0))) := by
  refine enterS (args := [.int .u64 (n : Int)]) (fun _ => False) Tryd.func33 rfl Tryd.ntmps33 rfl rfl ?_
  refine WC.seq ?_
  refine WC.region ?_
  refine WL.val (OV.assign rfl) rfl ?_
  refine WL.nil ?_
  refine WX.next ?_
  refine WC.seq ?_
  refine WC.region ?_
  refine WL.alloc T.zr74 rfl ?_
  intro b3
  refine WL.nil ?_
  refine WX.next ?_
  refine WC.seq ?_
  refine WC.seq ?_
  refine WC.region ?_
  refine WL.val (OV.move rfl) rfl ?_
  refine WL.nil ?_
  refine WX.next ?_
  refine WC.block ?_
  refine WC.loop1 (fun (i : Nat) => [(0, .int .u64 (n : Int)), (3, .pointer (some ⟨b3, 0, none⟩)), (5, .int .i64 i)])
      (fun i w' => i ≤ 8 ∧ Sat w (fun _ => False) (fun b => b < w.heap.size) w [own b3 (.cells (u8s (beP n i ++ List.replicate (8 - i) 0)).toArray 74 (0, 0))] w')
      (fun i => 8 - i) 0 ⟨rfl, rfl, rfl, trivial⟩ (fun w' hw => ⟨by omega, hw⟩) ?_
  intro i
  refine WC.pure (fun hi => ?_)
  have hl := beP_length n i
  refine WC.seq ?_
  refine WC.region ?_
  refine WL.val (OV.lss rfl rfl) rfl ?_
  refine WL.nil ?_
  refine WX.next ?_
  refine WC.seq ?_
  refine WC.cond rfl (fun c6 => ?_) (fun c6 => ?_)
  · simp only [decide_eq_true_eq, decide_eq_false_iff_not, Bool.not_eq_true', Bool.not_eq_false'] at c6
    refine WC.skip ?_
    refine WX.next ?_
    refine WC.seq ?_
    refine WC.block ?_
    refine WC.seq ?_
    refine WC.region ?_
    refine WL.val (OV.move rfl) rfl ?_
    refine WL.val (OV.assign rfl) rfl ?_
    refine WL.nil ?_
    refine WX.next ?_
    refine WC.region ?_
    refine WL.val (OV.move rfl) rfl ?_
    refine WL.val (OV.move rfl) rfl ?_
    refine WL.val (OV.move rfl) rfl ?_
    refine WL.val (OV.mulN (i := 8) rfl rfl (by omega)) rfl ?_
    refine WL.val (OV.subN (i := 56) rfl rfl (wrap_i64 (by omega)) (by omega)) rfl ?_
    refine WL.val ((OV.shr rfl rfl (by simp [IntKind.bits]; omega)).cast (u := .int .u64 ((n / 2 ^ (56 - 8 * i) : Nat) : Int)) (by congr 1)) rfl ?_
    refine WL.val (OV.convI_8 T.u63 T.u5 rfl) rfl ?_
    first
    | (refine WL.val (OV.indexArrN rfl rfl T.u74 T.z5 (by omega)) rfl ?_)
    | (refine WL.val (OV.indexArrON rfl rfl T.u74 T.z5 (by omega)) rfl ?_)
    | (refine WL.val (OV.indexArr1 rfl rfl T.u74 T.z5 (by omega)) rfl ?_)
    refine WL.store1 rfl rfl rfl T.z5 (by simp [u8s_length, hl]; omega) ?_
    refine WL.nil ?_
    refine WX.block_normal ?_
    refine WX.next ?_
    refine WC.region ?_
    refine WL.val (OV.addN (j := 1) rfl rfl (by omega)) rfl ?_
    refine WL.val (OV.move rfl) rfl ?_
    refine WL.nil ?_
    exact WX.round1 (i + 1) ⟨rfl, rfl, rfl, trivial⟩ (fun w' hw => ⟨by omega, by
      rw [u8_next hl (by omega), ← beP_succ] at hw
      exact hw⟩) (by show 8 - (i + 1) < 8 - i; omega)
  · simp only [decide_eq_true_eq, decide_eq_false_iff_not, Bool.not_eq_true', Bool.not_eq_false'] at c6
    refine WC.exit ?_
    refine WX.then_exit ?_
    refine WX.then_exit ?_
    refine WX.block_hit ?_
    refine WX.next ?_
    refine WC.seq ?_
    refine WC.region ?_
    refine WL.val (OV.sliceArrAll rfl T.u74 T.z5) rfl ?_
    refine WL.val (OV.assign rfl) rfl ?_
    refine WL.nil ?_
    refine WX.next ?_
    refine WC.ret ?_
    have hi8 : i = 8 := by omega
    subst hi8
    exact WX.ret1 rfl rfl rfl (fun w' hw => ⟨b3, rfl, hn, hw.fr, by rw [show beP n 8 ++ List.replicate (8 - 8) 0 = be8 n from by simp [beP, be8]] at hw; exact hw.new0 (.head _)⟩)

set_option maxRecDepth 10000 in
theorem new_calls (w : World) (hF : Tab w 1 h0W) : Calls Tryd.prog 25 #[] w fun e w' => ∃ b, e = .returned (.pointer (some ⟨b, 0, none⟩)) ∧ True ∧ Fr0 w w' ∧ New w w' (own b (.cells (HC [] (List.replicate 64 0)).toArray 71 (0, 0))) := by
  refine enterS (args := []) (fun _ => False) Tryd.func25 rfl Tryd.ntmps25 rfl rfl ?_
  refine WC.seq ?_
  refine WC.region ?_
  refine WL.val (OV.assign rfl) rfl ?_
  refine WL.nil ?_
  refine WX.next ?_
  refine WC.seq ?_
  refine WC.region ?_
  refine WL.val (OV.loadN (cs := w32s h0W) rfl T.u69 rfl T.z69 (fun _ hw j v hj => by
    rw [add_off, Nat.zero_add]
    have hj' : j < 8 := (List.getElem?_eq_some_iff.1 hj).1
    rw [w32s_getD _ hj', Option.some.injEq] at hj
    subst hj
    exact snapL hw (hF j hj'))) rfl ?_
  refine WL.val (OV.buildStruct (xs := [(0, .tmp 1)]) (pl := [(0, 8), (8, 64), (72, 1)]) (cs := HC [] (List.replicate 64 0)) T.u71 T.zr71 (by kernel_rfl) rfl (by kernel_rfl)) rfl ?_
  refine WL.box (cs := HC [] (List.replicate 64 0)) rfl rfl rfl ?_
  intro b3
  refine WL.val (OV.assign rfl) rfl ?_
  refine WL.nil ?_
  refine WX.next ?_
  refine WC.ret ?_
  exact WX.ret1 rfl rfl rfl (fun w' hw => ⟨b3, rfl, trivial, hw.fr, hw.new0 (.head _)⟩)

end Go.Proofs.YtplebagdajdcnaaDoor
