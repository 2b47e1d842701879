/- Contracts of functions of the program: what each returns and leaves in memory. Printed by gen.py and walk.py. -/
import Derived.Test.YtplebagdajdcnaaDoorA0
import Derived.Test.YtplebagdajdcnaaDoorTy
namespace Go.Proofs.YtplebagdajdcnaaDoor
open Go Go.Hw
set_option linter.unusedSimpArgs false
set_option linter.unusedVariables false
theorem T.apB : appB Tryd.prog 22 5 1 1 = true := by kernel_rfl

set_option maxRecDepth 10000 in
theorem value_calls (c : UInt8) (w : World) : Calls Tryd.prog 37 #[b8 c] w fun e w' => e = .returned (.int .i64 (valueS c)) ∧ Fr0 w w' := by
  have hc := c.toNat_lt
  refine enterS (args := [b8 c]) (fun _ => False) Tryd.func37 rfl Tryd.ntmps37 rfl rfl ?_
  refine WC.seq ?_
  refine WC.region ?_
  refine WL.val (OV.assign rfl) rfl ?_
  refine WL.nil ?_
  refine WX.next ?_
  refine WC.seq ?_
  refine WC.block ?_
  refine WC.seq ?_
  refine WC.region ?_
  refine WL.val (OV.move rfl) rfl ?_
  refine WL.val (OV.geq rfl rfl) rfl ?_
  refine WL.val (OV.move rfl) rfl ?_
  refine WL.split (t := 6) rfl (fun g6 => ?_) (fun g6 => ?_)
  · simp only [decide_eq_true_eq, decide_eq_false_iff_not, Bool.not_eq_true', Bool.not_eq_false'] at g6
    refine WL.go (b := true) rfl rfl rfl ?_
    refine WL.val (OV.move rfl) rfl ?_
    refine WL.go (b := true) rfl rfl rfl ?_
    refine WL.val (OV.leq rfl rfl) rfl ?_
    refine WL.val (OV.pickT rfl rfl) rfl ?_
    refine WL.val (OV.assign rfl) rfl ?_
    refine WL.nil ?_
    refine WX.next ?_
    refine WC.cond rfl (fun c3 => ?_) (fun c3 => ?_)
    · simp only [decide_eq_true_eq, decide_eq_false_iff_not, Bool.not_eq_true', Bool.not_eq_false'] at c3
      refine WC.seq ?_
      refine WC.region ?_
      refine WL.val (OV.move rfl) rfl ?_
      refine WL.val (OV.subU8 rfl rfl (by omega)) rfl ?_
      first
      | (refine WL.val (OV.conv8_32 T.u5 T.u3 rfl) rfl ?_)
      | (refine WL.val (OV.conv32_8 T.u5 T.u3 rfl) rfl ?_)
      | (refine WL.val (OV.convI T.u5 T.u3 rfl (by omega)) rfl ?_)
      | (refine WL.val (OV.convU64 T.u5 T.u3 rfl (by omega)) rfl ?_)
      | (refine WL.val (OV.conv T.u5 T.u3 rfl) rfl ?_)
      refine WL.val (OV.assign rfl) rfl ?_
      refine WL.nil ?_
      refine WX.next ?_
      refine WC.ret ?_
      refine WX.block_ret ?_
      refine WX.then_ret ?_
      exact WX.ret1 rfl rfl rfl (fun w hw => ⟨by congr 2; unfold valueS; (repeat' split) <;> omega, hw.fr⟩)
    · simp only [decide_eq_true_eq, decide_eq_false_iff_not, Bool.not_eq_true', Bool.not_eq_false'] at c3
      refine WC.seq ?_
      refine WC.region ?_
      refine WL.val (OV.move rfl) rfl ?_
      refine WL.val (OV.geq rfl rfl) rfl ?_
      refine WL.val (OV.move rfl) rfl ?_
      refine WL.split (t := 16) rfl (fun g16 => ?_) (fun g16 => ?_)
      · simp only [decide_eq_true_eq, decide_eq_false_iff_not, Bool.not_eq_true', Bool.not_eq_false'] at g16
        refine WL.go (b := true) rfl rfl rfl ?_
        refine WL.val (OV.move rfl) rfl ?_
        refine WL.go (b := true) rfl rfl rfl ?_
        refine WL.val (OV.leq rfl rfl) rfl ?_
        refine WL.val (OV.pickT rfl rfl) rfl ?_
        refine WL.val (OV.assign rfl) rfl ?_
        refine WL.nil ?_
        refine WX.next ?_
        refine WC.cond rfl (fun c13 => ?_) (fun c13 => ?_)
        · simp only [decide_eq_true_eq, decide_eq_false_iff_not, Bool.not_eq_true', Bool.not_eq_false'] at c13
          refine WC.seq ?_
          refine WC.region ?_
          refine WL.val (OV.move rfl) rfl ?_
          refine WL.val (OV.subU8 rfl rfl (by omega)) rfl ?_
          first
          | (refine WL.val (OV.conv8_32 T.u5 T.u3 rfl) rfl ?_)
          | (refine WL.val (OV.conv32_8 T.u5 T.u3 rfl) rfl ?_)
          | (refine WL.val (OV.convI T.u5 T.u3 rfl (by omega)) rfl ?_)
          | (refine WL.val (OV.convU64 T.u5 T.u3 rfl (by omega)) rfl ?_)
          | (refine WL.val (OV.conv T.u5 T.u3 rfl) rfl ?_)
          first
          | (refine WL.val (OV.addI rfl rfl (by omega)) rfl ?_)
          | (refine WL.val (OV.addW rfl rfl) rfl ?_)
          | (refine WL.val (OV.addB rfl rfl) rfl ?_)
          | (refine WL.val (OV.add rfl rfl) rfl ?_)
          refine WL.val (OV.assign rfl) rfl ?_
          refine WL.nil ?_
          refine WX.next ?_
          refine WC.ret ?_
          refine WX.block_ret ?_
          refine WX.then_ret ?_
          exact WX.ret1 rfl rfl rfl (fun w hw => ⟨by congr 2; unfold valueS; (repeat' split) <;> omega, hw.fr⟩)
        · simp only [decide_eq_true_eq, decide_eq_false_iff_not, Bool.not_eq_true', Bool.not_eq_false'] at c13
          refine WC.skip ?_
          refine WX.block_normal ?_
          refine WX.next ?_
          refine WC.seq ?_
          refine WC.region ?_
          refine WL.val (OV.assign rfl) rfl ?_
          refine WL.nil ?_
          refine WX.next ?_
          refine WC.ret ?_
          exact WX.ret1 rfl rfl rfl (fun w hw => ⟨by congr 2; unfold valueS; (repeat' split) <;> omega, hw.fr⟩)
      · simp only [decide_eq_true_eq, decide_eq_false_iff_not, Bool.not_eq_true', Bool.not_eq_false'] at g16
        refine WL.skip (b := false) rfl rfl rfl rfl ?_
        refine WL.skip (b := false) rfl rfl rfl rfl ?_
        refine WL.val (OV.pickF rfl rfl) rfl ?_
        refine WL.val (OV.assign rfl) rfl ?_
        refine WL.nil ?_
        refine WX.next ?_
        refine WC.condF rfl ?_
        refine WC.skip ?_
        refine WX.block_normal ?_
        refine WX.next ?_
        refine WC.seq ?_
        refine WC.region ?_
        refine WL.val (OV.assign rfl) rfl ?_
        refine WL.nil ?_
        refine WX.next ?_
        refine WC.ret ?_
        exact WX.ret1 rfl rfl rfl (fun w hw => ⟨by congr 2; unfold valueS; (repeat' split) <;> omega, hw.fr⟩)
  · simp only [decide_eq_true_eq, decide_eq_false_iff_not, Bool.not_eq_true', Bool.not_eq_false'] at g6
    refine WL.skip (b := false) rfl rfl rfl rfl ?_
    refine WL.skip (b := false) rfl rfl rfl rfl ?_
    refine WL.val (OV.pickF rfl rfl) rfl ?_
    refine WL.val (OV.assign rfl) rfl ?_
    refine WL.nil ?_
    refine WX.next ?_
    refine WC.condF rfl ?_
    refine WC.seq ?_
    refine WC.region ?_
    refine WL.val (OV.move rfl) rfl ?_
    refine WL.val (OV.geq rfl rfl) rfl ?_
    refine WL.val (OV.move rfl) rfl ?_
    refine WL.split (t := 16) rfl (fun g16 => ?_) (fun g16 => ?_)
    · simp only [decide_eq_true_eq, decide_eq_false_iff_not, Bool.not_eq_true', Bool.not_eq_false'] at g16
      refine WL.go (b := true) rfl rfl rfl ?_
      refine WL.val (OV.move rfl) rfl ?_
      refine WL.go (b := true) rfl rfl rfl ?_
      refine WL.val (OV.leq rfl rfl) rfl ?_
      refine WL.val (OV.pickT rfl rfl) rfl ?_
      refine WL.val (OV.assign rfl) rfl ?_
      refine WL.nil ?_
      refine WX.next ?_
      refine WC.cond rfl (fun c13 => ?_) (fun c13 => ?_)
      · simp only [decide_eq_true_eq, decide_eq_false_iff_not, Bool.not_eq_true', Bool.not_eq_false'] at c13
        refine WC.seq ?_
        refine WC.region ?_
        refine WL.val (OV.move rfl) rfl ?_
        refine WL.val (OV.subU8 rfl rfl (by omega)) rfl ?_
        first
        | (refine WL.val (OV.conv8_32 T.u5 T.u3 rfl) rfl ?_)
        | (refine WL.val (OV.conv32_8 T.u5 T.u3 rfl) rfl ?_)
        | (refine WL.val (OV.convI T.u5 T.u3 rfl (by omega)) rfl ?_)
        | (refine WL.val (OV.convU64 T.u5 T.u3 rfl (by omega)) rfl ?_)
        | (refine WL.val (OV.conv T.u5 T.u3 rfl) rfl ?_)
        first
        | (refine WL.val (OV.addI rfl rfl (by omega)) rfl ?_)
        | (refine WL.val (OV.addW rfl rfl) rfl ?_)
        | (refine WL.val (OV.addB rfl rfl) rfl ?_)
        | (refine WL.val (OV.add rfl rfl) rfl ?_)
        refine WL.val (OV.assign rfl) rfl ?_
        refine WL.nil ?_
        refine WX.next ?_
        refine WC.ret ?_
        refine WX.block_ret ?_
        refine WX.then_ret ?_
        exact WX.ret1 rfl rfl rfl (fun w hw => ⟨by congr 2; unfold valueS; (repeat' split) <;> omega, hw.fr⟩)
      · simp only [decide_eq_true_eq, decide_eq_false_iff_not, Bool.not_eq_true', Bool.not_eq_false'] at c13
        refine WC.skip ?_
        refine WX.block_normal ?_
        refine WX.next ?_
        refine WC.seq ?_
        refine WC.region ?_
        refine WL.val (OV.assign rfl) rfl ?_
        refine WL.nil ?_
        refine WX.next ?_
        refine WC.ret ?_
        exact WX.ret1 rfl rfl rfl (fun w hw => ⟨by congr 2; unfold valueS; (repeat' split) <;> omega, hw.fr⟩)
    · simp only [decide_eq_true_eq, decide_eq_false_iff_not, Bool.not_eq_true', Bool.not_eq_false'] at g16
      refine WL.skip (b := false) rfl rfl rfl rfl ?_
      refine WL.skip (b := false) rfl rfl rfl rfl ?_
      refine WL.val (OV.pickF rfl rfl) rfl ?_
      refine WL.val (OV.assign rfl) rfl ?_
      refine WL.nil ?_
      refine WX.next ?_
      refine WC.condF rfl ?_
      refine WC.skip ?_
      refine WX.block_normal ?_
      refine WX.next ?_
      refine WC.seq ?_
      refine WC.region ?_
      refine WL.val (OV.assign rfl) rfl ?_
      refine WL.nil ?_
      refine WX.next ?_
      refine WC.ret ?_
      exact WX.ret1 rfl rfl rfl (fun w hw => ⟨by congr 2; unfold valueS; (repeat' split) <;> omega, hw.fr⟩)

set_option maxRecDepth 10000 in
theorem hex_calls (D : List UInt8) (hD : D.length = 32) (w : World) : Calls Tryd.prog 20 #[.agg (u8s D).toArray] w fun e w' => e = .returned (.string ⟨(hexS D).toArray⟩) ∧ Fr0 w w' := by
  refine enterS (args := [.agg (u8s D).toArray]) (fun _ => False) Tryd.func20 rfl Tryd.ntmps20 rfl rfl ?_
  refine WC.seq ?_
  refine WC.region ?_
  refine WL.box rfl rfl rfl ?_
  intro b1
  refine WL.val (OV.assign rfl) rfl ?_
  refine WL.nil ?_
  refine WX.next ?_
  refine WC.seq ?_
  refine WC.region ?_
  refine WL.val (OV.assign rfl) rfl ?_
  refine WL.nil ?_
  refine WX.next ?_
  refine WC.seq ?_
  refine WC.seq ?_
  refine WC.region ?_
  refine WL.val (OV.loadN rfl T.u25 rfl (by rw [u8s_length, hD]; exact T.z25) (fun _ hw j v hj => by rw [add_off, Nat.zero_add]; exact own_cells hw (.head _) j v hj)) rfl ?_
  refine WL.val (OV.move rfl) rfl ?_
  refine WL.nil ?_
  refine WX.next ?_
  refine WC.block ?_
  refine WC.loop3 (fun (i : Nat) a c => [(6, .agg (u8s D).toArray), (3, .slice a (2 * i) c), (7, .int .i64 i)])
      (fun i a c w' => i ≤ 32 ∧ Sat w (fun _ => False) (fun b => b < w.heap.size) w [row 5 1 a (2 * i) c (u8s (hexS (D.take i))), own b1 (.cells (u8s D).toArray 25 (0, 0))] w')
      (fun i _ _ => 32 - i) 0 none 0 ⟨rfl, rfl, rfl, trivial⟩ (fun w' hw => ⟨by omega, Sat.rowNil 5 1 hw⟩) ?_
  intro i a c
  refine WC.pure (fun hi => ?_)
  refine WC.seq ?_
  refine WC.region ?_
  refine WL.val (OV.lss rfl rfl) rfl ?_
  refine WL.nil ?_
  refine WX.next ?_
  refine WC.seq ?_
  refine WC.cond rfl (fun c8 => ?_) (fun c8 => ?_)
  · simp only [decide_eq_true_eq, decide_eq_false_iff_not, Bool.not_eq_true', Bool.not_eq_false'] at c8
    refine WC.skip ?_
    refine WX.next ?_
    refine WC.seq ?_
    refine WC.block ?_
    refine WC.seq ?_
    refine WC.region ?_
    have hi' : i < D.length := by omega
    refine WL.val (OV.indexArrV rfl rfl T.u25 T.u5 rfl T.z5 ⟨by omega, by omega⟩ (u8s_get D hi')) rfl ?_
    refine WL.val (OV.assign rfl) rfl ?_
    refine WL.nil ?_
    refine WX.next ?_
    refine WC.drawnS (fun _ => True) (by kernel_rfl) (m := 10) rfl ?_
    refine WH.take 0 rfl (by kernel_rfl) (by kernel_rfl) (by kernel_rfl) (fun _ _ => trivial) (OV.move rfl) rfl (listed' := [true, false, false, false, false, false, false, false, false, false]) rfl ?_
    refine WH.take 1 rfl (by kernel_rfl) (by kernel_rfl) (by kernel_rfl) (fun _ _ => trivial) (OV.move rfl) rfl (listed' := [true, true, false, false, false, false, false, false, false, false]) rfl ?_
    refine WH.take 2 rfl (by kernel_rfl) (by kernel_rfl) (by kernel_rfl) (fun _ _ => trivial) (OV.shrB (m := 4) rfl rfl rfl) rfl (listed' := [true, true, true, false, false, false, false, false, false, false]) rfl ?_
    refine WH.take 3 rfl (by kernel_rfl) (by kernel_rfl) (by kernel_rfl) (fun _ _ => trivial) (OV.indexStr (r := digU (D[i] >>> (4 : UInt8))) rfl rfl T.u9 ⟨by omega, digits_get _ (by exact shr4 _)⟩) rfl (listed' := [true, true, true, true, false, false, false, false, false, false]) rfl ?_
    refine WH.take 4 rfl (by kernel_rfl) (by kernel_rfl) (by kernel_rfl) (fun _ _ => trivial) (OV.move rfl) rfl (listed' := [true, true, true, true, true, false, false, false, false, false]) rfl ?_
    refine WH.take 5 rfl (by kernel_rfl) (by kernel_rfl) (by kernel_rfl) (fun _ _ => trivial) (OV.andB (b := 15) rfl rfl) rfl (listed' := [true, true, true, true, true, true, false, false, false, false]) rfl ?_
    refine WH.take 6 rfl (by kernel_rfl) (by kernel_rfl) (by kernel_rfl) (fun _ _ => trivial) (OV.indexStr (r := digU (D[i] &&& (15 : UInt8))) rfl rfl T.u9 ⟨by omega, digits_get _ (by exact and15 _)⟩) rfl (listed' := [true, true, true, true, true, true, true, false, false, false]) rfl ?_
    refine WH.only 7 rfl (by kernel_rfl) (listed' := [true, true, true, true, true, true, true, true, false, false]) rfl ?_
    refine WL.buildSlice2 T.u22 T.z5 T.zr5 rfl rfl rfl rfl rfl ?_
    intro b17
    refine WL.nil ?_
    refine WX.cont (fun _ _ => trivial) ?_
    refine WH.only 8 rfl (by kernel_rfl) (listed' := [true, true, true, true, true, true, true, true, true, false]) rfl ?_
    refine WL.focus perm1 (WL.append rfl rfl T.apB (fun _ _ => own_src (.tail _ (.head _)) rfl) (by simp [Value.oneCell']) ⟨by omega, by unfold maxLen; omega⟩ rfl ?_)
    intro a18 c18
    refine WL.nil ?_
    refine WX.cont (fun _ _ => trivial) ?_
    refine WH.take 9 rfl (by kernel_rfl) (by kernel_rfl) (by kernel_rfl) (fun _ _ => trivial) (OV.assign rfl) rfl (listed' := [true, true, true, true, true, true, true, true, true, true]) rfl ?_
    refine WH.done (by kernel_rfl) ?_
    refine WX.block_normal ?_
    refine WX.next ?_
    refine WC.region ?_
    first
    | (refine WL.val (OV.addI rfl rfl (by omega)) rfl ?_)
    | (refine WL.val (OV.addW rfl rfl) rfl ?_)
    | (refine WL.val (OV.addB rfl rfl) rfl ?_)
    | (refine WL.val (OV.add rfl rfl) rfl ?_)
    refine WL.val (OV.move rfl) rfl ?_
    refine WL.nil ?_
    exact WX.round3 (i + 1) a18 c18 ⟨rfl, rfl, rfl, trivial⟩ (fun w' hw => ⟨by omega, by
      have e : u8s (hexS (D.take i)) ++ [b8 (digU (D[i] >>> (4 : UInt8))), b8 (digU (D[i] &&& (15 : UInt8)))] = u8s (hexS (D.take (i + 1))) := by
        exact hex_step D i hi'
      rw [e] at hw
      exact (hw.perm perm1).drop⟩) (by show 32 - (i + 1) < 32 - i; omega)
  · simp only [decide_eq_true_eq, decide_eq_false_iff_not, Bool.not_eq_true', Bool.not_eq_false'] at c8
    refine WC.exit ?_
    refine WX.then_exit ?_
    refine WX.then_exit ?_
    refine WX.block_hit ?_
    refine WX.next ?_
    refine WC.seq ?_
    refine WC.region ?_
    refine WL.val (OV.move rfl) rfl ?_
    have hi32 : i = 32 := by omega
    subst hi32
    rw [List.take_of_length_le (by omega)]
    refine WL.val (OV.bytesToStr (l := hexS D) rfl (fun _ hw => row_src (.head _) hw) T.u22 T.u5 T.u9) rfl ?_
    refine WL.val (OV.assign rfl) rfl ?_
    refine WL.nil ?_
    refine WX.next ?_
    refine WC.ret ?_
    exact WX.ret1 rfl rfl rfl (fun w hw => ⟨rfl, hw.fr⟩)

set_option maxRecDepth 10000 in
theorem fromHex_calls (s : ByteArray) (hs : s.size ≤ 140737488351232) (w : World) : Calls Tryd.prog 21 #[.string s] w fun e w' => ∃ D er, e = .returned (.tuple #[.agg (u8s D).toArray, .int .i64 er]) ∧ FH s.data.toList D er ∧ Fr0 w w' := by
  refine enterS (args := [.string s]) (fun _ => False) Tryd.func21 rfl Tryd.ntmps21 rfl rfl ?_
  refine WC.seq ?_
  refine WC.region ?_
  refine WL.alloc T.zr25 rfl ?_
  intro b2
  refine WL.val (OV.assign rfl) rfl ?_
  refine WL.nil ?_
  refine WX.next ?_
  refine WC.seq ?_
  refine WC.region ?_
  refine WL.alloc T.zr25 rfl ?_
  intro b4
  refine WL.nil ?_
  refine WX.next ?_
  refine WC.seq ?_
  refine WC.seq ?_
  refine WC.region ?_
  refine WL.val (OV.move rfl) rfl ?_
  first
  | (refine WL.val (OV.lenSlice rfl T.u9) rfl ?_)
  | (refine WL.val (OV.lenStr rfl T.u9) rfl ?_)
  refine WL.val (OV.neq rfl rfl) rfl ?_
  refine WL.nil ?_
  refine WX.next ?_
  refine WC.cond rfl (fun c10 => ?_) (fun c10 => ?_)
  · simp only [decide_eq_true_eq, decide_eq_false_iff_not, Bool.not_eq_true', Bool.not_eq_false'] at c10
    refine WC.seq ?_
    refine WC.region ?_
    refine WL.val (OV.build0 T.u25 T.zr25 T.z5) rfl ?_
    refine WL.focus perm1 (WL.storeAll (vs := u8s (List.replicate 32 0)) rfl rfl rfl T.z25 rfl ?_)
    refine WL.val (OV.assign rfl) rfl ?_
    refine WL.nil ?_
    refine WX.next ?_
    refine WC.ret ?_
    refine WX.then_ret ?_
    exact WX.retC2 (cs := u8s (List.replicate 32 0)) rfl rfl rfl rfl T.u25 rfl T.z25 (fun _ hw => own_cells hw (.head _)) (fun w hw => ⟨_, _, rfl, FH.wrong_len (by simp; omega), hw.fr⟩)
  · simp only [decide_eq_true_eq, decide_eq_false_iff_not, Bool.not_eq_true', Bool.not_eq_false'] at c10
    refine WC.skip ?_
    refine WX.next ?_
    refine WC.seq ?_
    refine WC.seq ?_
    refine WC.region ?_
    refine WL.val (OV.move rfl) rfl ?_
    refine WL.nil ?_
    refine WX.next ?_
    refine WC.block ?_
    have hlen : s.data.toList.length = 64 := by simp; omega
    refine WC.loop2 (fun (i : Nat) (acc : List UInt8) => [(0, .string s), (2, .pointer (some ⟨b2, 0, none⟩)), (4, .pointer (some ⟨b4, 0, none⟩)), (12, .int .i64 i)])
        (fun i acc w' => (i ≤ 32 ∧ acc.length = i ∧ hexS acc = s.data.toList.take (2 * i)) ∧ Sat w (fun _ => False) (fun b => b < w.heap.size) w [own b4 (.cells (u8s (acc ++ List.replicate (32 - i) 0)).toArray 25 (0, 0)), own b2 (.cells (u8s (List.replicate 32 0)).toArray 25 (0, 0))] w')
        (fun i _ => 32 - i) 0 [] ⟨rfl, rfl, rfl, rfl, trivial⟩ (fun w' hw => ⟨⟨by omega, rfl, rfl⟩, hw⟩) ?_
    intro i acc
    refine WC.pure (fun hi => ?_)
    obtain ⟨hi, hacc, hhex⟩ := hi
    refine WC.seq ?_
    refine WC.region ?_
    refine WL.val (OV.lss rfl rfl) rfl ?_
    refine WL.nil ?_
    refine WX.next ?_
    refine WC.seq ?_
    refine WC.cond rfl (fun c13 => ?_) (fun c13 => ?_)
    · simp only [decide_eq_true_eq, decide_eq_false_iff_not, Bool.not_eq_true', Bool.not_eq_false'] at c13
      refine WC.skip ?_
      refine WX.next ?_
      refine WC.seq ?_
      refine WC.block ?_
      refine WC.seq ?_
      refine WC.region ?_
      refine WL.val (OV.move rfl) rfl ?_
      refine WL.val (OV.assign rfl) rfl ?_
      refine WL.nil ?_
      refine WX.next ?_
      refine WC.seq ?_
      refine WC.drawnS (fun _ => True) (by kernel_rfl) (m := 13) rfl ?_
      refine WH.take 0 rfl (by kernel_rfl) (by kernel_rfl) (by kernel_rfl) (fun _ _ => trivial) (OV.move rfl) rfl (listed' := [true, false, false, false, false, false, false, false, false, false, false, false, false]) rfl ?_
      refine WH.take 1 rfl (by kernel_rfl) (by kernel_rfl) (by kernel_rfl) (fun _ _ => trivial) (OV.move rfl) rfl (listed' := [true, true, false, false, false, false, false, false, false, false, false, false, false]) rfl ?_
      first
      | (refine WH.take 2 rfl (by kernel_rfl) (by kernel_rfl) (by kernel_rfl) (fun _ _ => trivial) (OV.mulI rfl rfl (by omega)) rfl (listed' := [true, true, true, false, false, false, false, false, false, false, false, false, false]) rfl ?_)
      | (refine WH.take 2 rfl (by kernel_rfl) (by kernel_rfl) (by kernel_rfl) (fun _ _ => trivial) (OV.mulU64 rfl rfl (by omega)) rfl (listed' := [true, true, true, false, false, false, false, false, false, false, false, false, false]) rfl ?_)
      | (refine WH.take 2 rfl (by kernel_rfl) (by kernel_rfl) (by kernel_rfl) (fun _ _ => trivial) (OV.mulB (b := 2) rfl rfl) rfl (listed' := [true, true, true, false, false, false, false, false, false, false, false, false, false]) rfl ?_)
      | (refine WH.take 2 rfl (by kernel_rfl) (by kernel_rfl) (by kernel_rfl) (fun _ _ => trivial) (OV.mul rfl rfl) rfl (listed' := [true, true, true, false, false, false, false, false, false, false, false, false, false]) rfl ?_)
      have h1 : 2 * i < s.data.toList.length := by omega
      have h2 : 2 * i + 1 < s.data.toList.length := by omega
      obtain ⟨c1, hc1⟩ : ∃ c, c = s.data.toList[2 * i] := ⟨_, rfl⟩
      obtain ⟨c2, hc2⟩ : ∃ c, c = s.data.toList[2 * i + 1] := ⟨_, rfl⟩
      refine WH.take 3 rfl (by kernel_rfl) (by kernel_rfl) (by kernel_rfl) (fun _ _ => trivial) (OV.indexStr (r := c1) rfl rfl T.u9 ⟨by omega, by rw [hc1]; exact strGet s (2 * i) h1⟩) rfl (listed' := [true, true, true, true, false, false, false, false, false, false, false, false, false]) rfl ?_
      refine WH.take 5 rfl (by kernel_rfl) (by kernel_rfl) (by kernel_rfl) (fun _ _ => trivial) (OV.move rfl) rfl (listed' := [true, true, true, true, false, true, false, false, false, false, false, false, false]) rfl ?_
      refine WH.take 6 rfl (by kernel_rfl) (by kernel_rfl) (by kernel_rfl) (fun _ _ => trivial) (OV.move rfl) rfl (listed' := [true, true, true, true, false, true, true, false, false, false, false, false, false]) rfl ?_
      first
      | (refine WH.take 7 rfl (by kernel_rfl) (by kernel_rfl) (by kernel_rfl) (fun _ _ => trivial) (OV.mulI rfl rfl (by omega)) rfl (listed' := [true, true, true, true, false, true, true, true, false, false, false, false, false]) rfl ?_)
      | (refine WH.take 7 rfl (by kernel_rfl) (by kernel_rfl) (by kernel_rfl) (fun _ _ => trivial) (OV.mulU64 rfl rfl (by omega)) rfl (listed' := [true, true, true, true, false, true, true, true, false, false, false, false, false]) rfl ?_)
      | (refine WH.take 7 rfl (by kernel_rfl) (by kernel_rfl) (by kernel_rfl) (fun _ _ => trivial) (OV.mulB (b := 2) rfl rfl) rfl (listed' := [true, true, true, true, false, true, true, true, false, false, false, false, false]) rfl ?_)
      | (refine WH.take 7 rfl (by kernel_rfl) (by kernel_rfl) (by kernel_rfl) (fun _ _ => trivial) (OV.mul rfl rfl) rfl (listed' := [true, true, true, true, false, true, true, true, false, false, false, false, false]) rfl ?_)
      first
      | (refine WH.take 8 rfl (by kernel_rfl) (by kernel_rfl) (by kernel_rfl) (fun _ _ => trivial) (OV.addI rfl rfl (by omega)) rfl (listed' := [true, true, true, true, false, true, true, true, true, false, false, false, false]) rfl ?_)
      | (refine WH.take 8 rfl (by kernel_rfl) (by kernel_rfl) (by kernel_rfl) (fun _ _ => trivial) (OV.addW rfl rfl) rfl (listed' := [true, true, true, true, false, true, true, true, true, false, false, false, false]) rfl ?_)
      | (refine WH.take 8 rfl (by kernel_rfl) (by kernel_rfl) (by kernel_rfl) (fun _ _ => trivial) (OV.addB rfl rfl) rfl (listed' := [true, true, true, true, false, true, true, true, true, false, false, false, false]) rfl ?_)
      | (refine WH.take 8 rfl (by kernel_rfl) (by kernel_rfl) (by kernel_rfl) (fun _ _ => trivial) (OV.add rfl rfl) rfl (listed' := [true, true, true, true, false, true, true, true, true, false, false, false, false]) rfl ?_)
      refine WH.take 9 rfl (by kernel_rfl) (by kernel_rfl) (by kernel_rfl) (fun _ _ => trivial) (OV.indexStr (r := c2) rfl rfl T.u9 ⟨by omega, by rw [hc2]; exact strGet s (2 * i + 1) h2⟩) rfl (listed' := [true, true, true, true, false, true, true, true, true, true, false, false, false]) rfl ?_
      refine WH.only 4 rfl (by kernel_rfl) (listed' := [true, true, true, true, true, true, true, true, true, true, false, false, false]) rfl ?_
      refine WL.call0 (by kernel_rfl) rfl rfl (fun w' _ => value_calls c1 w') ?_
      refine WL.nil ?_
      refine WX.cont (fun _ _ => trivial) ?_
      refine WH.only 10 rfl (by kernel_rfl) (listed' := [true, true, true, true, true, true, true, true, true, true, true, false, false]) rfl ?_
      refine WL.call0 (by kernel_rfl) rfl rfl (fun w' _ => value_calls c2 w') ?_
      refine WL.nil ?_
      refine WX.cont (fun _ _ => trivial) ?_
      refine WH.take 11 rfl (by kernel_rfl) (by kernel_rfl) (by kernel_rfl) (fun _ _ => trivial) (OV.assign rfl) rfl (listed' := [true, true, true, true, true, true, true, true, true, true, true, true, false]) rfl ?_
      refine WH.take 12 rfl (by kernel_rfl) (by kernel_rfl) (by kernel_rfl) (fun _ _ => trivial) (OV.assign rfl) rfl (listed' := [true, true, true, true, true, true, true, true, true, true, true, true, true]) rfl ?_
      refine WH.done (by kernel_rfl) ?_
      refine WX.next ?_
      refine WC.seq ?_
      refine WC.seq ?_
      refine WC.region ?_
      refine WL.val (OV.move rfl) rfl ?_
      refine WL.val (OV.lss rfl rfl) rfl ?_
      refine WL.val (OV.move rfl) rfl ?_
      refine WL.split (t := 28) rfl (fun g28 => ?_) (fun g28 => ?_)
      · simp only [decide_eq_true_eq, decide_eq_false_iff_not, Bool.not_eq_true', Bool.not_eq_false'] at g28
        refine WL.skip (b := true) rfl rfl rfl rfl ?_
        refine WL.skip (b := true) rfl rfl rfl rfl ?_
        refine WL.val (OV.pickT rfl rfl) rfl ?_
        refine WL.nil ?_
        refine WX.next ?_
        refine WC.condT rfl ?_
        refine WC.seq ?_
        refine WC.region ?_
        refine WL.val (OV.build0 T.u25 T.zr25 T.z5) rfl ?_
        refine WL.focus perm1 (WL.storeAll (vs := u8s (List.replicate 32 0)) rfl rfl rfl T.z25 rfl ?_)
        refine WL.val (OV.assign rfl) rfl ?_
        refine WL.nil ?_
        refine WX.next ?_
        refine WC.ret ?_
        refine WX.then_ret ?_
        refine WX.block_ret ?_
        refine WX.then_ret ?_
        refine WX.then_ret ?_
        refine WX.block_ret ?_
        refine WX.then_ret ?_
        exact WX.retC2 (cs := u8s (List.replicate 32 0)) rfl rfl rfl rfl T.u25 rfl T.z25 (fun _ hw => own_cells hw (.head _)) (fun w hw => ⟨_, _, rfl, FH.wrong_digit h1 (by rw [← hc1]; omega), hw.fr⟩)
      · simp only [decide_eq_true_eq, decide_eq_false_iff_not, Bool.not_eq_true', Bool.not_eq_false'] at g28
        refine WL.go (b := false) rfl rfl rfl ?_
        refine WL.val (OV.move rfl) rfl ?_
        refine WL.go (b := false) rfl rfl rfl ?_
        refine WL.val (OV.lss rfl rfl) rfl ?_
        refine WL.val (OV.pickF rfl rfl) rfl ?_
        refine WL.nil ?_
        refine WX.next ?_
        refine WC.cond rfl (fun c31 => ?_) (fun c31 => ?_)
        · simp only [decide_eq_true_eq, decide_eq_false_iff_not, Bool.not_eq_true', Bool.not_eq_false'] at c31
          refine WC.seq ?_
          refine WC.region ?_
          refine WL.val (OV.build0 T.u25 T.zr25 T.z5) rfl ?_
          refine WL.focus perm1 (WL.storeAll (vs := u8s (List.replicate 32 0)) rfl rfl rfl T.z25 rfl ?_)
          refine WL.val (OV.assign rfl) rfl ?_
          refine WL.nil ?_
          refine WX.next ?_
          refine WC.ret ?_
          refine WX.then_ret ?_
          refine WX.block_ret ?_
          refine WX.then_ret ?_
          refine WX.then_ret ?_
          refine WX.block_ret ?_
          refine WX.then_ret ?_
          exact WX.retC2 (cs := u8s (List.replicate 32 0)) rfl rfl rfl rfl T.u25 rfl T.z25 (fun _ hw => own_cells hw (.head _)) (fun w hw => ⟨_, _, rfl, FH.wrong_digit h2 (by rw [← hc2]; omega), hw.fr⟩)
        · simp only [decide_eq_true_eq, decide_eq_false_iff_not, Bool.not_eq_true', Bool.not_eq_false'] at c31
          refine WC.skip ?_
          refine WX.next ?_
          refine WC.region ?_
          refine WL.val (OV.move rfl) rfl ?_
          refine WL.val (OV.move rfl) rfl ?_
          first
          | (refine WL.val (OV.shlW (m := 4) rfl rfl rfl) rfl ?_)
          | (refine WL.val (OV.shl rfl rfl (by decide)) rfl ?_)
          refine WL.val (OV.move rfl) rfl ?_
          first
          | (refine WL.val (OV.orW rfl rfl) rfl ?_)
          | (refine WL.val (OV.orB rfl rfl) rfl ?_)
          | (refine WL.val (OV.or rfl rfl) rfl ?_)
          refine WL.val ((OV.conv T.u3 T.u5 rfl).cast (u := b8 (decB c1 c2)) (by rw [show b8 (decB c1 c2) = Value.int .u8 ((decB c1 c2).toNat : Int) from rfl, ← dec_bits c1 c2 (by omega) (by omega)]; rfl)) rfl ?_
          have g1 : 0 ≤ valueS c1 := by omega
          have g2 : 0 ≤ valueS c2 := by omega
          refine WL.val (OV.indexArrN rfl rfl T.u25 T.z5 (by omega)) rfl ?_
          rw [hc1] at g1
          rw [hc2] at g2
          refine WL.store1 rfl rfl rfl T.z5 (by simp [u8s]; omega) ?_
          refine WL.nil ?_
          refine WX.block_normal ?_
          refine WX.next ?_
          refine WC.region ?_
          first
          | (refine WL.val (OV.addI rfl rfl (by omega)) rfl ?_)
          | (refine WL.val (OV.addW rfl rfl) rfl ?_)
          | (refine WL.val (OV.addB rfl rfl) rfl ?_)
          | (refine WL.val (OV.add rfl rfl) rfl ?_)
          refine WL.val (OV.move rfl) rfl ?_
          refine WL.nil ?_
          exact WX.round2 (i + 1) (acc ++ [decB c1 c2]) ⟨rfl, rfl, rfl, rfl, trivial⟩ (fun w' hw => ⟨⟨by omega, by simp [hacc], by rw [hc1, hc2]; exact dec_step hhex h1 h2 g1 g2⟩, by
            rw [set_next hacc (by omega)] at hw
            exact hw⟩) (by show 32 - (i + 1) < 32 - i; omega)
    · simp only [decide_eq_true_eq, decide_eq_false_iff_not, Bool.not_eq_true', Bool.not_eq_false'] at c13
      refine WC.exit ?_
      refine WX.then_exit ?_
      refine WX.then_exit ?_
      refine WX.block_hit ?_
      refine WX.next ?_
      refine WC.seq ?_
      refine WC.region ?_
      have hi32 : i = 32 := by omega
      subst hi32
      refine WL.val (OV.loadN (cs := u8s acc) rfl T.u25 rfl (by rw [u8s_length, hacc]; exact T.z25) (fun _ hw j v hj => by rw [add_off, Nat.zero_add]; exact own_cells hw (.head _) j v (by simpa using hj))) rfl ?_
      refine WL.focus perm1 (WL.storeAll (vs := u8s acc) rfl rfl (List.all_eq_true.2 (u8s_one _)) (by rw [u8s_length, hacc]; exact T.z25) (by rw [u8s_length, u8s_length, hacc]; rfl) ?_)
      refine WL.val (OV.assign rfl) rfl ?_
      refine WL.nil ?_
      refine WX.next ?_
      refine WC.ret ?_
      rw [List.take_of_length_le (by omega)] at hhex
      exact WX.retC2 (cs := u8s acc) rfl rfl rfl rfl T.u25 rfl (by rw [u8s_length, hacc]; exact T.z25) (fun _ hw => own_cells hw (.head _)) (fun w hw => ⟨_, _, rfl, .inl ⟨hacc, hhex, rfl⟩, hw.fr⟩)

theorem digits_getN (v : Nat) (h : v < 16) : (⟨#[48, 49, 50, 51, 52, 53, 54, 55, 56, 57, 97, 98, 99, 100, 101, 102]⟩ : ByteArray)[v]? = some (digN v) := by
  have e : (UInt8.ofNat v).toNat = v := by rw [UInt8.toNat_ofNat']; omega
  have := digits_get (UInt8.ofNat v) (by omega)
  rwa [e] at this
theorem strGetD (s : ByteArray) (k : Nat) (h : k < s.data.toList.length) : s[k]? = some (s.data.toList.getD k 0) := by
  rw [strGet s k h]; simp [List.getD, List.getElem?_eq_getElem h]

end Go.Proofs.YtplebagdajdcnaaDoor
