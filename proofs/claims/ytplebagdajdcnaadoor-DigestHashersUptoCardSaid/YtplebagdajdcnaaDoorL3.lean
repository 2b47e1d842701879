/- Contracts of functions of the program: what each returns and leaves in memory. Printed by gen.py and walk.py. -/
import Derived.Test.YtplebagdajdcnaaDoorL2
import Derived.Test.YtplebagdajdcnaaDoorA1
namespace Go.Proofs.YtplebagdajdcnaaDoor
open Go Go.Hw
set_option linter.unusedSimpArgs false
set_option linter.unusedVariables false
theorem abcH : hexS (shaD [97, 98, 99]) = [98, 97, 55, 56, 49, 54, 98, 102, 56, 102, 48, 49, 99, 102, 101, 97, 52, 49, 52, 49, 52, 48, 100, 101, 53, 100, 97, 101, 50, 50, 50, 51, 98, 48, 48, 51, 54, 49, 97, 51, 57, 54, 49, 55, 55, 97, 57, 99, 98, 52, 49, 48, 102, 102, 54, 49, 102, 50, 48, 48, 49, 53, 97, 100] := by decide +kernel
theorem jefeH : hexS (hmacD [74, 101, 102, 101] [119, 104, 97, 116, 32, 100, 111, 32, 121, 97, 32, 119, 97, 110, 116, 32, 102, 111, 114, 32, 110, 111, 116, 104, 105, 110, 103, 63]) = [53, 98, 100, 99, 99, 49, 52, 54, 98, 102, 54, 48, 55, 53, 52, 101, 54, 97, 48, 52, 50, 52, 50, 54, 48, 56, 57, 53, 55, 53, 99, 55, 53, 97, 48, 48, 51, 102, 48, 56, 57, 100, 50, 55, 51, 57, 56, 51, 57, 100, 101, 99, 53, 56, 98, 57, 54, 52, 101, 99, 51, 56, 52, 51] := by decide +kernel

set_option maxRecDepth 10000 in
theorem head_calls (w : World) (hF : Tab w 1 h0W) (hK : Tab w 3 kW) : Calls Tryd.prog 19 #[] w fun e w' => e = .returned (.bool true) ∧ Fr0 w w' := by
  refine enterS (args := []) (fun _ => False) Tryd.func19 rfl Tryd.ntmps19 rfl rfl ?_
  refine WC.seq ?_
  refine WC.region ?_
  refine WL.val (OV.assign rfl) rfl ?_
  refine WL.nil ?_
  refine WX.next ?_
  refine WC.seq ?_
  refine WC.region ?_
  refine WL.buildSliceN (xs := [.const (.int .u8 97), .const (.int .u8 98), .const (.int .u8 99)]) (vs := u8s [97, 98, 99]) rfl T.u22 T.z5 T.zr5 rfl rfl rfl (by decide) rfl ?_
  intro b5
  refine WL.convSame rfl T.u22 T.u5 rfl ?_
  refine WL.call0 (by kernel_rfl) rfl rfl (fun w' hw => sum_calls [97, 98, 99] (some ⟨b5, 0, none⟩) 3 3 (by omega) (by omega) w' (RB.of_own hw (.head _) rfl) (hF.sat hw) (hK.sat hw)) ?_
  refine WL.alloc T.zr25 rfl ?_
  intro b1
  refine WL.storeAll (vs := u8s (shaD [97, 98, 99])) rfl rfl (List.all_eq_true.2 (u8s_one _)) (by rw [u8s_length, shaD_length]; exact T.z25) (by rw [u8s_length, u8s_length, shaD_length]; rfl) ?_
  refine WL.nil ?_
  refine WX.next ?_
  refine WC.seq ?_
  refine WC.region ?_
  refine WL.buildSliceN (xs := [.const (.int .u8 74), .const (.int .u8 101), .const (.int .u8 102), .const (.int .u8 101)]) (vs := u8s [74, 101, 102, 101]) rfl T.u22 T.z5 T.zr5 rfl rfl rfl (by decide) rfl ?_
  intro bb8
  refine WL.convSame rfl T.u22 T.u5 rfl ?_
  refine WL.buildSliceN (xs := [.const (.int .u8 119), .const (.int .u8 104), .const (.int .u8 97), .const (.int .u8 116), .const (.int .u8 32), .const (.int .u8 100), .const (.int .u8 111), .const (.int .u8 32), .const (.int .u8 121), .const (.int .u8 97), .const (.int .u8 32), .const (.int .u8 119), .const (.int .u8 97), .const (.int .u8 110), .const (.int .u8 116), .const (.int .u8 32), .const (.int .u8 102), .const (.int .u8 111), .const (.int .u8 114), .const (.int .u8 32), .const (.int .u8 110), .const (.int .u8 111), .const (.int .u8 116), .const (.int .u8 104), .const (.int .u8 105), .const (.int .u8 110), .const (.int .u8 103), .const (.int .u8 63)]) (vs := u8s [119, 104, 97, 116, 32, 100, 111, 32, 121, 97, 32, 119, 97, 110, 116, 32, 102, 111, 114, 32, 110, 111, 116, 104, 105, 110, 103, 63]) rfl T.u22 T.z5 T.zr5 rfl rfl rfl (by decide) rfl ?_
  intro b10
  refine WL.convSame rfl T.u22 T.u5 rfl ?_
  refine WL.call0 (by kernel_rfl) rfl rfl (fun w' hw => mac_calls [74, 101, 102, 101] [119, 104, 97, 116, 32, 100, 111, 32, 121, 97, 32, 119, 97, 110, 116, 32, 102, 111, 114, 32, 110, 111, 116, 104, 105, 110, 103, 63] (some ⟨bb8, 0, none⟩) (some ⟨b10, 0, none⟩) 4 4 28 28 (by omega) (by omega) (by omega) (by omega) w' (RB.of_own hw (.tail _ (.head _)) rfl) (RB.of_own hw (.head _) rfl) (hF.sat hw) (hK.sat hw)) ?_
  refine WL.alloc T.zr25 rfl ?_
  intro b2
  refine WL.storeAll (vs := u8s (hmacD [74, 101, 102, 101] [119, 104, 97, 116, 32, 100, 111, 32, 121, 97, 32, 119, 97, 110, 116, 32, 102, 111, 114, 32, 110, 111, 116, 104, 105, 110, 103, 63])) rfl rfl (List.all_eq_true.2 (u8s_one _)) (by rw [u8s_length, hmacD_length]; exact T.z25) (by rw [u8s_length, u8s_length, hmacD_length]; rfl) ?_
  refine WL.nil ?_
  refine WX.next ?_
  refine WC.seq ?_
  refine WC.region ?_
  refine WL.call0 (v := .tuple #[.agg (u8s (List.replicate 32 0)).toArray, .int .i64 11]) (by kernel_rfl) rfl rfl (fun w' hw => (fromHex_calls ⟨#[48]⟩ (by decide) w').mono (fun _ _ ⟨D, er, h1, h2, h3⟩ => by
    obtain ⟨rfl, rfl⟩ := h2.unique (FH.wrong_len (by decide))
    exact ⟨h1, h3⟩)) ?_
  refine WL.val (OV.move rfl) rfl ?_
  refine WL.val (OV.extract rfl rfl) rfl ?_
  refine WL.val (OV.extract rfl rfl) rfl ?_
  refine WL.alloc T.zr25 rfl ?_
  intro b3
  refine WL.storeAll (vs := u8s (List.replicate 32 0)) rfl rfl (List.all_eq_true.2 (u8s_one _)) T.z25 rfl ?_
  refine WL.val (OV.assign rfl) rfl ?_
  refine WL.nil ?_
  refine WX.next ?_
  refine WC.seq ?_
  refine WC.region ?_
  refine WL.val (OV.loadN (cs := u8s (shaD [97, 98, 99])) rfl T.u25 rfl (by rw [u8s_length, shaD_length]; exact T.z25) (fun _ hw j v hj => by rw [add_off, Nat.zero_add]; exact own_cells hw (.tail _ (.tail _ (.tail _ (.tail _ (.head _))))) j v hj)) rfl ?_
  refine WL.call0 (by kernel_rfl) rfl rfl (fun w' _ => hex_calls (shaD [97, 98, 99]) (shaD_length _) w') ?_
  first
  | (refine WL.val (OV.eql rfl rfl) rfl ?_)
  | (refine WL.val (OV.eqlS rfl rfl) rfl ?_)
  refine WL.val (OV.move rfl) rfl ?_
  refine WL.known (t := 20) (b := true) rfl (by first | (rw [abcH]; decide) | (rw [jefeH]; decide) | decide) ?_
  refine WL.go (b := true) rfl rfl rfl ?_
  refine WL.val (OV.loadN (cs := u8s (hmacD [74, 101, 102, 101] [119, 104, 97, 116, 32, 100, 111, 32, 121, 97, 32, 119, 97, 110, 116, 32, 102, 111, 114, 32, 110, 111, 116, 104, 105, 110, 103, 63])) rfl T.u25 rfl (by rw [u8s_length, hmacD_length]; exact T.z25) (fun _ hw j v hj => by rw [add_off, Nat.zero_add]; exact own_cells hw (.tail _ (.head _)) j v hj)) rfl ?_
  refine WL.go (b := true) rfl rfl rfl ?_
  refine WL.call0 (by kernel_rfl) rfl rfl (fun w' _ => hex_calls (hmacD [74, 101, 102, 101] [119, 104, 97, 116, 32, 100, 111, 32, 121, 97, 32, 119, 97, 110, 116, 32, 102, 111, 114, 32, 110, 111, 116, 104, 105, 110, 103, 63]) (hmacD_length _ _) w') ?_
  refine WL.go (b := true) rfl rfl rfl ?_
  first
  | (refine WL.val (OV.eql rfl rfl) rfl ?_)
  | (refine WL.val (OV.eqlS rfl rfl) rfl ?_)
  refine WL.val (OV.pickT rfl rfl) rfl ?_
  refine WL.val (OV.move rfl) rfl ?_
  refine WL.known (t := 25) (b := true) rfl (by first | (rw [abcH]; decide) | (rw [jefeH]; decide) | decide) ?_
  refine WL.go (b := true) rfl rfl rfl ?_
  refine WL.val (OV.move rfl) rfl ?_
  refine WL.go (b := true) rfl rfl rfl ?_
  first
  | (refine WL.val (OV.eql rfl rfl) rfl ?_)
  | (refine WL.val (OV.eqlS rfl rfl) rfl ?_)
  refine WL.val (OV.pickT rfl rfl) rfl ?_
  refine WL.val (OV.assign rfl) rfl ?_
  refine WL.nil ?_
  refine WX.next ?_
  refine WC.ret ?_
  exact WX.ret1 rfl rfl rfl (fun w hw => ⟨rfl, hw.fr⟩)

end Go.Proofs.YtplebagdajdcnaaDoor
