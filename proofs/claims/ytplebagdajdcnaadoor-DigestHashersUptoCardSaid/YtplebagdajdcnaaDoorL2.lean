/- Contracts of functions of the program: what each returns and leaves in memory. Printed by gen.py and walk.py. -/
import Derived.Test.YtplebagdajdcnaaDoorL1
namespace Go.Proofs.YtplebagdajdcnaaDoor
open Go Go.Hw
set_option linter.unusedSimpArgs false
set_option linter.unusedVariables false
set_option maxRecDepth 10000 in
theorem macs_calls (key l : List UInt8) (a a2 : Option Addr) (m c m2 c2 : Nat) (hsz : m ≤ 140737488351232) (hsz2 : m2 ≤ 140737488351232) (w : World) (hk : RB w a m key) (hl : RB w a2 m2 l) (hT : Tabs w) : Calls Tryd.prog 5 #[.slice a m c, .slice a2 m2 c2] w fun e w' => e = .returned (.bool true) ∧ Fr0 w w' := by
  refine enterS (args := [.slice a m c, .slice a2 m2 c2]) (fun _ => False) Tryd.func5 rfl Tryd.ntmps5 rfl rfl ?_
  refine WC.seq ?_
  refine WC.region ?_
  refine WL.val (OV.assign rfl) rfl ?_
  refine WL.nil ?_
  refine WX.next ?_
  refine WC.seq ?_
  refine WC.region ?_
  refine WL.val (OV.move rfl) rfl ?_
  refine WL.callF (it := fun q : Option Addr × Nat => row 5 1 q.1 (m + 80) q.2 (u8s (roomL key))) (by kernel_rfl) rfl rfl (fun w' hw => roomy_calls key a m c (by omega) w' (hk.sat hw)) ?_
  rintro ⟨a9, c9⟩ _
  refine WL.val (OV.assign rfl) rfl ?_
  refine WL.nil ?_
  refine WX.know (fun w' hw => (RB.of_row hw (.head _)).2) (fun hc9 => ?_)
  refine WX.next ?_
  refine WC.seq ?_
  refine WC.region ?_
  refine WL.val (OV.move rfl) rfl ?_
  refine WL.callF (it := fun q : Option Addr × Nat => row 5 1 q.1 (m2 + 80) q.2 (u8s (roomL l))) (by kernel_rfl) rfl rfl (fun w' hw => roomy_calls l a2 m2 c2 (by omega) w' (hl.sat hw)) ?_
  rintro ⟨a11, c11⟩ _
  refine WL.val (OV.assign rfl) rfl ?_
  refine WL.nil ?_
  refine WX.know (fun w' hw => (RB.of_row hw (.head _)).2) (fun hc11 => ?_)
  refine WX.next ?_
  refine WC.seq ?_
  refine WC.drawnS (fun _ => True) (by kernel_rfl) (m := 11) rfl ?_
  refine WH.take 0 rfl (by kernel_rfl) (by kernel_rfl) (by kernel_rfl) (fun _ _ => trivial) (OV.move rfl) rfl (listed' := [true, false, false, false, false, false, false, false, false, false, false]) rfl ?_
  refine WH.take 1 rfl (by kernel_rfl) (by kernel_rfl) (by kernel_rfl) (fun _ _ => trivial) (OV.move rfl) rfl (listed' := [true, true, false, false, false, false, false, false, false, false, false]) rfl ?_
  first
  | (refine WH.take 2 rfl (by kernel_rfl) (by kernel_rfl) (by kernel_rfl) (fun _ _ => trivial) (OV.lenSlice rfl T.u22) rfl (listed' := [true, true, true, false, false, false, false, false, false, false, false]) rfl ?_)
  | (refine WH.take 2 rfl (by kernel_rfl) (by kernel_rfl) (by kernel_rfl) (fun _ _ => trivial) (OV.lenStr rfl T.u22) rfl (listed' := [true, true, true, false, false, false, false, false, false, false, false]) rfl ?_)
  refine WH.take 3 rfl (by kernel_rfl) (by kernel_rfl) (by kernel_rfl) (fun _ _ => trivial) (OV.sliceTo rfl T.u22 T.z5 rfl (by omega)) rfl (listed' := [true, true, true, true, false, false, false, false, false, false, false]) rfl ?_
  refine WH.take 4 rfl (by kernel_rfl) (by kernel_rfl) (by kernel_rfl) (fun _ _ => trivial) (OV.move rfl) rfl (listed' := [true, true, true, true, true, false, false, false, false, false, false]) rfl ?_
  refine WH.take 5 rfl (by kernel_rfl) (by kernel_rfl) (by kernel_rfl) (fun _ _ => trivial) (OV.move rfl) rfl (listed' := [true, true, true, true, true, true, false, false, false, false, false]) rfl ?_
  first
  | (refine WH.take 6 rfl (by kernel_rfl) (by kernel_rfl) (by kernel_rfl) (fun _ _ => trivial) (OV.lenSlice rfl T.u22) rfl (listed' := [true, true, true, true, true, true, true, false, false, false, false]) rfl ?_)
  | (refine WH.take 6 rfl (by kernel_rfl) (by kernel_rfl) (by kernel_rfl) (fun _ _ => trivial) (OV.lenStr rfl T.u22) rfl (listed' := [true, true, true, true, true, true, true, false, false, false, false]) rfl ?_)
  refine WH.take 7 rfl (by kernel_rfl) (by kernel_rfl) (by kernel_rfl) (fun _ _ => trivial) (OV.sliceTo rfl T.u22 T.z5 rfl (by omega)) rfl (listed' := [true, true, true, true, true, true, true, true, false, false, false]) rfl ?_
  refine WH.two 8 9 rfl rfl (by kernel_rfl) (listed1 := [true, true, true, true, true, true, true, true, true, false, false]) (listed2 := [true, true, true, true, true, true, true, true, false, true, false]) rfl rfl ?_ ?_
  · refine WL.call0 (by kernel_rfl) rfl rfl (fun w' hw => mac_calls key l a9 a11 m c9 m2 c11 (by omega) (by omega) (by omega) (by omega) w' (RB.room (RB.of_row hw (.tail _ (.head _))).1 hk.1) (RB.room (RB.of_row hw (.head _)).1 hl.1) (hT.sat hw).df (hT.sat hw).dk) ?_
    refine WL.nil ?_
    refine WX.cont (fun _ _ => trivial) ?_
    refine WH.only 9 rfl (by kernel_rfl) (listed' := [true, true, true, true, true, true, true, true, true, true, false]) rfl ?_
    refine WL.alloc T.zr25 rfl ?_
    intro b7
    refine WL.nil ?_
    refine WX.cont (fun _ _ => trivial) ?_
    refine WH.only 10 rfl (by kernel_rfl) (listed' := [true, true, true, true, true, true, true, true, true, true, true]) rfl ?_
    refine WL.storeAll (vs := u8s (hmacD key l)) rfl rfl (List.all_eq_true.2 (u8s_one _)) (by rw [u8s_length, hmacD_length]; exact T.z25) (by rw [u8s_length, u8s_length, hmacD_length]; rfl) ?_
    refine WL.nil ?_
    refine WX.cont (fun _ _ => trivial) ?_
    refine WH.done (by kernel_rfl) ?_
    refine WX.next ?_
    refine WC.seq ?_
    refine WC.drawnS (fun w' => ∀ j v, (u8s (hmacD key l))[j]? = some v → w'.cell? ⟨b7, j, none⟩ = some v) (by kernel_rfl) (m := 18) rfl ?_
    refine WH.take 0 rfl (by kernel_rfl) (by kernel_rfl) (by kernel_rfl) (fun _ hw => by first | exact own_cells hw (.head _) | exact own_cells hw (.tail _ (.head _)) | exact own_cells hw (.tail _ (.tail _ (.head _)))) (OV.loadN (cs := u8s (hmacD key l)) rfl T.u25 rfl (by rw [u8s_length, hmacD_length _ _]; exact T.z25) (fun _ hw j v hj => by rw [add_off, Nat.zero_add]; exact hw j v hj)) rfl (listed' := [true, false, false, false, false, false, false, false, false, false, false, false, false, false, false, false, false, false]) rfl ?_
    refine WH.take 1 rfl (by kernel_rfl) (by kernel_rfl) (by kernel_rfl) (fun _ hw => by first | exact own_cells hw (.head _) | exact own_cells hw (.tail _ (.head _)) | exact own_cells hw (.tail _ (.tail _ (.head _)))) (OV.move rfl) rfl (listed' := [true, true, false, false, false, false, false, false, false, false, false, false, false, false, false, false, false, false]) rfl ?_
    refine WH.take 2 rfl (by kernel_rfl) (by kernel_rfl) (by kernel_rfl) (fun _ hw => by first | exact own_cells hw (.head _) | exact own_cells hw (.tail _ (.head _)) | exact own_cells hw (.tail _ (.tail _ (.head _)))) (OV.move rfl) rfl (listed' := [true, true, true, false, false, false, false, false, false, false, false, false, false, false, false, false, false, false]) rfl ?_
    refine WH.only 3 rfl (by kernel_rfl) (listed' := [true, true, true, true, false, false, false, false, false, false, false, false, false, false, false, false, false, false]) rfl ?_
    refine WL.call0 (by kernel_rfl) rfl rfl (fun w' hw => refMac_calls key l a a2 m c m2 c2 hsz hsz2 w' (hk.sat hw) (hl.sat hw) (hT.sat hw).rf (hT.sat hw).rk) ?_
    refine WL.nil ?_
    refine WX.cont (fun _ hw => by first | exact own_cells hw (.head _) | exact own_cells hw (.tail _ (.head _)) | exact own_cells hw (.tail _ (.tail _ (.head _)))) ?_
    first
    | (refine WH.take 4 rfl (by kernel_rfl) (by kernel_rfl) (by kernel_rfl) (fun _ hw => by first | exact own_cells hw (.head _) | exact own_cells hw (.tail _ (.head _)) | exact own_cells hw (.tail _ (.tail _ (.head _)))) (OV.eql rfl rfl) rfl (listed' := [true, true, true, true, true, false, false, false, false, false, false, false, false, false, false, false, false, false]) rfl ?_)
    | (refine WH.take 4 rfl (by kernel_rfl) (by kernel_rfl) (by kernel_rfl) (fun _ hw => by first | exact own_cells hw (.head _) | exact own_cells hw (.tail _ (.head _)) | exact own_cells hw (.tail _ (.tail _ (.head _)))) (OV.eqlA T.u25 T.u5 T.z5 (by kernel_rfl) rfl rfl (by first | exact shaD_length _ | exact hmacD_length _ _) (by first | exact shaD_length _ | exact hmacD_length _ _)) rfl (listed' := [true, true, true, true, true, false, false, false, false, false, false, false, false, false, false, false, false, false]) rfl ?_)
    refine WH.take 5 rfl (by kernel_rfl) (by kernel_rfl) (by kernel_rfl) (fun _ hw => by first | exact own_cells hw (.head _) | exact own_cells hw (.tail _ (.head _)) | exact own_cells hw (.tail _ (.tail _ (.head _)))) (OV.move rfl) rfl (listed' := [true, true, true, true, true, true, false, false, false, false, false, false, false, false, false, false, false, false]) rfl ?_
    refine WH.known (t := 26) (b := true) rfl (by simp) ?_
    refine WH.takeG 6 (b := true) rfl (by kernel_rfl) (by kernel_rfl) (by kernel_rfl) (fun _ hw => by first | exact own_cells hw (.head _) | exact own_cells hw (.tail _ (.head _)) | exact own_cells hw (.tail _ (.tail _ (.head _)))) rfl rfl rfl (OV.move rfl) rfl (listed' := [true, true, true, true, true, true, true, false, false, false, false, false, false, false, false, false, false, false]) rfl ?_
    refine WH.takeG 7 (b := true) rfl (by kernel_rfl) (by kernel_rfl) (by kernel_rfl) (fun _ hw => by first | exact own_cells hw (.head _) | exact own_cells hw (.tail _ (.head _)) | exact own_cells hw (.tail _ (.tail _ (.head _)))) rfl rfl rfl (OV.move rfl) rfl (listed' := [true, true, true, true, true, true, true, true, false, false, false, false, false, false, false, false, false, false]) rfl ?_
    refine WH.only 8 rfl (by kernel_rfl) (listed' := [true, true, true, true, true, true, true, true, true, false, false, false, false, false, false, false, false, false]) rfl ?_
    refine WL.go (b := true) rfl rfl rfl ?_
    refine WL.callF (it := fun q : Option Addr × Nat => row 5 1 q.1 (m + 80) q.2 (u8s (roomL key))) (by kernel_rfl) rfl rfl (fun w' hw => roomy_calls key a m c (by omega) w' (hk.sat hw)) ?_
    rintro ⟨a29, c29⟩ _
    refine WL.nil ?_
    refine WX.cont (fun _ hw => by first | exact own_cells hw (.head _) | exact own_cells hw (.tail _ (.head _)) | exact own_cells hw (.tail _ (.tail _ (.head _)))) ?_
    refine WH.only 9 rfl (by kernel_rfl) (listed' := [true, true, true, true, true, true, true, true, true, true, false, false, false, false, false, false, false, false]) rfl ?_
    refine WL.go (b := true) rfl rfl rfl ?_
    refine WL.call0 (by kernel_rfl) rfl rfl (fun w' hw => same_calls (roomL key) (roomL key) a9 a29 (m + 80) c9 (m + 80) c29 (by omega) w' (RB.of_row hw (.tail _ (.tail _ (.tail _ (.head _))))).1 (RB.of_row hw (.head _)).1) ?_
    refine WL.nil ?_
    refine WX.cont (fun _ hw => by first | exact own_cells hw (.head _) | exact own_cells hw (.tail _ (.head _)) | exact own_cells hw (.tail _ (.tail _ (.head _)))) ?_
    refine WH.take 10 rfl (by kernel_rfl) (by kernel_rfl) (by kernel_rfl) (fun _ hw => by first | exact own_cells hw (.head _) | exact own_cells hw (.tail _ (.head _)) | exact own_cells hw (.tail _ (.tail _ (.head _)))) (OV.pickT rfl rfl) rfl (listed' := [true, true, true, true, true, true, true, true, true, true, true, false, false, false, false, false, false, false]) rfl ?_
    refine WH.take 11 rfl (by kernel_rfl) (by kernel_rfl) (by kernel_rfl) (fun _ hw => by first | exact own_cells hw (.head _) | exact own_cells hw (.tail _ (.head _)) | exact own_cells hw (.tail _ (.tail _ (.head _)))) (OV.move rfl) rfl (listed' := [true, true, true, true, true, true, true, true, true, true, true, true, false, false, false, false, false, false]) rfl ?_
    refine WH.known (t := 32) (b := true) rfl (by simp) ?_
    refine WH.takeG 12 (b := true) rfl (by kernel_rfl) (by kernel_rfl) (by kernel_rfl) (fun _ hw => by first | exact own_cells hw (.head _) | exact own_cells hw (.tail _ (.head _)) | exact own_cells hw (.tail _ (.tail _ (.head _)))) rfl rfl rfl (OV.move rfl) rfl (listed' := [true, true, true, true, true, true, true, true, true, true, true, true, true, false, false, false, false, false]) rfl ?_
    refine WH.takeG 13 (b := true) rfl (by kernel_rfl) (by kernel_rfl) (by kernel_rfl) (fun _ hw => by first | exact own_cells hw (.head _) | exact own_cells hw (.tail _ (.head _)) | exact own_cells hw (.tail _ (.tail _ (.head _)))) rfl rfl rfl (OV.move rfl) rfl (listed' := [true, true, true, true, true, true, true, true, true, true, true, true, true, true, false, false, false, false]) rfl ?_
    refine WH.only 14 rfl (by kernel_rfl) (listed' := [true, true, true, true, true, true, true, true, true, true, true, true, true, true, true, false, false, false]) rfl ?_
    refine WL.go (b := true) rfl rfl rfl ?_
    refine WL.callF (it := fun q : Option Addr × Nat => row 5 1 q.1 (m2 + 80) q.2 (u8s (roomL l))) (by kernel_rfl) rfl rfl (fun w' hw => roomy_calls l a2 m2 c2 (by omega) w' (hl.sat hw)) ?_
    rintro ⟨a35, c35⟩ _
    refine WL.nil ?_
    refine WX.cont (fun _ hw => by first | exact own_cells hw (.head _) | exact own_cells hw (.tail _ (.head _)) | exact own_cells hw (.tail _ (.tail _ (.head _)))) ?_
    refine WH.only 15 rfl (by kernel_rfl) (listed' := [true, true, true, true, true, true, true, true, true, true, true, true, true, true, true, true, false, false]) rfl ?_
    refine WL.go (b := true) rfl rfl rfl ?_
    refine WL.call0 (by kernel_rfl) rfl rfl (fun w' hw => same_calls (roomL l) (roomL l) a11 a35 (m2 + 80) c11 (m2 + 80) c35 (by omega) w' (RB.of_row hw (.tail _ (.tail _ (.tail _ (.head _))))).1 (RB.of_row hw (.head _)).1) ?_
    refine WL.nil ?_
    refine WX.cont (fun _ hw => by first | exact own_cells hw (.head _) | exact own_cells hw (.tail _ (.head _)) | exact own_cells hw (.tail _ (.tail _ (.head _)))) ?_
    refine WH.take 16 rfl (by kernel_rfl) (by kernel_rfl) (by kernel_rfl) (fun _ hw => by first | exact own_cells hw (.head _) | exact own_cells hw (.tail _ (.head _)) | exact own_cells hw (.tail _ (.tail _ (.head _)))) (OV.pickT rfl rfl) rfl (listed' := [true, true, true, true, true, true, true, true, true, true, true, true, true, true, true, true, true, false]) rfl ?_
    refine WH.take 17 rfl (by kernel_rfl) (by kernel_rfl) (by kernel_rfl) (fun _ hw => by first | exact own_cells hw (.head _) | exact own_cells hw (.tail _ (.head _)) | exact own_cells hw (.tail _ (.tail _ (.head _)))) (OV.assign rfl) rfl (listed' := [true, true, true, true, true, true, true, true, true, true, true, true, true, true, true, true, true, true]) rfl ?_
    refine WH.done (by kernel_rfl) ?_
    refine WX.next ?_
    refine WC.ret ?_
    exact WX.ret1 rfl rfl rfl (fun w hw => ⟨by simp, hw.fr⟩)
  · refine WL.alloc T.zr25 rfl ?_
    intro b7
    refine WL.nil ?_
    refine WX.cont (fun _ _ => trivial) ?_
    refine WH.only 8 rfl (by kernel_rfl) (listed' := [true, true, true, true, true, true, true, true, true, true, false]) rfl ?_
    refine WL.call0 (by kernel_rfl) rfl rfl (fun w' hw => mac_calls key l a9 a11 m c9 m2 c11 (by omega) (by omega) (by omega) (by omega) w' (RB.room (RB.of_row hw (.tail _ (.tail _ (.head _)))).1 hk.1) (RB.room (RB.of_row hw (.tail _ (.head _))).1 hl.1) (hT.sat hw).df (hT.sat hw).dk) ?_
    refine WL.nil ?_
    refine WX.cont (fun _ _ => trivial) ?_
    refine WH.only 10 rfl (by kernel_rfl) (listed' := [true, true, true, true, true, true, true, true, true, true, true]) rfl ?_
    refine WL.storeAll (vs := u8s (hmacD key l)) rfl rfl (List.all_eq_true.2 (u8s_one _)) (by rw [u8s_length, hmacD_length]; exact T.z25) (by rw [u8s_length, u8s_length, hmacD_length]; rfl) ?_
    refine WL.nil ?_
    refine WX.cont (fun _ _ => trivial) ?_
    refine WH.done (by kernel_rfl) ?_
    refine WX.next ?_
    refine WC.seq ?_
    refine WC.drawnS (fun w' => ∀ j v, (u8s (hmacD key l))[j]? = some v → w'.cell? ⟨b7, j, none⟩ = some v) (by kernel_rfl) (m := 18) rfl ?_
    refine WH.take 0 rfl (by kernel_rfl) (by kernel_rfl) (by kernel_rfl) (fun _ hw => by first | exact own_cells hw (.head _) | exact own_cells hw (.tail _ (.head _)) | exact own_cells hw (.tail _ (.tail _ (.head _)))) (OV.loadN (cs := u8s (hmacD key l)) rfl T.u25 rfl (by rw [u8s_length, hmacD_length _ _]; exact T.z25) (fun _ hw j v hj => by rw [add_off, Nat.zero_add]; exact hw j v hj)) rfl (listed' := [true, false, false, false, false, false, false, false, false, false, false, false, false, false, false, false, false, false]) rfl ?_
    refine WH.take 1 rfl (by kernel_rfl) (by kernel_rfl) (by kernel_rfl) (fun _ hw => by first | exact own_cells hw (.head _) | exact own_cells hw (.tail _ (.head _)) | exact own_cells hw (.tail _ (.tail _ (.head _)))) (OV.move rfl) rfl (listed' := [true, true, false, false, false, false, false, false, false, false, false, false, false, false, false, false, false, false]) rfl ?_
    refine WH.take 2 rfl (by kernel_rfl) (by kernel_rfl) (by kernel_rfl) (fun _ hw => by first | exact own_cells hw (.head _) | exact own_cells hw (.tail _ (.head _)) | exact own_cells hw (.tail _ (.tail _ (.head _)))) (OV.move rfl) rfl (listed' := [true, true, true, false, false, false, false, false, false, false, false, false, false, false, false, false, false, false]) rfl ?_
    refine WH.only 3 rfl (by kernel_rfl) (listed' := [true, true, true, true, false, false, false, false, false, false, false, false, false, false, false, false, false, false]) rfl ?_
    refine WL.call0 (by kernel_rfl) rfl rfl (fun w' hw => refMac_calls key l a a2 m c m2 c2 hsz hsz2 w' (hk.sat hw) (hl.sat hw) (hT.sat hw).rf (hT.sat hw).rk) ?_
    refine WL.nil ?_
    refine WX.cont (fun _ hw => by first | exact own_cells hw (.head _) | exact own_cells hw (.tail _ (.head _)) | exact own_cells hw (.tail _ (.tail _ (.head _)))) ?_
    first
    | (refine WH.take 4 rfl (by kernel_rfl) (by kernel_rfl) (by kernel_rfl) (fun _ hw => by first | exact own_cells hw (.head _) | exact own_cells hw (.tail _ (.head _)) | exact own_cells hw (.tail _ (.tail _ (.head _)))) (OV.eql rfl rfl) rfl (listed' := [true, true, true, true, true, false, false, false, false, false, false, false, false, false, false, false, false, false]) rfl ?_)
    | (refine WH.take 4 rfl (by kernel_rfl) (by kernel_rfl) (by kernel_rfl) (fun _ hw => by first | exact own_cells hw (.head _) | exact own_cells hw (.tail _ (.head _)) | exact own_cells hw (.tail _ (.tail _ (.head _)))) (OV.eqlA T.u25 T.u5 T.z5 (by kernel_rfl) rfl rfl (by first | exact shaD_length _ | exact hmacD_length _ _) (by first | exact shaD_length _ | exact hmacD_length _ _)) rfl (listed' := [true, true, true, true, true, false, false, false, false, false, false, false, false, false, false, false, false, false]) rfl ?_)
    refine WH.take 5 rfl (by kernel_rfl) (by kernel_rfl) (by kernel_rfl) (fun _ hw => by first | exact own_cells hw (.head _) | exact own_cells hw (.tail _ (.head _)) | exact own_cells hw (.tail _ (.tail _ (.head _)))) (OV.move rfl) rfl (listed' := [true, true, true, true, true, true, false, false, false, false, false, false, false, false, false, false, false, false]) rfl ?_
    refine WH.known (t := 26) (b := true) rfl (by simp) ?_
    refine WH.takeG 6 (b := true) rfl (by kernel_rfl) (by kernel_rfl) (by kernel_rfl) (fun _ hw => by first | exact own_cells hw (.head _) | exact own_cells hw (.tail _ (.head _)) | exact own_cells hw (.tail _ (.tail _ (.head _)))) rfl rfl rfl (OV.move rfl) rfl (listed' := [true, true, true, true, true, true, true, false, false, false, false, false, false, false, false, false, false, false]) rfl ?_
    refine WH.takeG 7 (b := true) rfl (by kernel_rfl) (by kernel_rfl) (by kernel_rfl) (fun _ hw => by first | exact own_cells hw (.head _) | exact own_cells hw (.tail _ (.head _)) | exact own_cells hw (.tail _ (.tail _ (.head _)))) rfl rfl rfl (OV.move rfl) rfl (listed' := [true, true, true, true, true, true, true, true, false, false, false, false, false, false, false, false, false, false]) rfl ?_
    refine WH.only 8 rfl (by kernel_rfl) (listed' := [true, true, true, true, true, true, true, true, true, false, false, false, false, false, false, false, false, false]) rfl ?_
    refine WL.go (b := true) rfl rfl rfl ?_
    refine WL.callF (it := fun q : Option Addr × Nat => row 5 1 q.1 (m + 80) q.2 (u8s (roomL key))) (by kernel_rfl) rfl rfl (fun w' hw => roomy_calls key a m c (by omega) w' (hk.sat hw)) ?_
    rintro ⟨a29, c29⟩ _
    refine WL.nil ?_
    refine WX.cont (fun _ hw => by first | exact own_cells hw (.head _) | exact own_cells hw (.tail _ (.head _)) | exact own_cells hw (.tail _ (.tail _ (.head _)))) ?_
    refine WH.only 9 rfl (by kernel_rfl) (listed' := [true, true, true, true, true, true, true, true, true, true, false, false, false, false, false, false, false, false]) rfl ?_
    refine WL.go (b := true) rfl rfl rfl ?_
    refine WL.call0 (by kernel_rfl) rfl rfl (fun w' hw => same_calls (roomL key) (roomL key) a9 a29 (m + 80) c9 (m + 80) c29 (by omega) w' (RB.of_row hw (.tail _ (.tail _ (.tail _ (.head _))))).1 (RB.of_row hw (.head _)).1) ?_
    refine WL.nil ?_
    refine WX.cont (fun _ hw => by first | exact own_cells hw (.head _) | exact own_cells hw (.tail _ (.head _)) | exact own_cells hw (.tail _ (.tail _ (.head _)))) ?_
    refine WH.take 10 rfl (by kernel_rfl) (by kernel_rfl) (by kernel_rfl) (fun _ hw => by first | exact own_cells hw (.head _) | exact own_cells hw (.tail _ (.head _)) | exact own_cells hw (.tail _ (.tail _ (.head _)))) (OV.pickT rfl rfl) rfl (listed' := [true, true, true, true, true, true, true, true, true, true, true, false, false, false, false, false, false, false]) rfl ?_
    refine WH.take 11 rfl (by kernel_rfl) (by kernel_rfl) (by kernel_rfl) (fun _ hw => by first | exact own_cells hw (.head _) | exact own_cells hw (.tail _ (.head _)) | exact own_cells hw (.tail _ (.tail _ (.head _)))) (OV.move rfl) rfl (listed' := [true, true, true, true, true, true, true, true, true, true, true, true, false, false, false, false, false, false]) rfl ?_
    refine WH.known (t := 32) (b := true) rfl (by simp) ?_
    refine WH.takeG 12 (b := true) rfl (by kernel_rfl) (by kernel_rfl) (by kernel_rfl) (fun _ hw => by first | exact own_cells hw (.head _) | exact own_cells hw (.tail _ (.head _)) | exact own_cells hw (.tail _ (.tail _ (.head _)))) rfl rfl rfl (OV.move rfl) rfl (listed' := [true, true, true, true, true, true, true, true, true, true, true, true, true, false, false, false, false, false]) rfl ?_
    refine WH.takeG 13 (b := true) rfl (by kernel_rfl) (by kernel_rfl) (by kernel_rfl) (fun _ hw => by first | exact own_cells hw (.head _) | exact own_cells hw (.tail _ (.head _)) | exact own_cells hw (.tail _ (.tail _ (.head _)))) rfl rfl rfl (OV.move rfl) rfl (listed' := [true, true, true, true, true, true, true, true, true, true, true, true, true, true, false, false, false, false]) rfl ?_
    refine WH.only 14 rfl (by kernel_rfl) (listed' := [true, true, true, true, true, true, true, true, true, true, true, true, true, true, true, false, false, false]) rfl ?_
    refine WL.go (b := true) rfl rfl rfl ?_
    refine WL.callF (it := fun q : Option Addr × Nat => row 5 1 q.1 (m2 + 80) q.2 (u8s (roomL l))) (by kernel_rfl) rfl rfl (fun w' hw => roomy_calls l a2 m2 c2 (by omega) w' (hl.sat hw)) ?_
    rintro ⟨a35, c35⟩ _
    refine WL.nil ?_
    refine WX.cont (fun _ hw => by first | exact own_cells hw (.head _) | exact own_cells hw (.tail _ (.head _)) | exact own_cells hw (.tail _ (.tail _ (.head _)))) ?_
    refine WH.only 15 rfl (by kernel_rfl) (listed' := [true, true, true, true, true, true, true, true, true, true, true, true, true, true, true, true, false, false]) rfl ?_
    refine WL.go (b := true) rfl rfl rfl ?_
    refine WL.call0 (by kernel_rfl) rfl rfl (fun w' hw => same_calls (roomL l) (roomL l) a11 a35 (m2 + 80) c11 (m2 + 80) c35 (by omega) w' (RB.of_row hw (.tail _ (.tail _ (.tail _ (.head _))))).1 (RB.of_row hw (.head _)).1) ?_
    refine WL.nil ?_
    refine WX.cont (fun _ hw => by first | exact own_cells hw (.head _) | exact own_cells hw (.tail _ (.head _)) | exact own_cells hw (.tail _ (.tail _ (.head _)))) ?_
    refine WH.take 16 rfl (by kernel_rfl) (by kernel_rfl) (by kernel_rfl) (fun _ hw => by first | exact own_cells hw (.head _) | exact own_cells hw (.tail _ (.head _)) | exact own_cells hw (.tail _ (.tail _ (.head _)))) (OV.pickT rfl rfl) rfl (listed' := [true, true, true, true, true, true, true, true, true, true, true, true, true, true, true, true, true, false]) rfl ?_
    refine WH.take 17 rfl (by kernel_rfl) (by kernel_rfl) (by kernel_rfl) (fun _ hw => by first | exact own_cells hw (.head _) | exact own_cells hw (.tail _ (.head _)) | exact own_cells hw (.tail _ (.tail _ (.head _)))) (OV.assign rfl) rfl (listed' := [true, true, true, true, true, true, true, true, true, true, true, true, true, true, true, true, true, true]) rfl ?_
    refine WH.done (by kernel_rfl) ?_
    refine WX.next ?_
    refine WC.ret ?_
    exact WX.ret1 rfl rfl rfl (fun w hw => ⟨by simp, hw.fr⟩)

end Go.Proofs.YtplebagdajdcnaaDoor
