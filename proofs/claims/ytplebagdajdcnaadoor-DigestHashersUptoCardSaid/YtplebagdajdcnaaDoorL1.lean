/- Contracts of functions of the program: what each returns and leaves in memory. Printed by gen.py and walk.py. -/
import Derived.Test.YtplebagdajdcnaaDoorS12
namespace Go.Proofs.YtplebagdajdcnaaDoor
open Go Go.Hw
set_option linter.unusedSimpArgs false
set_option linter.unusedVariables false
theorem RB.room {w : World} {a : Option Addr} {m : Nat} {l : List UInt8} (h : RB w a (m + 80) (roomL l)) (hl : l.length = m) : RB w a m l := by
  have h1 := h.take (k := m) (by omega)
  rw [roomL, List.take_append_of_le_length (by omega), List.take_of_length_le (by omega)] at h1
  exact h1
/-- What the package's variables hold. -/
structure Tabs (w : World) : Prop where
  rf : Tab w 0 h0W
  df : Tab w 1 h0W
  rk : Tab w 2 kW
  dk : Tab w 3 kW
theorem Tabs.sat {w w' : World} {ow : List Hw.Item} (h : Tabs w) (hw : Sat w (fun _ => False) (fun b => b < w.heap.size) w ow w') : Tabs w' := ⟨h.rf.sat hw, h.df.sat hw, h.rk.sat hw, h.dk.sat hw⟩

set_option maxRecDepth 10000 in
theorem sums_calls (l : List UInt8) (a : Option Addr) (m c : Nat) (hsz : m ≤ 140737488351232) (w : World) (hl : RB w a m l) (hT : Tabs w) : Calls Tryd.prog 3 #[.slice a m c] w fun e w' => e = .returned (.bool true) ∧ Fr0 w w' := by
  refine enterS (args := [.slice a m c]) (fun _ => False) Tryd.func3 rfl Tryd.ntmps3 rfl rfl ?_
  refine WC.seq ?_
  refine WC.region ?_
  refine WL.val (OV.assign rfl) rfl ?_
  refine WL.nil ?_
  refine WX.next ?_
  refine WC.seq ?_
  refine WC.region ?_
  refine WL.val (OV.move rfl) rfl ?_
  refine WL.callF (it := fun q : Option Addr × Nat => row 5 1 q.1 (m + 80) q.2 (u8s (roomL l))) (by kernel_rfl) rfl rfl (fun w' hw => roomy_calls l a m c (by omega) w' (hl.sat hw)) ?_
  rintro ⟨a6, c6⟩ _
  refine WL.val (OV.assign rfl) rfl ?_
  refine WL.nil ?_
  refine WX.next ?_
  refine WC.seq ?_
  refine WC.region ?_
  refine WL.val (OV.move rfl) rfl ?_
  refine WL.val (OV.move rfl) rfl ?_
  first
  | (refine WL.val (OV.lenSlice rfl T.u22) rfl ?_)
  | (refine WL.val (OV.lenStr rfl T.u22) rfl ?_)
  refine WL.know (fun w' hw => (RB.of_row hw (.head _)).2) (fun hc6 => ?_)
  refine WL.val (OV.sliceTo rfl T.u22 T.z5 rfl (by omega)) rfl ?_
  refine WL.call0 (by kernel_rfl) rfl rfl (fun w' hw => sum_calls l a6 m c6 (by omega) (by omega) w' (RB.room (RB.of_row hw (.head _)).1 hl.1) (hT.sat hw).df (hT.sat hw).dk) ?_
  refine WL.alloc T.zr25 rfl ?_
  intro b4
  refine WL.storeAll (vs := u8s (shaD l)) rfl rfl (List.all_eq_true.2 (u8s_one _)) (by rw [u8s_length, shaD_length]; exact T.z25) (by rw [u8s_length, u8s_length, shaD_length]; rfl) ?_
  refine WL.nil ?_
  refine WX.next ?_
  refine WC.seq ?_
  refine WC.drawnS (fun w' => ∀ j v, (u8s (shaD l))[j]? = some v → w'.cell? ⟨b4, j, none⟩ = some v) (by kernel_rfl) (m := 11) rfl ?_
  refine WH.take 0 rfl (by kernel_rfl) (by kernel_rfl) (by kernel_rfl) (fun _ hw => by first | exact own_cells hw (.head _) | exact own_cells hw (.tail _ (.head _))) (OV.loadN (cs := u8s (shaD l)) rfl T.u25 rfl (by rw [u8s_length, shaD_length _]; exact T.z25) (fun _ hw j v hj => by rw [add_off, Nat.zero_add]; exact hw j v hj)) rfl (listed' := [true, false, false, false, false, false, false, false, false, false, false]) rfl ?_
  refine WH.take 1 rfl (by kernel_rfl) (by kernel_rfl) (by kernel_rfl) (fun _ hw => by first | exact own_cells hw (.head _) | exact own_cells hw (.tail _ (.head _))) (OV.move rfl) rfl (listed' := [true, true, false, false, false, false, false, false, false, false, false]) rfl ?_
  refine WH.only 2 rfl (by kernel_rfl) (listed' := [true, true, true, false, false, false, false, false, false, false, false]) rfl ?_
  refine WL.call0 (by kernel_rfl) rfl rfl (fun w' hw => refSum_calls l a m c (by omega) w' (hl.sat hw) (hT.sat hw).rf (hT.sat hw).rk) ?_
  refine WL.nil ?_
  refine WX.cont (fun _ hw => by first | exact own_cells hw (.head _) | exact own_cells hw (.tail _ (.head _))) ?_
  first
  | (refine WH.take 3 rfl (by kernel_rfl) (by kernel_rfl) (by kernel_rfl) (fun _ hw => by first | exact own_cells hw (.head _) | exact own_cells hw (.tail _ (.head _))) (OV.eql rfl rfl) rfl (listed' := [true, true, true, true, false, false, false, false, false, false, false]) rfl ?_)
  | (refine WH.take 3 rfl (by kernel_rfl) (by kernel_rfl) (by kernel_rfl) (fun _ hw => by first | exact own_cells hw (.head _) | exact own_cells hw (.tail _ (.head _))) (OV.eqlA T.u25 T.u5 T.z5 (by kernel_rfl) rfl rfl (by first | exact shaD_length _ | exact hmacD_length _ _) (by first | exact shaD_length _ | exact hmacD_length _ _)) rfl (listed' := [true, true, true, true, false, false, false, false, false, false, false]) rfl ?_)
  refine WH.take 4 rfl (by kernel_rfl) (by kernel_rfl) (by kernel_rfl) (fun _ hw => by first | exact own_cells hw (.head _) | exact own_cells hw (.tail _ (.head _))) (OV.move rfl) rfl (listed' := [true, true, true, true, true, false, false, false, false, false, false]) rfl ?_
  refine WH.known (t := 16) (b := true) rfl (by simp) ?_
  refine WH.takeG 5 (b := true) rfl (by kernel_rfl) (by kernel_rfl) (by kernel_rfl) (fun _ hw => by first | exact own_cells hw (.head _) | exact own_cells hw (.tail _ (.head _))) rfl rfl rfl (OV.move rfl) rfl (listed' := [true, true, true, true, true, true, false, false, false, false, false]) rfl ?_
  refine WH.takeG 6 (b := true) rfl (by kernel_rfl) (by kernel_rfl) (by kernel_rfl) (fun _ hw => by first | exact own_cells hw (.head _) | exact own_cells hw (.tail _ (.head _))) rfl rfl rfl (OV.move rfl) rfl (listed' := [true, true, true, true, true, true, true, false, false, false, false]) rfl ?_
  refine WH.only 7 rfl (by kernel_rfl) (listed' := [true, true, true, true, true, true, true, true, false, false, false]) rfl ?_
  refine WL.go (b := true) rfl rfl rfl ?_
  refine WL.callF (it := fun q : Option Addr × Nat => row 5 1 q.1 (m + 80) q.2 (u8s (roomL l))) (by kernel_rfl) rfl rfl (fun w' hw => roomy_calls l a m c (by omega) w' (hl.sat hw)) ?_
  rintro ⟨a19, c19⟩ _
  refine WL.nil ?_
  refine WX.cont (fun _ hw => by first | exact own_cells hw (.head _) | exact own_cells hw (.tail _ (.head _))) ?_
  refine WH.only 8 rfl (by kernel_rfl) (listed' := [true, true, true, true, true, true, true, true, true, false, false]) rfl ?_
  refine WL.go (b := true) rfl rfl rfl ?_
  refine WL.call0 (by kernel_rfl) rfl rfl (fun w' hw => same_calls (roomL l) (roomL l) a6 a19 (m + 80) c6 (m + 80) c19 (by omega) w' (RB.of_row hw (.tail _ (.tail _ (.head _)))).1 (RB.of_row hw (.head _)).1) ?_
  refine WL.nil ?_
  refine WX.cont (fun _ hw => by first | exact own_cells hw (.head _) | exact own_cells hw (.tail _ (.head _))) ?_
  refine WH.take 9 rfl (by kernel_rfl) (by kernel_rfl) (by kernel_rfl) (fun _ hw => by first | exact own_cells hw (.head _) | exact own_cells hw (.tail _ (.head _))) (OV.pickT rfl rfl) rfl (listed' := [true, true, true, true, true, true, true, true, true, true, false]) rfl ?_
  refine WH.take 10 rfl (by kernel_rfl) (by kernel_rfl) (by kernel_rfl) (fun _ hw => by first | exact own_cells hw (.head _) | exact own_cells hw (.tail _ (.head _))) (OV.assign rfl) rfl (listed' := [true, true, true, true, true, true, true, true, true, true, true]) rfl ?_
  refine WH.done (by kernel_rfl) ?_
  refine WX.next ?_
  refine WC.ret ?_
  exact WX.ret1 rfl rfl rfl (fun w hw => ⟨by simp, hw.fr⟩)

end Go.Proofs.YtplebagdajdcnaaDoor
