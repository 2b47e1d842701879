/- Contracts of functions of the program: what each returns and leaves in memory. Printed by gen.py and walk.py. -/
import Derived.Test.YtplebagdajdcnaaDoorS5
namespace Go.Proofs.YtplebagdajdcnaaDoor
open Go Go.Hw
set_option linter.unusedSimpArgs false
set_option linter.unusedVariables false
theorem Tab.ne {w w' : World} {ow : List Hw.Item} {g b : Nat} {l : List UInt32} (h : Tab w g l) (hl : 0 < l.length) (hw : Sat w (fun _ => False) (fun b => b < w.heap.size) w ow w') {o : Obj} (hm : own b o ∈ ow) : b ≠ g := by
  have h1 := (hw.lt _ hm b rfl).2.2.resolve_left (fun h => h)
  have h2 := h.lt hl
  omega

set_option maxRecDepth 10000 in
theorem len_calls (all part : List UInt8) (hb : Nat) (w : World) (hP : HP all part) (hc : w.heap[hb]? = some (.cells (HC all part).toArray 71 (0, 0))) : Calls Tryd.prog 24 #[.pointer (some ⟨hb, 0, none⟩)] w fun e w' => e = .returned (.int .i64 (all.length : Int)) ∧ Fr0 w w' := by
  refine enterS (args := [.pointer (some ⟨hb, 0, none⟩)]) (fun _ => False) Tryd.func24 rfl Tryd.ntmps24 rfl rfl ?_
  refine WC.seq ?_
  refine WC.region ?_
  refine WL.val (OV.assign rfl) rfl ?_
  refine WL.nil ?_
  refine WX.next ?_
  refine WC.seq ?_
  refine WC.region ?_
  refine WL.val (OV.move rfl) rfl ?_
  refine WL.val (OV.nilCheck rfl) rfl ?_
  first
  | (refine WL.val (OV.fieldAddr0 (off := 72) rfl T.u71 rfl) rfl ?_)
  | (refine WL.val (OV.fieldAddr (off := 72) rfl T.u71 rfl) rfl ?_)
  refine WL.val (OV.load1 rfl T.u3 rfl (fun _ hw => snapL hw (block_cell hc (by rw [← List.getElem?_toArray]; exact hc_n (foldB_length _ _ _) hP.1)))) rfl ?_
  refine WL.val (OV.assign rfl) rfl ?_
  refine WL.nil ?_
  refine WX.next ?_
  refine WC.ret ?_
  exact WX.ret1 rfl rfl rfl (fun w hw => ⟨rfl, hw.fr⟩)

set_option maxRecDepth 10000 in
theorem copy_calls (all part : List UInt8) (hb : Nat) (w : World) (hP : HP all part) (hc : w.heap[hb]? = some (.cells (HC all part).toArray 71 (0, 0))) : Calls Tryd.prog 27 #[.pointer (some ⟨hb, 0, none⟩)] w fun e w' => ∃ b, e = .returned (.pointer (some ⟨b, 0, none⟩)) ∧ True ∧ Fr0 w w' ∧ New w w' (own b (.cells (HC all part).toArray 71 (0, 0))) := by
  refine enterS (args := [.pointer (some ⟨hb, 0, none⟩)]) (fun _ => False) Tryd.func27 rfl Tryd.ntmps27 rfl rfl ?_
  refine WC.seq ?_
  refine WC.region ?_
  refine WL.val (OV.assign rfl) rfl ?_
  refine WL.nil ?_
  refine WX.next ?_
  refine WC.seq ?_
  refine WC.region ?_
  refine WL.val (OV.move rfl) rfl ?_
  refine WL.val (OV.nilCheck rfl) rfl ?_
  refine WL.val (OV.loadN (cs := HC all part) rfl T.u71 rfl (by rw [HC, hc_length (foldB_length _ _ _) hP.1]; exact T.z71) (fun _ hw j v hj => by rw [add_off, Nat.zero_add]; exact snapL hw (block_cell hc hj))) rfl ?_
  refine WL.alloc T.zr71 rfl ?_
  intro b3
  refine WL.storeAll (vs := HC all part) rfl rfl (hc_one (foldB_length _ _ _) hP.1) (by rw [HC, hc_length (foldB_length _ _ _) hP.1]; exact T.z71) (by rw [HC, hc_length (foldB_length _ _ _) hP.1]; simp [u8s_length, w32s_length]) ?_
  refine WL.nil ?_
  refine WX.next ?_
  refine WC.seq ?_
  refine WC.region ?_
  refine WL.val (OV.assign rfl) rfl ?_
  refine WL.nil ?_
  refine WX.next ?_
  refine WC.ret ?_
  exact WX.ret1 rfl rfl rfl (fun w hw => ⟨b3, rfl, trivial, hw.fr, hw.new0 (.head _)⟩)

set_option maxRecDepth 10000 in
theorem sum_calls (l : List UInt8) (a : Option Addr) (m c : Nat) (hm : m ≤ c) (hsz : m < 576460752303423488) (w : World) (hl : RB w a m l) (hF : Tab w 1 h0W) (hK : Tab w 3 kW) : Calls Tryd.prog 12 #[.slice a m c] w fun e w' => e = .returned (.agg (u8s (shaD l)).toArray) ∧ Fr0 w w' := by
  refine enterS (args := [.slice a m c]) (fun _ => False) Tryd.func12 rfl Tryd.ntmps12 rfl rfl ?_
  refine WC.seq ?_
  refine WC.region ?_
  refine WL.alloc T.zr25 rfl ?_
  intro b2
  refine WL.nil ?_
  refine WX.next ?_
  refine WC.seq ?_
  refine WC.region ?_
  refine WL.callF (it := fun b => own b (.cells (HC [] (List.replicate 64 0)).toArray 71 (0, 0))) (by kernel_rfl) rfl rfl (fun w' hw => new_calls w' (hF.sat hw)) ?_
  intro b4 _
  refine WL.val (OV.assign rfl) rfl ?_
  refine WL.nil ?_
  refine WX.next ?_
  refine WC.seq ?_
  refine WC.region ?_
  refine WL.val (OV.move rfl) rfl ?_
  refine WL.val (OV.move rfl) rfl ?_
  refine (WL.callM (ι := List UInt8) (vv := fun _ => .tuple #[]) (pp := fun p' => HP ([] ++ l) p') (oo := fun p' => Obj.cells (HC ([] ++ l) p').toArray 71) (by kernel_rfl) rfl rfl (fun w' hw => (write_calls [] (List.replicate 64 0) b4 l a m c (by first | assumption | omega) (by simp; omega) w' hp_nil (hl.sat hw) (fun q hq h0 => own_ne_snap hw (.head _) (by subst hq; exact hl.block h0)) (hw.it _ (.head _)) (hK.ne (by decide) hw (.head _)) (hK.sat hw)).mono (fun _ _ ⟨x, h1, h2, h3, h4⟩ => ⟨x, h1, h2, h3, h4⟩)) ?_)
  intro p hp
  rw [List.nil_append] at hp
  rw [List.nil_append]
  refine WL.nil ?_
  refine WX.next ?_
  refine WC.seq ?_
  refine WC.region ?_
  refine WL.val (OV.move rfl) rfl ?_
  refine WL.call0 (by kernel_rfl) rfl rfl (fun w' hw => hsum_calls l p b4 (by rw [hl.1]; omega) w' hp (hw.it _ (.head _)) (hK.sat hw)) ?_
  refine WL.focus perm1 (WL.storeAll (vs := u8s (shaD l)) rfl rfl (List.all_eq_true.2 (u8s_one _)) (by rw [u8s_length, shaD_length]; exact T.z25) (by rw [u8s_length, u8s_length, shaD_length]; rfl) ?_)
  refine WL.nil ?_
  refine WX.next ?_
  refine WC.ret ?_
  exact WX.retC (cs := u8s (shaD l)) rfl rfl rfl T.u25 rfl (by rw [u8s_length, shaD_length]; exact T.z25) (fun _ hw => own_cells hw (.head _)) (fun w hw => ⟨rfl, hw.fr⟩)

end Go.Proofs.YtplebagdajdcnaaDoor
