/- Contracts of functions of the program: what each returns and leaves in memory. Printed by gen.py and walk.py. -/
import Derived.Test.YtplebagdajdcnaaDoorL5
namespace Go.Proofs.YtplebagdajdcnaaDoor
open Go Go.Hw
set_option linter.unusedSimpArgs false
set_option linter.unusedVariables false
/-- The parts as they are laid: each with its length in eight bytes ahead. -/
def layP (ls : List (List UInt8)) : List UInt8 := ls.flatMap fun l => be8 l.length ++ l
def joinL (label : List UInt8) (ls : List (List UInt8)) : List UInt8 := be8 label.length ++ label ++ layP ls
theorem layP_snoc (ls : List (List UInt8)) (l : List UInt8) : layP (ls ++ [l]) = layP ls ++ (be8 l.length ++ l) := by simp [layP]
theorem layP_length_le {ls : List (List UInt8)} : ∀ i, (layP (ls.take i)).length ≤ (layP ls).length := by
  intro i
  have h : layP ls = layP (ls.take i) ++ layP (ls.drop i) := by rw [layP, layP, layP, ← List.flatMap_append, List.take_append_drop]
  rw [h, List.length_append]; omega
theorem joinL_next {label : List UInt8} {ls : List (List UInt8)} {i : Nat} (h : i < ls.length) : joinL label (ls.take i) ++ be8 (ls.getD i []).length ++ ls.getD i [] = joinL label (ls.take (i + 1)) := by
  have e : ls.take (i + 1) = ls.take i ++ [ls.getD i []] := by
    rw [List.take_add_one, List.getD_eq_getElem?_getD, List.getElem?_eq_getElem h]; rfl
  rw [e, joinL, joinL, layP_snoc]
  simp [List.append_assoc]
theorem joinL_le {label : List UInt8} {ls : List (List UInt8)} (i : Nat) : (joinL label (ls.take i)).length ≤ (joinL label ls).length := by
  have := layP_length_le (ls := ls) i
  simp only [joinL, List.length_append]; omega
theorem joinL_step_le {label : List UInt8} {ls : List (List UInt8)} {i : Nat} (h : i < ls.length) : (joinL label (ls.take i)).length + 8 + (ls.getD i []).length ≤ (joinL label ls).length := by
  have h1 := joinL_le (label := label) (ls := ls) (i + 1)
  rw [← joinL_next h] at h1
  simp only [List.length_append, be8_length] at h1
  omega

set_option maxRecDepth 10000 in
theorem parts_calls (label : ByteArray) (ls : List (List UInt8)) (a : Option Addr) (n c : Nat) (hsz : (joinL label.data.toList ls).length < 288230376151711744) (hn : n < 4611686018427387904) (w : World) (hls : RL w a n ls) (hF : Tab w 1 h0W) (hK : Tab w 3 kW) : Calls Tryd.prog 15 #[.string label, .slice a n c] w fun e w' => e = .returned (.agg (u8s (shaD (joinL label.data.toList ls))).toArray) ∧ Fr0 w w' := by
  refine enterS (args := [.string label, .slice a n c]) (fun _ => False) Tryd.func15 rfl Tryd.ntmps15 rfl rfl ?_
  refine WC.seq ?_
  refine WC.region ?_
  refine WL.alloc T.zr25 rfl ?_
  intro b4
  refine WL.nil ?_
  refine WX.next ?_
  refine WC.seq ?_
  refine WC.region ?_
  refine WL.callF (it := fun b => own b (.cells (HC [] (List.replicate 64 0)).toArray 71 (0, 0))) (by kernel_rfl) rfl rfl (fun w' hw => new_calls w' (hF.sat hw)) ?_
  intro bb8 _
  refine WL.val (OV.assign rfl) rfl ?_
  refine WL.nil ?_
  refine WX.next ?_
  refine WC.seq ?_
  refine WC.region ?_
  refine WL.val (OV.move rfl) rfl ?_
  refine WL.val (OV.move rfl) rfl ?_
  first
  | (refine WL.val (OV.lenSlice rfl T.u9) rfl ?_)
  | (refine WL.val (OV.lenStr rfl T.u9) rfl ?_)
  have hlab : label.data.toList.length = label.size := by rw [Array.length_toList]; rfl
  have hjl : label.size + 8 ≤ (joinL label.data.toList ls).length := by
    simp only [joinL, List.length_append, be8_length]; omega
  refine WL.val (OV.convU64 T.u3 T.u63 rfl (by omega)) rfl ?_
  refine WL.callF (it := fun b => own b (.cells (u8s (be8 label.size)).toArray 74 (0, 0))) (by kernel_rfl) rfl rfl (fun w' _ => (eight_calls label.size (by omega) w').mono (fun _ _ ⟨b, h1, h2, h3, h4⟩ => ⟨b, h1, trivial, h3, h4⟩)) (pp := fun _ => True) ?_
  intro b13 _
  refine WL.focus perm1 (WL.callM (ι := List UInt8) (vv := fun _ => .tuple #[]) (pp := fun p' => HP ([] ++ (be8 label.size)) p') (oo := fun p' => Obj.cells (HC ([] ++ (be8 label.size)) p').toArray 71) (by kernel_rfl) rfl rfl (fun w' hw => (write_calls [] (List.replicate 64 0) bb8 (be8 label.size) (some ⟨b13, 0, none⟩) 8 8 (by first | assumption | omega) (by simp) w' hp_nil (RB.of_own hw (.tail _ (.head _)) (be8_length _)) (fun q hq h0 => by
    simp only [Option.some.injEq] at hq
    subst hq
    exact fun h => hw.apart (j := own b13 _) (.head _) bb8 rfl h.symm) (hw.it _ (.head _)) (hK.ne (by decide) hw (.head _)) (hK.sat hw)).mono (fun _ _ ⟨x, h1, h2, h3, h4⟩ => ⟨x, h1, h2, h3, h4⟩)) ?_)
  intro p1 hp1
  rw [List.nil_append] at hp1
  rw [List.nil_append]
  refine WL.nil ?_
  refine WX.next ?_
  refine WC.seq ?_
  refine WC.region ?_
  refine WL.val (OV.move rfl) rfl ?_
  refine WL.val (OV.move rfl) rfl ?_
  refine WL.strToBytesC rfl T.u9 T.u22 T.u5 rfl ?_
  intro b17 cp17 pad17 hcp17
  refine WL.focus perm1 (WL.callM (ι := List UInt8) (vv := fun _ => .tuple #[]) (pp := fun p' => HP ((be8 label.size) ++ label.data.toList) p') (oo := fun p' => Obj.cells (HC ((be8 label.size) ++ label.data.toList) p').toArray 71) (by kernel_rfl) rfl rfl (fun w' hw => (write_calls (be8 label.size) p1 bb8 label.data.toList (some ⟨b17, 0, none⟩) label.size cp17 (hcp17) (by rw [be8_length]; omega) w' hp1 (Src.rb (own_srcP (.tail _ (.head _)) (by rw [u8s_length]; exact hlab)) hw) (fun q hq h0 => by
    simp only [Option.some.injEq] at hq
    subst hq
    exact fun h => hw.apart (j := own b17 _) (.head _) bb8 rfl h.symm) (hw.it _ (.head _)) (hK.ne (by decide) hw (.head _)) (hK.sat hw)).mono (fun _ _ ⟨x, h1, h2, h3, h4⟩ => ⟨x, h1, h2, h3, h4⟩)) ?_)
  intro p2 hp2
  rw [show be8 label.size ++ label.data.toList = joinL label.data.toList (ls.take 0) from by rw [joinL, List.take_zero, hlab]; simp [layP]] at hp2
  rw [show be8 label.size ++ label.data.toList = joinL label.data.toList (ls.take 0) from by rw [joinL, List.take_zero, hlab]; simp [layP]]
  refine WL.nil ?_
  refine WX.next ?_
  refine WC.seq ?_
  refine WC.seq ?_
  refine WC.region ?_
  refine WL.val (OV.move rfl) rfl ?_
  first
  | (refine WL.val (OV.lenSlice rfl T.u29) rfl ?_)
  | (refine WL.val (OV.lenStr rfl T.u29) rfl ?_)
  refine WL.val (OV.move rfl) rfl ?_
  refine WL.nil ?_
  refine WX.next ?_
  refine WC.block ?_
  refine WC.loop2 (fun (i : Nat) (p' : List UInt8) => [(4, .pointer (some ⟨b4, 0, none⟩)), (5, .pointer (some ⟨bb8, 0, none⟩)), (19, .slice a n c), (20, .int .i64 (n : Int)), (21, .int .i64 (i : Int))])
      (fun i p' w' => (i ≤ n ∧ HP (joinL label.data.toList (ls.take i)) p') ∧ Sat w (fun _ => False) (fun b => b < w.heap.size) w [own bb8 (.cells (HC (joinL label.data.toList (ls.take i)) p').toArray 71 (0, 0)), own b4 (.cells (u8s (List.replicate 32 0)).toArray 25 (0, 0))] w')
      (fun i _ => n - i) 0 p2 ⟨rfl, rfl, rfl, rfl, rfl, trivial⟩ (fun w' hw => ⟨⟨by omega, hp2⟩, hw.part (.cons_cons _ (.cons _ (.cons _ (.refl _))))⟩) ?_
  intro i p'
  refine WC.pure (fun hi => ?_)
  obtain ⟨hi, hp⟩ := hi
  refine WC.seq ?_
  refine WC.region ?_
  refine WL.val (OV.lss rfl rfl) rfl ?_
  refine WL.nil ?_
  refine WX.next ?_
  refine WC.seq ?_
  refine WC.cond rfl (fun c22 => ?_) (fun c22 => ?_)
  · simp only [decide_eq_true_eq, decide_eq_false_iff_not, Bool.not_eq_true', Bool.not_eq_false'] at c22
    refine WC.skip ?_
    refine WX.next ?_
    refine WC.seq ?_
    refine WC.block ?_
    refine WC.seq ?_
    refine WC.region ?_
    have hin : i < ls.length := by rw [hls.1]; omega
    obtain ⟨q, rfl⟩ := hls.some (by omega)
    obtain ⟨a', m', c', hcell, hrb, hmc⟩ := hls.get (i := i) (by omega)
    have hst := joinL_step_le (label := label.data.toList) hin
    have hrl := hrb.1
    refine WL.val (OV.indexSliceA (i := i) rfl rfl T.u29 T.z22 (by omega)) rfl ?_
    refine WL.val (OV.load1 rfl T.u22 rfl (fun _ hw => snapL hw hcell)) rfl ?_
    refine WL.val (OV.assign rfl) rfl ?_
    refine WL.nil ?_
    refine WX.next ?_
    refine WC.seq ?_
    refine WC.region ?_
    refine WL.val (OV.move rfl) rfl ?_
    refine WL.val (OV.move rfl) rfl ?_
    first
    | (refine WL.val (OV.lenSlice rfl T.u22) rfl ?_)
    | (refine WL.val (OV.lenStr rfl T.u22) rfl ?_)
    refine WL.val (OV.convU64 T.u3 T.u63 rfl (by omega)) rfl ?_
    refine WL.callF (it := fun b => own b (.cells (u8s (be8 (ls.getD i []).length)).toArray 74 (0, 0))) (by kernel_rfl) rfl rfl (fun w' _ => by rw [hrb.1]; exact (eight_calls m' (by omega) w').mono (fun _ _ ⟨b, h1, h2, h3, h4⟩ => ⟨b, h1, trivial, h3, h4⟩)) (pp := fun _ => True) ?_
    intro b29 _
    refine WL.focus perm1 (WL.callM (ι := List UInt8) (vv := fun _ => .tuple #[]) (pp := fun p' => HP ((joinL label.data.toList (ls.take i)) ++ (be8 (ls.getD i []).length)) p') (oo := fun p' => Obj.cells (HC ((joinL label.data.toList (ls.take i)) ++ (be8 (ls.getD i []).length)) p').toArray 71) (by kernel_rfl) rfl rfl (fun w' hw => (write_calls (joinL label.data.toList (ls.take i)) p' bb8 (be8 (ls.getD i []).length) (some ⟨b29, 0, none⟩) 8 8 (by first | assumption | omega) (by omega) w' hp (RB.of_own hw (.tail _ (.head _)) (be8_length _)) (fun q hq h0 => by
      simp only [Option.some.injEq] at hq
      subst hq
      exact fun h => hw.apart (j := own b29 _) (.head _) bb8 rfl h.symm) (hw.it _ (.head _)) (hK.ne (by decide) hw (.head _)) (hK.sat hw)).mono (fun _ _ ⟨x, h1, h2, h3, h4⟩ => ⟨x, h1, h2, h3, h4⟩)) ?_)
    intro p3 hp3
    refine WL.nil ?_
    refine WX.next ?_
    refine WC.region ?_
    refine WL.val (OV.move rfl) rfl ?_
    refine WL.val (OV.move rfl) rfl ?_
    refine (WL.callM (ι := List UInt8) (vv := fun _ => .tuple #[]) (pp := fun p' => HP ((joinL label.data.toList (ls.take i) ++ be8 (ls.getD i []).length) ++ (ls.getD i [])) p') (oo := fun p' => Obj.cells (HC ((joinL label.data.toList (ls.take i) ++ be8 (ls.getD i []).length) ++ (ls.getD i [])) p').toArray 71) (by kernel_rfl) rfl rfl (fun w' hw => (write_calls (joinL label.data.toList (ls.take i) ++ be8 (ls.getD i []).length) p3 bb8 (ls.getD i []) a' m' c' (by first | assumption | omega) (by rw [List.length_append, be8_length]; have := hrb.1; omega) w' hp3 (hrb.sat hw) (fun q hq h0 => own_ne_snap hw (.head _) (by subst hq; exact hrb.block h0)) (hw.it _ (.head _)) (hK.ne (by decide) hw (.head _)) (hK.sat hw)).mono (fun _ _ ⟨x, h1, h2, h3, h4⟩ => ⟨x, h1, h2, h3, h4⟩)) ?_)
    intro p4 hp4
    rw [joinL_next hin] at hp4
    rw [joinL_next hin]
    refine WL.nil ?_
    refine WX.block_normal ?_
    refine WX.next ?_
    refine WC.region ?_
    refine WL.val (OV.addN (j := 1) rfl rfl (by omega)) rfl ?_
    refine WL.val (OV.move rfl) rfl ?_
    refine WL.nil ?_
    exact WX.round2 (i + 1) p4 ⟨rfl, rfl, rfl, rfl, rfl, trivial⟩ (fun w' hw => ⟨⟨by omega, hp4⟩, hw.part (.cons_cons _ (.cons _ (.refl _)))⟩) (by show n - (i + 1) < n - i; omega)
  · simp only [decide_eq_true_eq, decide_eq_false_iff_not, Bool.not_eq_true', Bool.not_eq_false'] at c22
    refine WC.exit ?_
    refine WX.then_exit ?_
    refine WX.then_exit ?_
    refine WX.block_hit ?_
    refine WX.next ?_
    refine WC.seq ?_
    refine WC.region ?_
    refine WL.val (OV.move rfl) rfl ?_
    rw [List.take_of_length_le (by rw [hls.1]; omega)] at hp ⊢
    refine WL.call0 (by kernel_rfl) rfl rfl (fun w' hw => hsum_calls (joinL label.data.toList ls) p' bb8 (by omega) w' hp (hw.it _ (.head _)) (hK.sat hw)) ?_
    refine WL.focus perm1 (WL.storeAll (vs := u8s (shaD (joinL label.data.toList ls))) rfl rfl (List.all_eq_true.2 (u8s_one _)) (by rw [u8s_length, shaD_length]; exact T.z25) (by rw [u8s_length, u8s_length, shaD_length]; rfl) ?_)
    refine WL.nil ?_
    refine WX.next ?_
    refine WC.ret ?_
    exact WX.retC (cs := u8s (shaD (joinL label.data.toList ls))) rfl rfl rfl T.u25 rfl (by rw [u8s_length, shaD_length]; exact T.z25) (fun _ hw => own_cells hw (.head _)) (fun w hw => ⟨rfl, hw.fr⟩)

end Go.Proofs.YtplebagdajdcnaaDoor
