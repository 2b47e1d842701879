/- Contracts of functions of the program: what each returns and leaves in memory. Printed by gen.py and walk.py. -/
import Derived.Test.YtplebagdajdcnaaDoorP2
namespace Go.Proofs.YtplebagdajdcnaaDoor
open Go Go.Hw
set_option linter.unusedSimpArgs false
set_option linter.unusedVariables false
abbrev Rm := List UInt8 × Option Addr × Nat
def HFv (R : List Rm) : List Value := R.map fun r => .slice r.2.1 (r.1.length + 80) r.2.2
def HLv (R : List Rm) : List Value := R.map fun r => .slice r.2.1 r.1.length r.2.2
def RMi (R : List Rm) : List Hw.Item := R.map fun r => row 5 1 r.2.1 (r.1.length + 80) r.2.2 (u8s (roomL r.1))
theorem HFv_snoc (R : List Rm) (r : Rm) : HFv R ++ [.slice r.2.1 (r.1.length + 80) r.2.2] = HFv (R ++ [r]) := by simp [HFv]
theorem HLv_snoc (R : List Rm) (r : Rm) : HLv R ++ [.slice r.2.1 r.1.length r.2.2] = HLv (R ++ [r]) := by simp [HLv]
theorem RMi_snoc (R : List Rm) (r : Rm) : (RMi (R ++ [r])).Perm (row 5 1 r.2.1 (r.1.length + 80) r.2.2 (u8s (roomL r.1)) :: RMi R) := by
  rw [RMi, List.map_append]
  exact List.perm_append_singleton _ _
theorem RMi_mem {R : List Rm} {i : Nat} {r : Rm} (h : R[i]? = some r) : row 5 1 r.2.1 (r.1.length + 80) r.2.2 (u8s (roomL r.1)) ∈ RMi R := by
  rw [RMi, List.mem_map]
  exact ⟨r, List.mem_of_getElem? h, rfl⟩
theorem Rm_get {R : List Rm} {ls : List (List UInt8)} (h : R.map (·.1) = ls) {i : Nat} (hi : i < ls.length) : ∃ r, R[i]? = some r ∧ r.1 = ls.getD i [] := by
  subst h
  have hi' : i < R.length := by simpa using hi
  exact ⟨R[i], List.getElem?_eq_getElem hi', by simp [List.getD_eq_getElem?_getD, hi']⟩
theorem RL.of_rows {w0 ws w : World} {M I : Nat → Prop} {ow : List Hw.Item} (hw : Sat w0 M I ws ow w) {R : List Rm} {rest : List Value} {a : Option Addr} {m c : Nat} (hm : row 22 1 a m c (HLv R ++ rest) ∈ ow) (hsub : ∀ i ∈ RMi R, i ∈ ow) : RL w a R.length (R.map (·.1)) := by
  have hb := row_base hw hm
  have hlen : (HLv R).length = R.length := by simp [HLv]
  have hmm : R.length ≤ m := by have := hb.1; rw [List.length_append, hlen] at this; omega
  refine ⟨by simp, fun ha => ?_, fun q hq i hi => ?_⟩
  · rcases hb.2 with h | ⟨b, h, _⟩
    · omega
    · rw [ha] at h; cases h
  · subst hq
    obtain ⟨r, hr, hr1⟩ := Rm_get (R := R) rfl (i := i) (by simpa using hi)
    refine ⟨.slice r.2.1 r.1.length r.2.2, row_cells hw hm i _ ?_, ?_⟩
    · rw [List.getElem?_append_left (by rw [hlen]; exact hi), HLv, List.getElem?_map, hr]; rfl
    · have h1 := RB.of_row hw (hsub _ (RMi_mem hr))
      refine ⟨_, _, _, rfl, ?_, by omega⟩
      rw [← hr1]
      exact RB.room h1.1 rfl
theorem same_eq (l1 l2 : List UInt8) (he : l1 = l2) (a1 a2 : Option Addr) (m1 c1 m2 c2 : Nat) (hsz : m1 < 4611686018427387904 ∧ m2 < 4611686018427387904) (w : World) (h1 : RB w a1 m1 l1) (h2 : RB w a2 m2 l2) : Calls Tryd.prog 14 #[.slice a1 m1 c1, .slice a2 m2 c2] w fun e w' => e = .returned (.bool true) ∧ Fr0 w w' :=
  (same_calls l1 l2 a1 a2 m1 c1 m2 c2 hsz w h1 h2).mono (fun _ _ ⟨h, k⟩ => ⟨by rw [h, decide_eq_true he], k⟩)

set_option maxRecDepth 10000 in
theorem dparts_calls (label : ByteArray) (ls : List (List UInt8)) (a : Option Addr) (n c : Nat) (hsz : (joinL label.data.toList ls).length ≤ 1099511627776) (hn : n ≤ 1099511627776) (w : World) (hls : RL w a n ls) (hT : Tabs w) : Calls Tryd.prog 4 #[.string label, .slice a n c] w fun e w' => e = .returned (.bool true) ∧ Fr0 w w' := by
  refine enterS (args := [.string label, .slice a n c]) (fun _ => False) Tryd.func4 rfl Tryd.ntmps4 rfl rfl ?_
  refine WC.seq ?_
  refine WC.region ?_
  refine WL.val (OV.assign rfl) rfl ?_
  refine WL.nil ?_
  refine WX.next ?_
  refine WC.seq ?_
  refine WC.region ?_
  refine WL.val (OV.assign rfl) rfl ?_
  refine WL.nil ?_
  refine WX.next ?_
  refine WC.seq ?_
  refine WC.region ?_
  refine WL.val (OV.assign rfl) rfl ?_
  refine WL.nil ?_
  refine WX.next ?_
  refine WC.seq ?_
  refine WC.seq ?_
  refine WC.region ?_
  refine WL.val (OV.assign rfl) rfl ?_
  refine WL.nil ?_
  refine WX.next ?_
  refine WC.block ?_
  refine WC.nilRow 22 ?_
  refine WC.nilRow 22 ?_
  refine WC.loop6 (fun (i : Nat) (aF : Option Addr) (cF : Nat) (aL : Option Addr) (cL : Nat) (R : List Rm) => [(0, .string label), (1, .slice a n c), (5, .slice aL i cL), (6, .slice aF i cF), (7, .int .i64 (i : Int))])
      (fun i aF cF aL cL R w' => (i ≤ n ∧ R.map (·.1) = ls.take i) ∧ Sat w (fun _ => False) (fun b => b < w.heap.size) w (row 22 1 aF i cF (HFv R) :: row 22 1 aL i cL (HLv R) :: RMi R) w')
      (fun i _ _ _ _ _ => n - i) 0 none 0 none 0 [] ⟨rfl, rfl, rfl, rfl, rfl, trivial⟩ (fun w' hw => ⟨⟨by omega, by rw [List.take_zero]; rfl⟩, hw⟩) ?_
  intro i aF cF aL cL R
  refine WC.pure (fun hi => ?_)
  obtain ⟨hi, hR⟩ := hi
  have hlsn := hls.1
  refine WC.seq ?_
  refine WC.seq ?_
  refine WC.region ?_
  refine WL.val (OV.move rfl) rfl ?_
  refine WL.val (OV.move rfl) rfl ?_
  first
  | (refine WL.val (OV.lenSlice rfl T.u29) rfl ?_)
  | (refine WL.val (OV.lenStr rfl T.u29) rfl ?_)
  refine WL.val (OV.lss rfl rfl) rfl ?_
  refine WL.nil ?_
  refine WX.next ?_
  refine WC.cond rfl (fun c14 => ?_) (fun c14 => ?_)
  · simp only [decide_eq_true_eq, decide_eq_false_iff_not, Bool.not_eq_true', Bool.not_eq_false'] at c14
    refine WC.skip ?_
    refine WX.next ?_
    refine WC.seq ?_
    refine WC.block ?_
    refine WC.seq ?_
    refine WC.region ?_
    refine WL.val (OV.move rfl) rfl ?_
    refine WL.val (OV.move rfl) rfl ?_
    have hin : i < ls.length := by rw [hls.1]; omega
    obtain ⟨q, rfl⟩ := hls.some (by omega)
    obtain ⟨a', m', c', hcell, hrb, hmc⟩ := hls.get (i := i) (by omega)
    have hst := joinL_step_le (label := label.data.toList) hin
    have hrl := hrb.1
    refine WL.val (OV.indexSliceA (i := i) rfl rfl T.u29 T.z22 (by omega)) rfl ?_
    refine WL.val (OV.load1 rfl T.u22 rfl (fun _ hw => snapL hw hcell)) rfl ?_
    have hll := hrb.1
    refine WL.callF (it := fun q : Option Addr × Nat => row 5 1 q.1 (m' + 80) q.2 (u8s (roomL (ls.getD i [])))) (by kernel_rfl) rfl rfl (fun w' hw => roomy_calls (ls.getD i []) a' m' c' (by omega) w' (hrb.sat hw)) ?_
    rintro ⟨a21, c21⟩ _
    refine WL.know (fun w' hw => (RB.of_row hw (.head _)).2) (fun hc21 => ?_)
    refine WL.val (OV.assign rfl) rfl ?_
    refine WL.nil ?_
    refine WX.next ?_
    refine WC.seq ?_
    refine WC.region ?_
    refine WL.val (OV.move rfl) rfl ?_
    refine WL.val (OV.move rfl) rfl ?_
    refine WL.buildSlice1 T.u29 T.z22 T.zr22 rfl rfl rfl ?_
    intro bl24
    refine WL.focus perm2 (WL.append (bytes := 24) rfl rfl (by kernel_rfl) (fun _ hw => own_src (.tail _ (.head _)) rfl) (by intro u hu; simp only [List.mem_singleton] at hu; subst hu; rfl) (by simp only [maxLen]; omega) rfl ?_)
    intro a25 c25
    refine WL.val (OV.assign rfl) rfl ?_
    refine WL.nil ?_
    refine WX.next ?_
    refine WC.region ?_
    refine WL.val (OV.move rfl) rfl ?_
    refine WL.val (OV.move rfl) rfl ?_
    refine WL.val (OV.move rfl) rfl ?_
    refine WL.val (OV.move rfl) rfl ?_
    refine WL.val (OV.indexSliceA (i := i) rfl rfl T.u29 T.z22 (by omega)) rfl ?_
    refine WL.val (OV.load1 rfl T.u22 rfl (fun _ hw => snapL hw hcell)) rfl ?_
    first
    | (refine WL.val (OV.lenSlice rfl T.u22) rfl ?_)
    | (refine WL.val (OV.lenStr rfl T.u22) rfl ?_)
    refine WL.val (OV.sliceTo rfl T.u22 T.z5 rfl (by omega)) rfl ?_
    refine WL.buildSlice1 T.u29 T.z22 T.zr22 rfl rfl rfl ?_
    intro bl34
    refine WL.focus perm4 (WL.append (bytes := 24) rfl rfl (by kernel_rfl) (fun _ hw => own_src (.tail _ (.head _)) rfl) (by intro u hu; simp only [List.mem_singleton] at hu; subst hu; rfl) (by simp only [maxLen]; omega) rfl ?_)
    intro a35 c35
    refine WL.val (OV.assign rfl) rfl ?_
    refine WL.nil ?_
    refine WX.block_normal ?_
    refine WX.next ?_
    refine WC.region ?_
    refine WL.val (OV.move rfl) rfl ?_
    refine WL.val (OV.addN (j := 1) rfl rfl (by omega)) rfl ?_
    refine WL.val (OV.assign rfl) rfl ?_
    refine WL.nil ?_
    have hRi : R.length = i := by have := congrArg List.length hR; simp only [List.length_map, List.length_take] at this; omega
    exact WX.round6 (i + 1) a25 c25 a35 c35 (R ++ [(ls.getD i [], a21, c21)]) ⟨rfl, rfl, rfl, rfl, rfl, trivial⟩ (fun w' hw => ⟨⟨by omega, by
        rw [List.map_append, hR, List.take_add_one, List.getD_eq_getElem?_getD, List.getElem?_eq_getElem hin]; rfl⟩, by
      rw [← HFv_snoc, ← HLv_snoc]
      have h1 := hw.part (.cons_cons _ (.cons _ (.cons_cons _ (.cons _ (.cons_cons _ (.refl _))))))
      simp only [hrl]
      refine (h1.perm perm1).perm (.cons _ (.cons _ ?_))
      have h2 := RMi_snoc R (ls.getD i [], a21, c21)
      simp only [hrl] at h2
      exact h2⟩) (by show n - (i + 1) < n - i; omega)
  · simp only [decide_eq_true_eq, decide_eq_false_iff_not, Bool.not_eq_true', Bool.not_eq_false'] at c14
    refine WC.exit ?_
    refine WX.then_exit ?_
    refine WX.then_exit ?_
    refine WX.block_hit ?_
    refine WX.next ?_
    refine WC.seq ?_
    have hin : n = i := by omega
    subst hin
    rw [List.take_of_length_le (by omega)] at hR
    have hRn : R.length = n := by rw [← hlsn, ← hR, List.length_map]
    refine WC.region ?_
    refine WL.val (OV.move rfl) rfl ?_
    refine WL.buildSliceN (xs := [.const (.int .u8 109), .const (.int .u8 97), .const (.int .u8 114), .const (.int .u8 107)]) (vs := u8s [109, 97, 114, 107]) rfl T.u22 T.z5 T.zr5 rfl rfl rfl (by decide) rfl ?_
    intro b37
    refine WL.convSame rfl T.u22 T.u5 rfl ?_
    refine WL.buildSlice1 T.u29 T.z22 T.zr22 rfl rfl rfl ?_
    intro bl39
    refine WL.focus perm3 (WL.append (bytes := 24) rfl rfl (by kernel_rfl) (fun _ hw => own_src (.tail _ (.head _)) rfl) (by intro u hu; simp only [List.mem_singleton] at hu; subst hu; rfl) (by simp only [maxLen]; omega) rfl ?_)
    intro a40 c40
    refine WL.val (OV.assign rfl) rfl ?_
    refine WL.nil ?_
    refine WX.next ?_
    refine WC.seq ?_
    refine WC.region ?_
    refine WL.val (OV.move rfl) rfl ?_
    first
    | (refine WL.val (OV.lenSlice rfl T.u29) rfl ?_)
    | (refine WL.val (OV.lenStr rfl T.u29) rfl ?_)
    refine WL.val (OV.assign rfl) rfl ?_
    refine WL.nil ?_
    refine WX.next ?_
    refine WC.seq ?_
    refine WC.seq ?_
    refine WC.region ?_
    refine WL.val (OV.move rfl) rfl ?_
    refine WL.val (OV.move rfl) rfl ?_
    refine WL.val (OV.move rfl) rfl ?_
    have hHL : (HLv R).length = R.length := by simp [HLv]
    refine WL.know (fun w' hw => (row_base hw (.head _)).2) (fun hq => ?_)
    have hnc : n ≤ c40 := by rcases hq with h | ⟨_, _, h⟩ <;> omega
    refine WL.val (OV.sliceTo rfl T.u29 T.z22 rfl hnc) rfl ?_
    refine WL.call0 (by kernel_rfl) rfl rfl (fun w' hw => parts_calls label ls a40 n c40 (by omega) (by omega) w' (by rw [← hRn, ← hR]; exact RL.of_rows hw (.head _) (fun i hi => .tail _ (.tail _ (.tail _ (.tail _ hi))))) (hT.sat hw).df (hT.sat hw).dk) ?_
    refine WL.val (OV.move rfl) rfl ?_
    refine WL.val (OV.move rfl) rfl ?_
    refine WL.call0 (by kernel_rfl) rfl rfl (fun w' hw => refParts_calls label ls a n c hsz (by omega) w' (hls.sat hw) (hT.sat hw).rf (hT.sat hw).rk) ?_
    refine WL.val ((OV.neqA T.u25 T.u5 T.z5 (by kernel_rfl) rfl rfl (by first | exact shaD_length _ | assumption) (by first | exact shaD_length _ | assumption)).cast (u := .bool false) (by simp)) rfl ?_
    refine WL.val (OV.move rfl) rfl ?_
    refine WL.known (t := 52) (b := false) rfl (by rfl) ?_
    refine WL.go (b := false) rfl rfl rfl ?_
    refine WL.val (OV.move rfl) rfl ?_
    refine WL.go (b := false) rfl rfl rfl ?_
    refine WL.val (OV.move rfl) rfl ?_
    refine WL.go (b := false) rfl rfl rfl ?_
    refine WL.know (fun w' hw => row_some hw (.head _) (by omega)) (fun hq => ?_)
    obtain ⟨qL, rfl⟩ := hq
    refine WL.val (OV.indexSliceA (i := n) rfl rfl T.u29 T.z22 (by omega)) rfl ?_
    refine WL.go (b := false) rfl rfl rfl ?_
    refine WL.val (OV.load1 (v := .slice (some ⟨b37, 0, none⟩) 4 4) rfl T.u22 rfl (fun _ hw => row_cells hw (.head _) n _ (by rw [List.getElem?_append_right (by rw [hHL]; omega), hHL, hRn, Nat.sub_self]; rfl))) rfl ?_
    refine WL.go (b := false) rfl rfl rfl ?_
    refine WL.val (OV.bytesToStr (l := [109, 97, 114, 107]) rfl (fun _ hw => own_src (.tail _ (.tail _ (.head _))) rfl) T.u22 T.u5 T.u9) rfl ?_
    refine WL.go (b := false) rfl rfl rfl ?_
    refine WL.val ((OV.neqS rfl rfl).cast (u := .bool false) rfl) rfl ?_
    refine WL.val (OV.pickF rfl rfl) rfl ?_
    refine WL.nil ?_
    refine WX.next ?_
    refine WC.condF rfl ?_
    refine WC.skip ?_
    refine WX.next ?_
    refine WC.seq ?_
    refine WC.seq ?_
    refine WC.region ?_
    refine WL.val (OV.assign rfl) rfl ?_
    refine WL.nil ?_
    refine WX.next ?_
    refine WC.block ?_
    refine WC.loop1 (fun (i : Nat) => [(1, .slice a n c), (5, .slice (some qL) (n + 1 : Nat) c40), (6, .slice aF n cF), (9, .int .i64 (n : Int)), (10, .int .i64 (i : Int))])
        (fun i w' => i ≤ n ∧ Sat w (fun _ => False) (fun b => b < w.heap.size) w (row 22 1 (some qL) (n + 1) c40 (HLv R ++ [.slice (some ⟨b37, 0, none⟩) 4 4]) :: row 22 1 aF n cF (HFv R) :: RMi R) w')
        (fun i => n - i) 0 ⟨rfl, rfl, rfl, rfl, rfl, trivial⟩ (fun w' hw => ⟨by omega, hw.part (.cons_cons _ (.cons _ (.cons _ (.refl _))))⟩) ?_
    intro i
    refine WC.pure (fun hi => ?_)
    refine WC.seq ?_
    refine WC.seq ?_
    refine WC.region ?_
    refine WL.val (OV.move rfl) rfl ?_
    refine WL.val (OV.move rfl) rfl ?_
    refine WL.val (OV.lss rfl rfl) rfl ?_
    refine WL.nil ?_
    refine WX.next ?_
    refine WC.cond rfl (fun c62 => ?_) (fun c62 => ?_)
    · simp only [decide_eq_true_eq, decide_eq_false_iff_not, Bool.not_eq_true', Bool.not_eq_false'] at c62
      refine WC.skip ?_
      refine WX.next ?_
      refine WC.seq ?_
      refine WC.block ?_
      refine WC.seq ?_
      have hin : i < ls.length := by omega
      obtain ⟨q, rfl⟩ := hls.some (by omega)
      obtain ⟨a', m', c', hcell, hrb, hmc⟩ := hls.get (i := i) (by omega)
      have hst := joinL_step_le (label := label.data.toList) hin
      have hrl := hrb.1
      obtain ⟨r, hr, hr1⟩ := Rm_get hR hin
      have hrm : r.1.length = m' := by rw [hr1, hrl]
      have hcF : (HFv R)[i]? = some (.slice r.2.1 (r.1.length + 80) r.2.2) := by rw [HFv, List.getElem?_map, hr]; rfl
      have hcL : (HLv R ++ [.slice (some ⟨b37, 0, none⟩) 4 4])[i]? = some (.slice r.2.1 r.1.length r.2.2) := by rw [List.getElem?_append_left (by rw [hHL]; omega), HLv, List.getElem?_map, hr]; rfl
      refine WC.know (fun w' hw => row_some hw (.tail _ (.head _)) (by omega)) (fun hq => ?_)
      obtain ⟨qF, rfl⟩ := hq
      refine WC.drawnS (fun w' => w'.cell? (qF.add i) = some (.slice r.2.1 (r.1.length + 80) r.2.2) ∧ w'.cell? (qL.add i) = some (.slice r.2.1 r.1.length r.2.2) ∧ w'.cell? (q.add i) = some (.slice a' m' c')) (by kernel_rfl) (m := 23) rfl ?_
      refine WH.take 0 rfl (by kernel_rfl) (by kernel_rfl) (by kernel_rfl) (fun _ hw => by first | exact ⟨row_cells hw (.tail _ (.head _)) i _ hcF, row_cells hw (.head _) i _ hcL, snapL hw hcell⟩ | exact ⟨row_cells hw (.tail _ (.tail _ (.head _))) i _ hcF, row_cells hw (.tail _ (.head _)) i _ hcL, snapL hw hcell⟩) (OV.move rfl) rfl (listed' := [true, false, false, false, false, false, false, false, false, false, false, false, false, false, false, false, false, false, false, false, false, false, false]) rfl ?_
      refine WH.take 1 rfl (by kernel_rfl) (by kernel_rfl) (by kernel_rfl) (fun _ hw => by first | exact ⟨row_cells hw (.tail _ (.head _)) i _ hcF, row_cells hw (.head _) i _ hcL, snapL hw hcell⟩ | exact ⟨row_cells hw (.tail _ (.tail _ (.head _))) i _ hcF, row_cells hw (.tail _ (.head _)) i _ hcL, snapL hw hcell⟩) (OV.move rfl) rfl (listed' := [true, true, false, false, false, false, false, false, false, false, false, false, false, false, false, false, false, false, false, false, false, false, false]) rfl ?_
      refine WH.take 2 rfl (by kernel_rfl) (by kernel_rfl) (by kernel_rfl) (fun _ hw => by first | exact ⟨row_cells hw (.tail _ (.head _)) i _ hcF, row_cells hw (.head _) i _ hcL, snapL hw hcell⟩ | exact ⟨row_cells hw (.tail _ (.tail _ (.head _))) i _ hcF, row_cells hw (.tail _ (.head _)) i _ hcL, snapL hw hcell⟩) (OV.indexSliceA (i := i) rfl rfl T.u29 T.z22 (by omega)) rfl (listed' := [true, true, true, false, false, false, false, false, false, false, false, false, false, false, false, false, false, false, false, false, false, false, false]) rfl ?_
      refine WH.take 3 rfl (by kernel_rfl) (by kernel_rfl) (by kernel_rfl) (fun _ hw => by first | exact ⟨row_cells hw (.tail _ (.head _)) i _ hcF, row_cells hw (.head _) i _ hcL, snapL hw hcell⟩ | exact ⟨row_cells hw (.tail _ (.tail _ (.head _))) i _ hcF, row_cells hw (.tail _ (.head _)) i _ hcL, snapL hw hcell⟩) (OV.load1 rfl T.u22 rfl (fun _ hw => hw.1)) rfl (listed' := [true, true, true, true, false, false, false, false, false, false, false, false, false, false, false, false, false, false, false, false, false, false, false]) rfl ?_
      refine WH.take 4 rfl (by kernel_rfl) (by kernel_rfl) (by kernel_rfl) (fun _ hw => by first | exact ⟨row_cells hw (.tail _ (.head _)) i _ hcF, row_cells hw (.head _) i _ hcL, snapL hw hcell⟩ | exact ⟨row_cells hw (.tail _ (.tail _ (.head _))) i _ hcF, row_cells hw (.tail _ (.head _)) i _ hcL, snapL hw hcell⟩) (OV.move rfl) rfl (listed' := [true, true, true, true, true, false, false, false, false, false, false, false, false, false, false, false, false, false, false, false, false, false, false]) rfl ?_
      refine WH.take 5 rfl (by kernel_rfl) (by kernel_rfl) (by kernel_rfl) (fun _ hw => by first | exact ⟨row_cells hw (.tail _ (.head _)) i _ hcF, row_cells hw (.head _) i _ hcL, snapL hw hcell⟩ | exact ⟨row_cells hw (.tail _ (.tail _ (.head _))) i _ hcF, row_cells hw (.tail _ (.head _)) i _ hcL, snapL hw hcell⟩) (OV.move rfl) rfl (listed' := [true, true, true, true, true, true, false, false, false, false, false, false, false, false, false, false, false, false, false, false, false, false, false]) rfl ?_
      refine WH.take 6 rfl (by kernel_rfl) (by kernel_rfl) (by kernel_rfl) (fun _ hw => by first | exact ⟨row_cells hw (.tail _ (.head _)) i _ hcF, row_cells hw (.head _) i _ hcL, snapL hw hcell⟩ | exact ⟨row_cells hw (.tail _ (.tail _ (.head _))) i _ hcF, row_cells hw (.tail _ (.head _)) i _ hcL, snapL hw hcell⟩) (OV.indexSliceA (i := i) rfl rfl T.u29 T.z22 (by omega)) rfl (listed' := [true, true, true, true, true, true, true, false, false, false, false, false, false, false, false, false, false, false, false, false, false, false, false]) rfl ?_
      refine WH.take 7 rfl (by kernel_rfl) (by kernel_rfl) (by kernel_rfl) (fun _ hw => by first | exact ⟨row_cells hw (.tail _ (.head _)) i _ hcF, row_cells hw (.head _) i _ hcL, snapL hw hcell⟩ | exact ⟨row_cells hw (.tail _ (.tail _ (.head _))) i _ hcF, row_cells hw (.tail _ (.head _)) i _ hcL, snapL hw hcell⟩) (OV.load1 rfl T.u22 rfl (fun _ hw => hw.2.2)) rfl (listed' := [true, true, true, true, true, true, true, true, false, false, false, false, false, false, false, false, false, false, false, false, false, false, false]) rfl ?_
      refine WH.only 8 rfl (by kernel_rfl) (listed' := [true, true, true, true, true, true, true, true, true, false, false, false, false, false, false, false, false, false, false, false, false, false, false]) rfl ?_
      refine WL.callF (it := fun q : Option Addr × Nat => row 5 1 q.1 (m' + 80) q.2 (u8s (roomL (ls.getD i [])))) (by kernel_rfl) rfl rfl (fun w' hw => roomy_calls (ls.getD i []) a' m' c' (by omega) w' (hrb.sat hw)) ?_
      rintro ⟨a73, c73⟩ _
      refine WL.nil ?_
      refine WX.cont (fun _ hw => by first | exact ⟨row_cells hw (.tail _ (.head _)) i _ hcF, row_cells hw (.head _) i _ hcL, snapL hw hcell⟩ | exact ⟨row_cells hw (.tail _ (.tail _ (.head _))) i _ hcF, row_cells hw (.tail _ (.head _)) i _ hcL, snapL hw hcell⟩) ?_
      refine WH.only 9 rfl (by kernel_rfl) (listed' := [true, true, true, true, true, true, true, true, true, true, false, false, false, false, false, false, false, false, false, false, false, false, false]) rfl ?_
      refine WL.call0 (v := .bool true) (by kernel_rfl) rfl rfl (fun w' hw => same_eq (roomL r.1) (roomL (ls.getD i [])) (by rw [hr1]) r.2.1 a73 (r.1.length + 80) r.2.2 (m' + 80) c73 (by omega) w' (RB.of_row hw (.tail _ (.tail _ (.tail _ (RMi_mem hr))))).1 (RB.of_row hw (.head _)).1) ?_
      refine WL.nil ?_
      refine WX.cont (fun _ hw => by first | exact ⟨row_cells hw (.tail _ (.head _)) i _ hcF, row_cells hw (.head _) i _ hcL, snapL hw hcell⟩ | exact ⟨row_cells hw (.tail _ (.tail _ (.head _))) i _ hcF, row_cells hw (.tail _ (.head _)) i _ hcL, snapL hw hcell⟩) ?_
      refine WH.take 10 rfl (by kernel_rfl) (by kernel_rfl) (by kernel_rfl) (fun _ hw => by first | exact ⟨row_cells hw (.tail _ (.head _)) i _ hcF, row_cells hw (.head _) i _ hcL, snapL hw hcell⟩ | exact ⟨row_cells hw (.tail _ (.tail _ (.head _))) i _ hcF, row_cells hw (.tail _ (.head _)) i _ hcL, snapL hw hcell⟩) (OV.not rfl) rfl (listed' := [true, true, true, true, true, true, true, true, true, true, true, false, false, false, false, false, false, false, false, false, false, false, false]) rfl ?_
      refine WH.take 11 rfl (by kernel_rfl) (by kernel_rfl) (by kernel_rfl) (fun _ hw => by first | exact ⟨row_cells hw (.tail _ (.head _)) i _ hcF, row_cells hw (.head _) i _ hcL, snapL hw hcell⟩ | exact ⟨row_cells hw (.tail _ (.tail _ (.head _))) i _ hcF, row_cells hw (.tail _ (.head _)) i _ hcL, snapL hw hcell⟩) (OV.move rfl) rfl (listed' := [true, true, true, true, true, true, true, true, true, true, true, true, false, false, false, false, false, false, false, false, false, false, false]) rfl ?_
      refine WH.known (t := 76) (b := false) rfl (by rfl) ?_
      refine WH.takeG 12 (b := false) rfl (by kernel_rfl) (by kernel_rfl) (by kernel_rfl) (fun _ hw => by first | exact ⟨row_cells hw (.tail _ (.head _)) i _ hcF, row_cells hw (.head _) i _ hcL, snapL hw hcell⟩ | exact ⟨row_cells hw (.tail _ (.tail _ (.head _))) i _ hcF, row_cells hw (.tail _ (.head _)) i _ hcL, snapL hw hcell⟩) rfl rfl rfl (OV.move rfl) rfl (listed' := [true, true, true, true, true, true, true, true, true, true, true, true, true, false, false, false, false, false, false, false, false, false, false]) rfl ?_
      refine WH.takeG 13 (b := false) rfl (by kernel_rfl) (by kernel_rfl) (by kernel_rfl) (fun _ hw => by first | exact ⟨row_cells hw (.tail _ (.head _)) i _ hcF, row_cells hw (.head _) i _ hcL, snapL hw hcell⟩ | exact ⟨row_cells hw (.tail _ (.tail _ (.head _))) i _ hcF, row_cells hw (.tail _ (.head _)) i _ hcL, snapL hw hcell⟩) rfl rfl rfl (OV.move rfl) rfl (listed' := [true, true, true, true, true, true, true, true, true, true, true, true, true, true, false, false, false, false, false, false, false, false, false]) rfl ?_
      refine WH.takeG 14 (b := false) rfl (by kernel_rfl) (by kernel_rfl) (by kernel_rfl) (fun _ hw => by first | exact ⟨row_cells hw (.tail _ (.head _)) i _ hcF, row_cells hw (.head _) i _ hcL, snapL hw hcell⟩ | exact ⟨row_cells hw (.tail _ (.tail _ (.head _))) i _ hcF, row_cells hw (.tail _ (.head _)) i _ hcL, snapL hw hcell⟩) rfl rfl rfl (OV.indexSliceA (i := i) rfl rfl T.u29 T.z22 (by omega)) rfl (listed' := [true, true, true, true, true, true, true, true, true, true, true, true, true, true, true, false, false, false, false, false, false, false, false]) rfl ?_
      refine WH.takeG 15 (b := false) rfl (by kernel_rfl) (by kernel_rfl) (by kernel_rfl) (fun _ hw => by first | exact ⟨row_cells hw (.tail _ (.head _)) i _ hcF, row_cells hw (.head _) i _ hcL, snapL hw hcell⟩ | exact ⟨row_cells hw (.tail _ (.tail _ (.head _))) i _ hcF, row_cells hw (.tail _ (.head _)) i _ hcL, snapL hw hcell⟩) rfl rfl rfl (OV.load1 rfl T.u22 rfl (fun _ hw => hw.2.1)) rfl (listed' := [true, true, true, true, true, true, true, true, true, true, true, true, true, true, true, true, false, false, false, false, false, false, false]) rfl ?_
      refine WH.takeG 16 (b := false) rfl (by kernel_rfl) (by kernel_rfl) (by kernel_rfl) (fun _ hw => by first | exact ⟨row_cells hw (.tail _ (.head _)) i _ hcF, row_cells hw (.head _) i _ hcL, snapL hw hcell⟩ | exact ⟨row_cells hw (.tail _ (.tail _ (.head _))) i _ hcF, row_cells hw (.tail _ (.head _)) i _ hcL, snapL hw hcell⟩) rfl rfl rfl (OV.move rfl) rfl (listed' := [true, true, true, true, true, true, true, true, true, true, true, true, true, true, true, true, true, false, false, false, false, false, false]) rfl ?_
      refine WH.takeG 17 (b := false) rfl (by kernel_rfl) (by kernel_rfl) (by kernel_rfl) (fun _ hw => by first | exact ⟨row_cells hw (.tail _ (.head _)) i _ hcF, row_cells hw (.head _) i _ hcL, snapL hw hcell⟩ | exact ⟨row_cells hw (.tail _ (.tail _ (.head _))) i _ hcF, row_cells hw (.tail _ (.head _)) i _ hcL, snapL hw hcell⟩) rfl rfl rfl (OV.move rfl) rfl (listed' := [true, true, true, true, true, true, true, true, true, true, true, true, true, true, true, true, true, true, false, false, false, false, false]) rfl ?_
      refine WH.takeG 18 (b := false) rfl (by kernel_rfl) (by kernel_rfl) (by kernel_rfl) (fun _ hw => by first | exact ⟨row_cells hw (.tail _ (.head _)) i _ hcF, row_cells hw (.head _) i _ hcL, snapL hw hcell⟩ | exact ⟨row_cells hw (.tail _ (.tail _ (.head _))) i _ hcF, row_cells hw (.tail _ (.head _)) i _ hcL, snapL hw hcell⟩) rfl rfl rfl (OV.indexSliceA (i := i) rfl rfl T.u29 T.z22 (by omega)) rfl (listed' := [true, true, true, true, true, true, true, true, true, true, true, true, true, true, true, true, true, true, true, false, false, false, false]) rfl ?_
      refine WH.takeG 19 (b := false) rfl (by kernel_rfl) (by kernel_rfl) (by kernel_rfl) (fun _ hw => by first | exact ⟨row_cells hw (.tail _ (.head _)) i _ hcF, row_cells hw (.head _) i _ hcL, snapL hw hcell⟩ | exact ⟨row_cells hw (.tail _ (.tail _ (.head _))) i _ hcF, row_cells hw (.tail _ (.head _)) i _ hcL, snapL hw hcell⟩) rfl rfl rfl (OV.load1 rfl T.u22 rfl (fun _ hw => hw.2.2)) rfl (listed' := [true, true, true, true, true, true, true, true, true, true, true, true, true, true, true, true, true, true, true, true, false, false, false]) rfl ?_
      refine WH.only 20 rfl (by kernel_rfl) (listed' := [true, true, true, true, true, true, true, true, true, true, true, true, true, true, true, true, true, true, true, true, true, false, false]) rfl ?_
      refine WL.go (b := false) rfl rfl rfl ?_
      refine WL.call0 (v := .bool true) (by kernel_rfl) rfl rfl (fun w' hw => same_eq r.1 (ls.getD i []) hr1 r.2.1 a' r.1.length r.2.2 m' c' (by omega) w' (RB.room (RB.of_row hw (.tail _ (.tail _ (.tail _ (RMi_mem hr))))).1 rfl) (hrb.sat hw)) ?_
      refine WL.nil ?_
      refine WX.cont (fun _ hw => by first | exact ⟨row_cells hw (.tail _ (.head _)) i _ hcF, row_cells hw (.head _) i _ hcL, snapL hw hcell⟩ | exact ⟨row_cells hw (.tail _ (.tail _ (.head _))) i _ hcF, row_cells hw (.tail _ (.head _)) i _ hcL, snapL hw hcell⟩) ?_
      refine WH.takeG 21 (b := false) rfl (by kernel_rfl) (by kernel_rfl) (by kernel_rfl) (fun _ hw => by first | exact ⟨row_cells hw (.tail _ (.head _)) i _ hcF, row_cells hw (.head _) i _ hcL, snapL hw hcell⟩ | exact ⟨row_cells hw (.tail _ (.tail _ (.head _))) i _ hcF, row_cells hw (.tail _ (.head _)) i _ hcL, snapL hw hcell⟩) rfl rfl rfl (OV.not rfl) rfl (listed' := [true, true, true, true, true, true, true, true, true, true, true, true, true, true, true, true, true, true, true, true, true, true, false]) rfl ?_
      refine WH.take 22 rfl (by kernel_rfl) (by kernel_rfl) (by kernel_rfl) (fun _ hw => by first | exact ⟨row_cells hw (.tail _ (.head _)) i _ hcF, row_cells hw (.head _) i _ hcL, snapL hw hcell⟩ | exact ⟨row_cells hw (.tail _ (.tail _ (.head _))) i _ hcF, row_cells hw (.tail _ (.head _)) i _ hcL, snapL hw hcell⟩) (OV.pickF rfl rfl) rfl (listed' := [true, true, true, true, true, true, true, true, true, true, true, true, true, true, true, true, true, true, true, true, true, true, true]) rfl ?_
      refine WH.done (by kernel_rfl) ?_
      refine WX.next ?_
      refine WC.condF rfl ?_
      refine WC.skip ?_
      refine WX.block_normal ?_
      refine WX.next ?_
      refine WC.region ?_
      refine WL.val (OV.move rfl) rfl ?_
      refine WL.val (OV.addN (j := 1) rfl rfl (by omega)) rfl ?_
      refine WL.val (OV.assign rfl) rfl ?_
      refine WL.nil ?_
      exact WX.round1 (i + 1) ⟨rfl, rfl, rfl, rfl, rfl, trivial⟩ (fun w' hw => ⟨by omega, hw.part (.cons _ (.refl _))⟩) (by show n - (i + 1) < n - i; omega)
    · simp only [decide_eq_true_eq, decide_eq_false_iff_not, Bool.not_eq_true', Bool.not_eq_false'] at c62
      refine WC.exit ?_
      refine WX.then_exit ?_
      refine WX.then_exit ?_
      refine WX.block_hit ?_
      refine WX.next ?_
      refine WC.seq ?_
      refine WC.region ?_
      refine WL.val (OV.assign rfl) rfl ?_
      refine WL.nil ?_
      refine WX.next ?_
      refine WC.ret ?_
      exact WX.ret1 rfl rfl rfl (fun w hw => ⟨rfl, hw.fr⟩)

end Go.Proofs.YtplebagdajdcnaaDoor
