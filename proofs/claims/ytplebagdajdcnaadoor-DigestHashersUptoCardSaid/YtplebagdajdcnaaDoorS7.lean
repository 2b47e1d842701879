/- Contracts of functions of the program: what each returns and leaves in memory. Printed by gen.py and walk.py. -/
import Derived.Test.YtplebagdajdcnaaDoorS6
namespace Go.Proofs.YtplebagdajdcnaaDoor
open Go Go.Hw
set_option linter.unusedSimpArgs false
set_option linter.unusedVariables false
def maskP (k : List UInt8) (x : UInt8) (i : Nat) : List UInt8 := (k.take i).map (· ^^^ x) ++ k.drop i
theorem maskP_length (k : List UInt8) (x : UInt8) (i : Nat) : (maskP k x i).length = k.length := by simp [maskP]; omega
theorem maskP_get (k : List UInt8) (x : UInt8) {i : Nat} (h : i < k.length) : (u8s (maskP k x i)).toArray[i]? = some (b8 (k.getD i 0)) := by
  rw [u8s_arr _ (by rw [maskP_length]; exact h)]
  congr 2
  simp only [maskP, List.getD_eq_getElem?_getD]
  rw [List.getElem?_append_right (by simp; omega)]
  simp
  congr 2
  omega
theorem maskP_set (k : List UInt8) (x : UInt8) {i : Nat} (h : i < k.length) : (u8s (maskP k x i)).set i (b8 (k.getD i 0 ^^^ x)) = u8s (maskP k x (i + 1)) := by
  rw [u8s_set]
  congr 1
  apply List.ext_getElem?
  intro j
  simp only [maskP]
  by_cases hj : j = i
  · subst hj
    rw [List.getElem?_set_self (by simp; omega), List.getElem?_append_left (by simp; omega)]
    simp [h]
  · rw [List.getElem?_set_ne (by omega)]
    by_cases hlt : j < i
    · rw [List.getElem?_append_left (by simp; omega), List.getElem?_append_left (by simp; omega)]
      simp [hlt, show j < i + 1 from by omega]
    · rw [List.getElem?_append_right (by simp; omega), List.getElem?_append_right (by simp; omega)]
      simp
      congr 1
      omega
def maskL (k : List UInt8) (x : UInt8) : List UInt8 := k.map (· ^^^ x)
theorem maskL_length (k : List UInt8) (x : UInt8) : (maskL k x).length = k.length := by simp [maskL]
def padZ (l : List UInt8) : List UInt8 := l ++ List.replicate (64 - l.length) 0
theorem padZ_length {l : List UInt8} (h : l.length ≤ 64) : (padZ l).length = 64 := by simp [padZ]; omega
def keyS (key : List UInt8) : List UInt8 := if 64 < key.length then shaD key else key
theorem keyS_length (key : List UInt8) : (keyS key).length ≤ 64 := by
  unfold keyS; split
  · rw [shaD_length]; omega
  · omega
def hmacD (key b : List UInt8) : List UInt8 := shaD (maskL (padZ (keyS key)) 92 ++ shaD (maskL (padZ (keyS key)) 54 ++ b))
theorem hmacD_length (key b : List UInt8) : (hmacD key b).length = 32 := shaD_length _
theorem copy_pad {l : List UInt8} {m : Nat} (h : l.length = m) (hm : m ≤ 64) : (u8s (List.replicate 64 0)).take 0 ++ (u8s l).take (min m 64) ++ (u8s (List.replicate 64 0)).drop (0 + min m 64) = u8s (padZ l) := by
  rw [Nat.min_eq_left hm, Nat.zero_add, List.take_zero, List.nil_append, List.take_of_length_le (by rw [u8s_length, h]; omega), padZ, u8s_append]
  congr 1
  simp only [u8s, List.map_replicate, List.drop_replicate, h]

set_option maxRecDepth 10000 in
theorem masked_calls (k : List UInt8) (x : UInt8) (hk : k.length = 64) (w : World) : Calls Tryd.prog 35 #[.agg (u8s k).toArray, b8 x] w fun e w' => ∃ b, e = .returned (.slice (some ⟨b, 0, none⟩) 64 64) ∧ True ∧ Fr0 w w' ∧ New w w' (own b (.cells (u8s (maskL k x)).toArray 65 (0, 0))) := by
  refine enterS (args := [.agg (u8s k).toArray, b8 x]) (fun _ => False) Tryd.func35 rfl Tryd.ntmps35 rfl rfl ?_
  refine WC.seq ?_
  refine WC.region ?_
  refine WL.box rfl rfl rfl ?_
  intro b2
  refine WL.val (OV.assign rfl) rfl ?_
  refine WL.nil ?_
  refine WX.next ?_
  refine WC.seq ?_
  refine WC.seq ?_
  refine WC.region ?_
  refine WL.val (OV.move rfl) rfl ?_
  refine WL.nil ?_
  refine WX.next ?_
  refine WC.block ?_
  refine WC.loop1 (fun (i : Nat) => [(1, b8 x), (2, .pointer (some ⟨b2, 0, none⟩)), (6, .int .i64 i)])
      (fun i w' => i ≤ 64 ∧ Sat w (fun _ => False) (fun b => b < w.heap.size) w [own b2 (.cells (u8s (maskP k x i)).toArray 65 (0, 0))] w')
      (fun i => 64 - i) 0 ⟨rfl, rfl, rfl, trivial⟩ (fun w' hw => ⟨by omega, hw⟩) ?_
  intro i
  refine WC.pure (fun hi => ?_)
  refine WC.seq ?_
  refine WC.region ?_
  refine WL.val (OV.lss rfl rfl) rfl ?_
  refine WL.nil ?_
  refine WX.next ?_
  refine WC.seq ?_
  refine WC.cond rfl (fun c7 => ?_) (fun c7 => ?_)
  · simp only [decide_eq_true_eq, decide_eq_false_iff_not, Bool.not_eq_true', Bool.not_eq_false'] at c7
    refine WC.skip ?_
    refine WX.next ?_
    refine WC.seq ?_
    refine WC.block ?_
    refine WC.seq ?_
    refine WC.region ?_
    refine WL.val (OV.move rfl) rfl ?_
    refine WL.val (OV.assign rfl) rfl ?_
    refine WL.nil ?_
    refine WX.next ?_
    refine WC.region ?_
    refine WL.val (OV.move rfl) rfl ?_
    first
    | (refine WL.val (OV.indexArrN rfl rfl T.u65 T.z5 (by omega)) rfl ?_)
    | (refine WL.val (OV.indexArrON rfl rfl T.u65 T.z5 (by omega)) rfl ?_)
    | (refine WL.val (OV.indexArr1 rfl rfl T.u65 T.z5 (by omega)) rfl ?_)
    refine WL.val (OV.load1 rfl T.u5 rfl (fun _ hw => cell_own hw (.head _) (maskP_get k x (by omega)))) rfl ?_
    refine WL.val (OV.move rfl) rfl ?_
    refine WL.val (OV.xorB rfl rfl) rfl ?_
    first
    | (refine WL.val (OV.indexArrN rfl rfl T.u65 T.z5 (by omega)) rfl ?_)
    | (refine WL.val (OV.indexArrON rfl rfl T.u65 T.z5 (by omega)) rfl ?_)
    | (refine WL.val (OV.indexArr1 rfl rfl T.u65 T.z5 (by omega)) rfl ?_)
    refine WL.store1 rfl rfl rfl T.z5 (by rw [u8s_length, maskP_length]; omega) ?_
    rw [maskP_set k x (by omega)]
    refine WL.nil ?_
    refine WX.block_normal ?_
    refine WX.next ?_
    refine WC.region ?_
    refine WL.val (OV.addN (j := 1) rfl rfl (by omega)) rfl ?_
    refine WL.val (OV.move rfl) rfl ?_
    refine WL.nil ?_
    exact WX.round1 (i + 1) ⟨rfl, rfl, rfl, trivial⟩ (fun w' hw => ⟨by omega, hw⟩) (by show 64 - (i + 1) < 64 - i; omega)
  · simp only [decide_eq_true_eq, decide_eq_false_iff_not, Bool.not_eq_true', Bool.not_eq_false'] at c7
    refine WC.exit ?_
    refine WX.then_exit ?_
    refine WX.then_exit ?_
    refine WX.block_hit ?_
    refine WX.next ?_
    refine WC.seq ?_
    refine WC.region ?_
    refine WL.val (OV.sliceArrAll rfl T.u65 T.z5) rfl ?_
    refine WL.val (OV.assign rfl) rfl ?_
    refine WL.nil ?_
    refine WX.next ?_
    refine WC.ret ?_
    have hi64 : i = 64 := by omega
    subst hi64
    exact WX.ret1 rfl rfl rfl (fun w' hw => ⟨b2, rfl, trivial, hw.fr, by rw [show maskP k x 64 = maskL k x from by rw [maskP, List.drop_eq_nil_of_le (by omega), List.append_nil, List.take_of_length_le (by omega)]; rfl] at hw; exact hw.new0 (.head _)⟩)

set_option maxRecDepth 10000 in
theorem mac_calls (key l : List UInt8) (a a2 : Option Addr) (m c m2 c2 : Nat) (hm : m ≤ c) (hm2 : m2 ≤ c2) (hsz : m < 576460752303423488) (hsz2 : m2 < 288230376151711744) (w : World) (hk : RB w a m key) (hl : RB w a2 m2 l) (hF : Tab w 1 h0W) (hK : Tab w 3 kW) : Calls Tryd.prog 17 #[.slice a m c, .slice a2 m2 c2] w fun e w' => e = .returned (.agg (u8s (hmacD key l)).toArray) ∧ Fr0 w w' := by
  refine enterS (args := [.slice a m c, .slice a2 m2 c2]) (fun _ => False) Tryd.func17 rfl Tryd.ntmps17 rfl rfl ?_
  refine WC.seq ?_
  refine WC.region ?_
  refine WL.alloc T.zr25 rfl ?_
  intro b4
  refine WL.nil ?_
  refine WX.next ?_
  refine WC.seq ?_
  refine WC.region ?_
  refine WL.alloc T.zr65 rfl ?_
  intro b5
  refine WL.nil ?_
  refine WX.next ?_
  refine WC.seq ?_
  refine WC.seq ?_
  refine WC.region ?_
  refine WL.val (OV.move rfl) rfl ?_
  first
  | (refine WL.val (OV.lenSlice rfl T.u22) rfl ?_)
  | (refine WL.val (OV.lenStr rfl T.u22) rfl ?_)
  refine WL.val (OV.gtr rfl rfl) rfl ?_
  refine WL.nil ?_
  refine WX.next ?_
  refine WC.cond rfl (fun c12 => ?_) (fun c12 => ?_)
  · simp only [decide_eq_true_eq, decide_eq_false_iff_not, Bool.not_eq_true', Bool.not_eq_false'] at c12
    refine WC.seq ?_
    refine WC.region ?_
    refine WL.val (OV.move rfl) rfl ?_
    refine WL.call0 (by kernel_rfl) rfl rfl (fun w' hw => sum_calls key a m c hm hsz w' (hk.sat hw) (hF.sat hw) (hK.sat hw)) ?_
    refine WL.alloc T.zr25 rfl ?_
    intro b6
    refine WL.storeAll (vs := u8s (shaD key)) rfl rfl (List.all_eq_true.2 (u8s_one _)) (by rw [u8s_length, shaD_length]; exact T.z25) (by rw [u8s_length, u8s_length, shaD_length]; rfl) ?_
    refine WL.nil ?_
    refine WX.next ?_
    refine WC.tail 2 (by kernel_rfl) (by kernel_rfl) ?_
    refine WS.val (OV.sliceArrAll rfl T.u65 T.z5) rfl ?_
    refine WS.val (OV.sliceArrAll rfl T.u25 T.z5) rfl ?_
    refine WS.nil ?_
    refine WL.focus perm1 (WL.copy rfl rfl T.u22 T.z5 (fun _ _ => own_src (.tail _ (.head _)) (by rw [u8s_length, shaD_length])) (u8s_one _) (by decide) rfl ?_)
    rw [copy_pad (shaD_length _) (by omega), show shaD key = keyS key from by rw [keyS, if_pos (by rw [hk.1]; omega)]]
    refine WL.nil ?_
    refine WX.weak (fun _ hw => (hw.perm perm1).drop) ?_
    refine WX.next ?_
    refine WC.seq ?_
    refine WC.region ?_
    refine WL.callF (it := fun b => own b (.cells (HC [] (List.replicate 64 0)).toArray 71 (0, 0))) (by kernel_rfl) rfl rfl (fun w' hw => new_calls w' (hF.sat hw)) ?_
    intro b21 _
    refine WL.callF (it := fun b => own b (.cells (HC [] (List.replicate 64 0)).toArray 71 (0, 0))) (by kernel_rfl) rfl rfl (fun w' hw => new_calls w' (hF.sat hw)) ?_
    intro b22 _
    refine WL.val (OV.assign rfl) rfl ?_
    refine WL.val (OV.assign rfl) rfl ?_
    refine WL.nil ?_
    refine WX.next ?_
    refine WC.seq ?_
    refine WC.region ?_
    refine WL.val (OV.move rfl) rfl ?_
    refine WL.val (OV.loadN (cs := u8s (padZ (keyS key))) rfl T.u65 rfl (by rw [u8s_length, padZ_length (keyS_length _)]; exact T.z65) (fun _ hw j v hj => by rw [add_off, Nat.zero_add]; exact own_cells hw (.tail _ (.tail _ (.head _))) j v hj)) rfl ?_
    refine WL.callF (it := fun b => own b (.cells (u8s (maskL (padZ (keyS key)) 54)).toArray 65 (0, 0))) (by kernel_rfl) rfl rfl (fun w' _ => masked_calls _ 54 (padZ_length (keyS_length _)) w') ?_
    intro b25 _
    refine WL.focus perm2 (WL.callM (ι := List UInt8) (vv := fun _ => .tuple #[]) (pp := fun p' => HP ([] ++ (maskL (padZ (keyS key)) 54)) p') (oo := fun p' => Obj.cells (HC ([] ++ (maskL (padZ (keyS key)) 54)) p').toArray 71) (by kernel_rfl) rfl rfl (fun w' hw => (write_calls [] (List.replicate 64 0) b21 (maskL (padZ (keyS key)) 54) (some ⟨b25, 0, none⟩) 64 64 (by first | assumption | omega) (by simp) w' hp_nil (RB.of_own hw (.tail _ (.head _)) (by rw [maskL_length, padZ_length (keyS_length _)])) (fun q hq h0 => by
      simp only [Option.some.injEq] at hq
      subst hq
      exact fun h => hw.apart (j := own b25 _) (.head _) b21 rfl h.symm) (hw.it _ (.head _)) (hK.ne (by decide) hw (.head _)) (hK.sat hw)).mono (fun _ _ ⟨x, h1, h2, h3, h4⟩ => ⟨x, h1, h2, h3, h4⟩)) ?_)
    intro p1 hp1
    rw [List.nil_append] at hp1
    rw [List.nil_append]
    refine WL.nil ?_
    refine WX.next ?_
    refine WC.seq ?_
    refine WC.region ?_
    refine WL.val (OV.move rfl) rfl ?_
    refine WL.val (OV.move rfl) rfl ?_
    refine (WL.callM (ι := List UInt8) (vv := fun _ => .tuple #[]) (pp := fun p' => HP ((maskL (padZ (keyS key)) 54) ++ l) p') (oo := fun p' => Obj.cells (HC ((maskL (padZ (keyS key)) 54) ++ l) p').toArray 71) (by kernel_rfl) rfl rfl (fun w' hw => (write_calls (maskL (padZ (keyS key)) 54) p1 b21 l a2 m2 c2 (by first | assumption | omega) (by rw [maskL_length, padZ_length (keyS_length _)]; omega) w' hp1 (hl.sat hw) (fun q hq h0 => own_ne_snap hw (.head _) (by subst hq; exact hl.block h0)) (hw.it _ (.head _)) (hK.ne (by decide) hw (.head _)) (hK.sat hw)).mono (fun _ _ ⟨x, h1, h2, h3, h4⟩ => ⟨x, h1, h2, h3, h4⟩)) ?_)
    intro p2 hp2
    refine WL.nil ?_
    refine WX.next ?_
    refine WC.seq ?_
    refine WC.region ?_
    refine WL.val (OV.move rfl) rfl ?_
    refine WL.call0 (by kernel_rfl) rfl rfl (fun w' hw => hsum_calls _ p2 b21 (by rw [List.length_append, maskL_length, padZ_length (keyS_length _), hl.1]; omega) w' hp2 (hw.it _ (.head _)) (hK.sat hw)) ?_
    refine WL.alloc T.zr25 rfl ?_
    intro b9
    refine WL.storeAll (vs := u8s (shaD (maskL (padZ (keyS key)) 54 ++ l))) rfl rfl (List.all_eq_true.2 (u8s_one _)) (by rw [u8s_length, shaD_length]; exact T.z25) (by rw [u8s_length, u8s_length, shaD_length]; rfl) ?_
    refine WL.nil ?_
    refine WX.next ?_
    refine WC.seq ?_
    refine WC.region ?_
    refine WL.val (OV.move rfl) rfl ?_
    refine WL.val (OV.loadN (cs := u8s (padZ (keyS key))) rfl T.u65 rfl (by rw [u8s_length, padZ_length (keyS_length _)]; exact T.z65) (fun _ hw j v hj => by rw [add_off, Nat.zero_add]; exact own_cells hw (.tail _ (.tail _ (.tail _ (.tail _ (.head _))))) j v hj)) rfl ?_
    refine WL.callF (it := fun b => own b (.cells (u8s (maskL (padZ (keyS key)) 92)).toArray 65 (0, 0))) (by kernel_rfl) rfl rfl (fun w' _ => masked_calls _ 92 (padZ_length (keyS_length _)) w') ?_
    intro b34 _
    refine WL.focus perm4 (WL.callM (ι := List UInt8) (vv := fun _ => .tuple #[]) (pp := fun p' => HP ([] ++ (maskL (padZ (keyS key)) 92)) p') (oo := fun p' => Obj.cells (HC ([] ++ (maskL (padZ (keyS key)) 92)) p').toArray 71) (by kernel_rfl) rfl rfl (fun w' hw => (write_calls [] (List.replicate 64 0) b22 (maskL (padZ (keyS key)) 92) (some ⟨b34, 0, none⟩) 64 64 (by first | assumption | omega) (by simp) w' hp_nil (RB.of_own hw (.tail _ (.head _)) (by rw [maskL_length, padZ_length (keyS_length _)])) (fun q hq h0 => by
      simp only [Option.some.injEq] at hq
      subst hq
      exact fun h => hw.apart (j := own b34 _) (.head _) b22 rfl h.symm) (hw.it _ (.head _)) (hK.ne (by decide) hw (.head _)) (hK.sat hw)).mono (fun _ _ ⟨x, h1, h2, h3, h4⟩ => ⟨x, h1, h2, h3, h4⟩)) ?_)
    intro p3 hp3
    rw [List.nil_append] at hp3
    rw [List.nil_append]
    refine WL.nil ?_
    refine WX.next ?_
    refine WC.seq ?_
    refine WC.region ?_
    refine WL.val (OV.move rfl) rfl ?_
    refine WL.val (OV.sliceArrAll rfl T.u25 T.z5) rfl ?_
    refine (WL.callM (ι := List UInt8) (vv := fun _ => .tuple #[]) (pp := fun p' => HP ((maskL (padZ (keyS key)) 92) ++ (shaD (maskL (padZ (keyS key)) 54 ++ l))) p') (oo := fun p' => Obj.cells (HC ((maskL (padZ (keyS key)) 92) ++ (shaD (maskL (padZ (keyS key)) 54 ++ l))) p').toArray 71) (by kernel_rfl) rfl rfl (fun w' hw => (write_calls (maskL (padZ (keyS key)) 92) p3 b22 (shaD (maskL (padZ (keyS key)) 54 ++ l)) (some ⟨b9, 0, none⟩) 32 32 (by first | assumption | omega) (by rw [maskL_length, padZ_length (keyS_length _)]; omega) w' hp3 (RB.of_own hw (.tail _ (.tail _ (.head _))) (shaD_length _)) (fun q hq h0 => by
      simp only [Option.some.injEq] at hq
      subst hq
      exact fun h => hw.apart (j := own b9 _) (.tail _ (.head _)) b22 rfl h.symm) (hw.it _ (.head _)) (hK.ne (by decide) hw (.head _)) (hK.sat hw)).mono (fun _ _ ⟨x, h1, h2, h3, h4⟩ => ⟨x, h1, h2, h3, h4⟩)) ?_)
    intro p4 hp4
    refine WL.nil ?_
    refine WX.next ?_
    refine WC.seq ?_
    refine WC.region ?_
    refine WL.val (OV.move rfl) rfl ?_
    refine WL.call0 (by kernel_rfl) rfl rfl (fun w' hw => hsum_calls _ p4 b22 (by rw [List.length_append, maskL_length, padZ_length (keyS_length _), shaD_length]; omega) w' hp4 (hw.it _ (.head _)) (hK.sat hw)) ?_
    refine WL.focus perm6 (WL.storeAll (vs := u8s (shaD (maskL (padZ (keyS key)) 92 ++ shaD (maskL (padZ (keyS key)) 54 ++ l)))) rfl rfl (List.all_eq_true.2 (u8s_one _)) (by rw [u8s_length, shaD_length]; exact T.z25) (by rw [u8s_length, u8s_length, shaD_length]; rfl) ?_)
    refine WL.nil ?_
    refine WX.next ?_
    refine WC.ret ?_
    exact WX.retC (cs := u8s (hmacD key l)) rfl rfl rfl T.u25 rfl (by rw [u8s_length, hmacD_length]; exact T.z25) (fun _ hw => own_cells hw (.head _)) (fun w hw => ⟨rfl, hw.fr⟩)
  · simp only [decide_eq_true_eq, decide_eq_false_iff_not, Bool.not_eq_true', Bool.not_eq_false'] at c12
    refine WC.region ?_
    refine WL.val (OV.sliceArrAll rfl T.u65 T.z5) rfl ?_
    refine WL.val (OV.move rfl) rfl ?_
    refine WL.copy rfl rfl T.u22 T.z5 (fun _ _ => hk.src) (u8s_one _) (by rw [u8s_length, List.length_replicate]; omega) rfl ?_
    rw [copy_pad hk.1 (by omega), show padZ key = padZ (keyS key) from by rw [keyS, if_neg (by rw [hk.1]; omega)]]
    refine WL.nil ?_
    refine WX.next ?_
    refine WC.seq ?_
    refine WC.region ?_
    refine WL.callF (it := fun b => own b (.cells (HC [] (List.replicate 64 0)).toArray 71 (0, 0))) (by kernel_rfl) rfl rfl (fun w' hw => new_calls w' (hF.sat hw)) ?_
    intro b21 _
    refine WL.callF (it := fun b => own b (.cells (HC [] (List.replicate 64 0)).toArray 71 (0, 0))) (by kernel_rfl) rfl rfl (fun w' hw => new_calls w' (hF.sat hw)) ?_
    intro b22 _
    refine WL.val (OV.assign rfl) rfl ?_
    refine WL.val (OV.assign rfl) rfl ?_
    refine WL.nil ?_
    refine WX.next ?_
    refine WC.seq ?_
    refine WC.region ?_
    refine WL.val (OV.move rfl) rfl ?_
    refine WL.val (OV.loadN (cs := u8s (padZ (keyS key))) rfl T.u65 rfl (by rw [u8s_length, padZ_length (keyS_length _)]; exact T.z65) (fun _ hw j v hj => by rw [add_off, Nat.zero_add]; exact own_cells hw (.tail _ (.tail _ (.head _))) j v hj)) rfl ?_
    refine WL.callF (it := fun b => own b (.cells (u8s (maskL (padZ (keyS key)) 54)).toArray 65 (0, 0))) (by kernel_rfl) rfl rfl (fun w' _ => masked_calls _ 54 (padZ_length (keyS_length _)) w') ?_
    intro b25 _
    refine WL.focus perm2 (WL.callM (ι := List UInt8) (vv := fun _ => .tuple #[]) (pp := fun p' => HP ([] ++ (maskL (padZ (keyS key)) 54)) p') (oo := fun p' => Obj.cells (HC ([] ++ (maskL (padZ (keyS key)) 54)) p').toArray 71) (by kernel_rfl) rfl rfl (fun w' hw => (write_calls [] (List.replicate 64 0) b21 (maskL (padZ (keyS key)) 54) (some ⟨b25, 0, none⟩) 64 64 (by first | assumption | omega) (by simp) w' hp_nil (RB.of_own hw (.tail _ (.head _)) (by rw [maskL_length, padZ_length (keyS_length _)])) (fun q hq h0 => by
      simp only [Option.some.injEq] at hq
      subst hq
      exact fun h => hw.apart (j := own b25 _) (.head _) b21 rfl h.symm) (hw.it _ (.head _)) (hK.ne (by decide) hw (.head _)) (hK.sat hw)).mono (fun _ _ ⟨x, h1, h2, h3, h4⟩ => ⟨x, h1, h2, h3, h4⟩)) ?_)
    intro p1 hp1
    rw [List.nil_append] at hp1
    rw [List.nil_append]
    refine WL.nil ?_
    refine WX.next ?_
    refine WC.seq ?_
    refine WC.region ?_
    refine WL.val (OV.move rfl) rfl ?_
    refine WL.val (OV.move rfl) rfl ?_
    refine (WL.callM (ι := List UInt8) (vv := fun _ => .tuple #[]) (pp := fun p' => HP ((maskL (padZ (keyS key)) 54) ++ l) p') (oo := fun p' => Obj.cells (HC ((maskL (padZ (keyS key)) 54) ++ l) p').toArray 71) (by kernel_rfl) rfl rfl (fun w' hw => (write_calls (maskL (padZ (keyS key)) 54) p1 b21 l a2 m2 c2 (by first | assumption | omega) (by rw [maskL_length, padZ_length (keyS_length _)]; omega) w' hp1 (hl.sat hw) (fun q hq h0 => own_ne_snap hw (.head _) (by subst hq; exact hl.block h0)) (hw.it _ (.head _)) (hK.ne (by decide) hw (.head _)) (hK.sat hw)).mono (fun _ _ ⟨x, h1, h2, h3, h4⟩ => ⟨x, h1, h2, h3, h4⟩)) ?_)
    intro p2 hp2
    refine WL.nil ?_
    refine WX.next ?_
    refine WC.seq ?_
    refine WC.region ?_
    refine WL.val (OV.move rfl) rfl ?_
    refine WL.call0 (by kernel_rfl) rfl rfl (fun w' hw => hsum_calls _ p2 b21 (by rw [List.length_append, maskL_length, padZ_length (keyS_length _), hl.1]; omega) w' hp2 (hw.it _ (.head _)) (hK.sat hw)) ?_
    refine WL.alloc T.zr25 rfl ?_
    intro b9
    refine WL.storeAll (vs := u8s (shaD (maskL (padZ (keyS key)) 54 ++ l))) rfl rfl (List.all_eq_true.2 (u8s_one _)) (by rw [u8s_length, shaD_length]; exact T.z25) (by rw [u8s_length, u8s_length, shaD_length]; rfl) ?_
    refine WL.nil ?_
    refine WX.next ?_
    refine WC.seq ?_
    refine WC.region ?_
    refine WL.val (OV.move rfl) rfl ?_
    refine WL.val (OV.loadN (cs := u8s (padZ (keyS key))) rfl T.u65 rfl (by rw [u8s_length, padZ_length (keyS_length _)]; exact T.z65) (fun _ hw j v hj => by rw [add_off, Nat.zero_add]; exact own_cells hw (.tail _ (.tail _ (.tail _ (.tail _ (.head _))))) j v hj)) rfl ?_
    refine WL.callF (it := fun b => own b (.cells (u8s (maskL (padZ (keyS key)) 92)).toArray 65 (0, 0))) (by kernel_rfl) rfl rfl (fun w' _ => masked_calls _ 92 (padZ_length (keyS_length _)) w') ?_
    intro b34 _
    refine WL.focus perm4 (WL.callM (ι := List UInt8) (vv := fun _ => .tuple #[]) (pp := fun p' => HP ([] ++ (maskL (padZ (keyS key)) 92)) p') (oo := fun p' => Obj.cells (HC ([] ++ (maskL (padZ (keyS key)) 92)) p').toArray 71) (by kernel_rfl) rfl rfl (fun w' hw => (write_calls [] (List.replicate 64 0) b22 (maskL (padZ (keyS key)) 92) (some ⟨b34, 0, none⟩) 64 64 (by first | assumption | omega) (by simp) w' hp_nil (RB.of_own hw (.tail _ (.head _)) (by rw [maskL_length, padZ_length (keyS_length _)])) (fun q hq h0 => by
      simp only [Option.some.injEq] at hq
      subst hq
      exact fun h => hw.apart (j := own b34 _) (.head _) b22 rfl h.symm) (hw.it _ (.head _)) (hK.ne (by decide) hw (.head _)) (hK.sat hw)).mono (fun _ _ ⟨x, h1, h2, h3, h4⟩ => ⟨x, h1, h2, h3, h4⟩)) ?_)
    intro p3 hp3
    rw [List.nil_append] at hp3
    rw [List.nil_append]
    refine WL.nil ?_
    refine WX.next ?_
    refine WC.seq ?_
    refine WC.region ?_
    refine WL.val (OV.move rfl) rfl ?_
    refine WL.val (OV.sliceArrAll rfl T.u25 T.z5) rfl ?_
    refine (WL.callM (ι := List UInt8) (vv := fun _ => .tuple #[]) (pp := fun p' => HP ((maskL (padZ (keyS key)) 92) ++ (shaD (maskL (padZ (keyS key)) 54 ++ l))) p') (oo := fun p' => Obj.cells (HC ((maskL (padZ (keyS key)) 92) ++ (shaD (maskL (padZ (keyS key)) 54 ++ l))) p').toArray 71) (by kernel_rfl) rfl rfl (fun w' hw => (write_calls (maskL (padZ (keyS key)) 92) p3 b22 (shaD (maskL (padZ (keyS key)) 54 ++ l)) (some ⟨b9, 0, none⟩) 32 32 (by first | assumption | omega) (by rw [maskL_length, padZ_length (keyS_length _)]; omega) w' hp3 (RB.of_own hw (.tail _ (.tail _ (.head _))) (shaD_length _)) (fun q hq h0 => by
      simp only [Option.some.injEq] at hq
      subst hq
      exact fun h => hw.apart (j := own b9 _) (.tail _ (.head _)) b22 rfl h.symm) (hw.it _ (.head _)) (hK.ne (by decide) hw (.head _)) (hK.sat hw)).mono (fun _ _ ⟨x, h1, h2, h3, h4⟩ => ⟨x, h1, h2, h3, h4⟩)) ?_)
    intro p4 hp4
    refine WL.nil ?_
    refine WX.next ?_
    refine WC.seq ?_
    refine WC.region ?_
    refine WL.val (OV.move rfl) rfl ?_
    refine WL.call0 (by kernel_rfl) rfl rfl (fun w' hw => hsum_calls _ p4 b22 (by rw [List.length_append, maskL_length, padZ_length (keyS_length _), shaD_length]; omega) w' hp4 (hw.it _ (.head _)) (hK.sat hw)) ?_
    refine WL.focus perm6 (WL.storeAll (vs := u8s (shaD (maskL (padZ (keyS key)) 92 ++ shaD (maskL (padZ (keyS key)) 54 ++ l)))) rfl rfl (List.all_eq_true.2 (u8s_one _)) (by rw [u8s_length, shaD_length]; exact T.z25) (by rw [u8s_length, u8s_length, shaD_length]; rfl) ?_)
    refine WL.nil ?_
    refine WX.next ?_
    refine WC.ret ?_
    exact WX.retC (cs := u8s (hmacD key l)) rfl rfl rfl T.u25 rfl (by rw [u8s_length, hmacD_length]; exact T.z25) (fun _ hw => own_cells hw (.head _)) (fun w hw => ⟨rfl, hw.fr⟩)

end Go.Proofs.YtplebagdajdcnaaDoor
