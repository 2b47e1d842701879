/- Contracts of functions of the program: what each returns and leaves in memory. Printed by gen.py and walk.py. -/
import Derived.Test.YtpgpkjbahlmgeaaGreatDoorMg14
set_option maxRecDepth 10000
namespace Go.Proofs.YtpgpkjbahlmgeaaGreatDoor
open Go Go.Hw
set_option linter.unusedSimpArgs false
set_option linter.unusedVariables false
theorem madeTm_take {l : List Tm} {i : Nat} {t : Tm} (h : l[i]? = some t) : (l.take (i + 1)).map madeTm = (l.take i).map madeTm ++ [madeTm t] := by rw [tk_snoc h, List.map_append]; rfl

set_option maxHeartbeats 1000000 in
theorem madeAtom_calls (x : At) (a : Option Addr) (c : Nat) (hl : x.args.length ≤ 1048576) (hs : x.name.size ≤ 1099511627776) (w : World) (hr : RT w a x.args) : Calls Tryz.prog 21 #[atV x a c] w fun e w' => ∃ z : Option Addr × Nat, e = .returned (atV (madeAt x) z.1 z.2) ∧ Turns [] [rowT z.1 z.2 (madeAt x).args] w w' := by
  refine enterS (args := [atV x a c]) (fun _ => False) Tryz.func21 rfl Tryz.ntmps21 rfl rfl ?_
  refine Csr (WL.box rfl rfl rfl ?_)
  intro b1
  refine WL.alloc T.zr26 rfl ?_
  intro b2
  refine Nn (Csr (Zv (OV.fieldAddr0 (off := 0) rfl T.u26 rfl) (Zv (OV.loadN (cs := tmC x.b) rfl T.u23 rfl T.z23 (fun _ hw j v hj => by rw [add_off]; exact own_part hw (.tail _ (.head _)) (o := 0) (cs' := tmC x.b) rfl j v hj)) (Zv (OV.fieldAddr0 (off := 3) rfl T.u26 rfl) (Zv (OV.load1 (v := .string x.name) rfl T.u9 rfl (fun _ hw => (cell_at (hw.it _ (.tail _ (.head _))) (o := 3) rfl).1)) (Zv (OV.buildStruct (xs := [(0, .tmp 7), (1, .tmp 9)]) (pl := [(0, 3), (3, 1), (4, 1)]) (cs := atC ⟨x.b, x.name, []⟩ none 0) T.u26 T.zr26 (by kernel_rfl) rfl (fill_cons (us := tmC x.b) rfl rfl (Nat.le_of_ble_eq_true rfl) (fill_cons (us := [_]) rfl rfl (Nat.le_of_ble_eq_true rfl) (rfl)))) (WL.alloc T.zr26 rfl ?_)))))))
  intro b3
  refine WL.storeAll (vs := atC ⟨x.b, x.name, []⟩ none 0) rfl rfl rfl T.z26 rfl ?_
  refine Nn (Cs (Csr (Zv (OV.fieldAddr0 (off := 0) rfl T.u26 rfl) (Zv (OV.loadN (cs := tmC x.b) rfl T.u23 rfl T.z23 (fun _ hw j v hj => by rw [add_off]; exact own_part hw (.tail _ (.tail _ (.head _))) (o := 0) (cs' := tmC x.b) rfl j v hj)) ?_))))
  obtain ⟨mb, hmb⟩ : ∃ mb, mb = if chkA ⟨x.b, pN, []⟩ = 0 then x.b else T0 := ⟨_, rfl⟩
  refine Zv (OV.buildStruct (xs := [(0, .tmp 12), (1, .const (.string pN))]) (pl := [(0, 3), (3, 1), (4, 1)]) (cs := atC ⟨x.b, pN, []⟩ none 0) T.u26 T.zr26 (by kernel_rfl) rfl (fill_cons (us := tmC x.b) rfl rfl (Nat.le_of_ble_eq_true rfl) (fill_cons (us := [_]) rfl rfl (Nat.le_of_ble_eq_true rfl) (rfl)))) (WL.call0 (v := .int .i64 (chkA ⟨x.b, pN, []⟩)) (by kernel_rfl) rfl rfl (fun w' hw' => refChk_calls ⟨x.b, pN, []⟩ none 0 (by show 0 ≤ _; omega) (by show 1 ≤ _; omega) w' (RT.nil0 _)) ?_)
  refine Zv (OV.neq rfl rfl) (Nn ?_)
  refine WC.meet [(1, .pointer (some ⟨b1, 0, none⟩)), (2, .pointer (some ⟨b2, 0, none⟩)), (3, .pointer (some ⟨b3, 0, none⟩))] (Sat0 w (own b3 (.cells (atC ⟨mb, x.name, []⟩ none 0).toArray 26 (0, 0)) :: own b2 (.cells (atC ⟨T0, E0, []⟩ none 0).toArray 26 (0, 0)) :: own b1 (.cells (atC x a c).toArray 26 (0, 0)) :: [])) ?_ ?_
  · refine Cc rfl (fun c15 => ?_) (fun c15 => ?_)
    · refine Cr (Zv (OV.buildStruct (xs := []) (pl := [(0, 1), (1, 1), (2, 1)]) (cs := tmC T0) T.u23 T.zr23 (by kernel_rfl) rfl rfl) (Zv (OV.fieldAddr0 (off := 0) rfl T.u26 rfl) (WL.storeN (o := 0) (vs := tmC T0) rfl rfl rfl T.z23 (Nat.le_of_ble_eq_true rfl) ?_)))
      refine Nl ?_
      have em : mb = T0 := by rw [hmb, if_neg c15]
      exact WX.meet ⟨rfl, rfl, rfl, trivial⟩ (fun w' hw => by rw [em]; exact hw)
    refine Ck ?_
    have em : mb = x.b := by rw [hmb, if_pos (by simpa using c15)]
    exact WX.meet ⟨rfl, rfl, rfl, trivial⟩ (fun w' hw => by rw [em]; exact hw)
  refine Cs (Csr (Zv (OV.fieldAddr0 (off := 3) rfl T.u26 rfl) (Zv (OV.load1 (v := .string x.name) rfl T.u9 rfl (fun _ hw => (cell_at (hw.it _ (.tail _ (.tail _ (.head _)))) (o := 3) rfl).1)) ?_)))
  obtain ⟨mn, hmn⟩ : ∃ mn, mn = if chkA ⟨T0, x.name, []⟩ = 0 then x.name else pN := ⟨_, rfl⟩
  refine Zv (OV.buildStruct (xs := [(1, .tmp 19)]) (pl := [(0, 3), (3, 1), (4, 1)]) (cs := atC ⟨T0, x.name, []⟩ none 0) T.u26 T.zr26 (by kernel_rfl) rfl (fill_cons (us := [_]) rfl rfl (Nat.le_of_ble_eq_true rfl) (rfl))) (WL.call0 (v := .int .i64 (chkA ⟨T0, x.name, []⟩)) (by kernel_rfl) rfl rfl (fun w' hw' => refChk_calls ⟨T0, x.name, []⟩ none 0 (by show 0 ≤ _; omega) hs w' (RT.nil0 _)) ?_)
  refine Zv (OV.neq rfl rfl) (Nn ?_)
  refine WC.meet [(1, .pointer (some ⟨b1, 0, none⟩)), (2, .pointer (some ⟨b2, 0, none⟩)), (3, .pointer (some ⟨b3, 0, none⟩))] (Sat0 w (own b3 (.cells (atC ⟨mb, mn, []⟩ none 0).toArray 26 (0, 0)) :: own b2 (.cells (atC ⟨T0, E0, []⟩ none 0).toArray 26 (0, 0)) :: own b1 (.cells (atC x a c).toArray 26 (0, 0)) :: [])) ?_ ?_
  · refine Cc rfl (fun c22 => ?_) (fun c22 => ?_)
    · refine Cr (Zv (OV.fieldAddr0 (off := 3) rfl T.u26 rfl) (WL.store1 (o := 3) rfl rfl rfl T.z9 (by show 3 < 5; omega) ?_))
      refine Nl ?_
      have em : mn = pN := by rw [hmn, if_neg c22]
      exact WX.meet ⟨rfl, rfl, rfl, trivial⟩ (fun w' hw => by rw [em]; exact hw)
    refine Ck ?_
    have em : mn = x.name := by rw [hmn, if_pos (by simpa using c22)]
    exact WX.meet ⟨rfl, rfl, rfl, trivial⟩ (fun w' hw => by rw [em]; exact hw)
  refine Cs (Csr (Za rfl (Nn ?_)))
  refine WC.meetI (fun (z : Option Addr × Nat) => [(1, .pointer (some ⟨b1, 0, none⟩)), (2, .pointer (some ⟨b2, 0, none⟩)), (3, .pointer (some ⟨b3, 0, none⟩))]) (fun (z : Option Addr × Nat) => Sat0 w (rowT z.1 z.2 (madeAt x).args :: own b3 (.cells (atC (madeAt x) z.1 z.2).toArray 26 (0, 0)) :: own b2 (.cells (atC ⟨T0, E0, []⟩ none 0).toArray 26 (0, 0)) :: own b1 (.cells (atC x a c).toArray 26 (0, 0)) :: [])) ?_ ?_
  · refine Cb (WC.weak (S' := Sat0 w (row 23 3 none 0 0 [] :: own b3 (.cells (atC ⟨mb, mn, []⟩ none 0).toArray 26 (0, 0)) :: own b2 (.cells (atC ⟨T0, E0, []⟩ none 0).toArray 26 (0, 0)) :: own b1 (.cells (atC x a c).toArray 26 (0, 0)) :: [])) (fun w' hw => hw.rowNil 23 3) ?_)
    refine WC.loop4 (fun (i : Nat) (la : Option Addr) (lc : Nat) (args : List Tm) => [(1, .pointer (some ⟨b1, 0, none⟩)), (2, .pointer (some ⟨b2, 0, none⟩)), (3, .pointer (some ⟨b3, 0, none⟩)), (4, .int .i64 (i : Int))])
        (fun i la lc args w' => (i ≤ x.args.length ∧ i ≤ 8 ∧ args.length = i ∧ args = (x.args.take i).map madeTm) ∧ Sat0 w (rowT la lc args :: own b3 (.cells (atC ⟨mb, mn, args⟩ la lc).toArray 26 (0, 0)) :: own b2 (.cells (atC ⟨T0, E0, []⟩ none 0).toArray 26 (0, 0)) :: own b1 (.cells (atC x a c).toArray 26 (0, 0)) :: []) w')
        (fun i _ _ _ => x.args.length - i) 0 none 0 [] ⟨rfl, rfl, rfl, rfl, trivial⟩ (fun w' hw => ⟨⟨by omega, by omega, rfl, rfl⟩, hw⟩) ?_
    intro i la lc args
    refine WC.pure (fun hi => ?_)
    obtain ⟨hi, hi8, hal, hae⟩ := hi
    refine Cs (Csr (Zm rfl (Zv (OV.fieldAddr0 (off := 4) rfl T.u26 rfl) (Zv (OV.load1 (v := .slice a x.args.length c) rfl T.u24 rfl (fun _ hw => (cell_at (hw.it _ (.tail _ (.tail _ (.tail _ (.head _))))) (o := 4) rfl).1)) (Zv (OV.lenSlice rfl T.u24) (Zv (OV.lss rfl rfl) (Zm rfl ?_)))))))
    refine Zp (t := 29) rfl (fun g29 => ?_) (fun g29 => ?_)
    · refine Zg rfl rfl rfl (Zm rfl (Zg rfl rfl rfl (Zv (OV.lss rfl rfl) (Zv (OV.pickT rfl rfl) (Nn ?_)))))
      refine Cc rfl (fun c32 => ?_) (fun c32 => ?_)
      · refine Ck (Xn (Cs (Cb (Csr (Zv (OV.fieldAddr0 (off := 4) rfl T.u26 rfl) (Zv (OV.load1 (v := .slice a x.args.length c) rfl T.u24 rfl (fun _ hw => (cell_at (hw.it _ (.tail _ (.tail _ (.tail _ (.head _))))) (o := 4) rfl).1)) (Zm rfl ?_)))))))
        obtain ⟨q1, t, hq, ht, htm, _, hc⟩ := hr.get (i := i) (by omega)
        refine Zv ((OV.indexSlice (show _ = some (Value.slice (some q1) x.args.length c) by rw [← hq]; rfl) rfl T.u24 T.z23 (by omega)).cast (u := .pointer (some (q1.add (i * 3)))) (by rw [Int.toNat_natCast])) (Zv (OV.loadN (cs := tmC t) rfl T.u23 rfl T.z23 (fun _ hw j v hj => hw.keeps _ _ (hc j v hj))) (WL.alloc T.zr23 rfl ?_))
        intro b5
        refine WL.storeAll (vs := tmC t) rfl rfl rfl T.z23 rfl ?_
        refine Nn (Cs (Csr (Zv (OV.loadN (cs := tmC t) rfl T.u23 rfl T.z23 (fun _ hw j v hj => by rw [add_off, Nat.zero_add]; exact own_cells hw (.head _) j v hj)) (WL.call0 (v := .bool (varB t)) (by kernel_rfl) rfl rfl (fun w' hw' => refVar_calls t w') ?_))))
        refine Zv (OV.not rfl) (Nn ?_)
        refine WC.meet [(1, .pointer (some ⟨b1, 0, none⟩)), (2, .pointer (some ⟨b2, 0, none⟩)), (3, .pointer (some ⟨b3, 0, none⟩)), (4, .int .i64 (i : Int)), (5, .pointer (some ⟨b5, 0, none⟩))] (Sat0 w (own b5 (.cells (tmC (madeTm t)).toArray 23 (0, 0)) :: rowT la lc args :: own b3 (.cells (atC ⟨mb, mn, args⟩ la lc).toArray 26 (0, 0)) :: own b2 (.cells (atC ⟨T0, E0, []⟩ none 0).toArray 26 (0, 0)) :: own b1 (.cells (atC x a c).toArray 26 (0, 0)) :: [])) ?_ ?_
        · refine Cc rfl (fun c42 => ?_) (fun c42 => ?_)
          · refine Cr (Zv (OV.loadN (cs := tmC t) rfl T.u23 rfl T.z23 (fun _ hw j v hj => by rw [add_off, Nat.zero_add]; exact own_cells hw (.head _) j v hj)) (WL.call0 (v := tmV (madeConst t)) (by kernel_rfl) rfl rfl (fun w' hw' => madeConst_calls t w') ?_))
            refine WL.storeAll (vs := tmC (madeConst t)) rfl rfl rfl T.z23 rfl ?_
            refine Nl ?_
            have em : madeTm t = madeConst t := by unfold madeTm; rw [if_neg (by simpa using c42)]
            exact WX.meet ⟨rfl, rfl, rfl, rfl, rfl, trivial⟩ (fun w' hw => by rw [em]; exact hw)
          refine Ck ?_
          have em : madeTm t = t := by unfold madeTm; rw [if_pos (by simpa using c42)]
          exact WX.meet ⟨rfl, rfl, rfl, rfl, rfl, trivial⟩ (fun w' hw => by rw [em]; exact hw)
        refine WC.focus (ow' := own b5 (.cells (tmC (madeTm t)).toArray 23 (0, 0)) :: own b3 (.cells (atC ⟨mb, mn, args⟩ la lc).toArray 26 (0, 0)) :: rowT la lc args :: own b2 (.cells (atC ⟨T0, E0, []⟩ none 0).toArray 26 (0, 0)) :: own b1 (.cells (atC x a c).toArray 26 (0, 0)) :: []) (perm_pick [_, _, _, _, _] [0, 2, 1, 3, 4] (by decide) rfl) ?_
        refine Cr (Zv (OV.fieldAddr0 (off := 4) rfl T.u26 rfl) (Zv (OV.load1 (v := .slice la args.length lc) rfl T.u24 rfl (fun _ hw => (cell_at (hw.it _ (.tail _ (.head _))) (o := 4) rfl).1)) (Zv (OV.loadN (cs := tmC (madeTm t)) rfl T.u23 rfl T.z23 (fun _ hw j v hj => by rw [add_off, Nat.zero_add]; exact own_cells hw (.head _) j v hj)) (WL.buildSliceA (cs := tmC (madeTm t)) T.u24 T.z23 T.zr23 rfl rfl (by omega) (by omega) rfl ?_))))
        intro b48
        refine WL.focus (ow' := own b48 (.cells (tmC (madeTm t)).toArray 23 (0, 0)) :: own b5 (.cells (tmC (madeTm t)).toArray 23 (0, 0)) :: rowT la lc args :: own b3 (.cells (atC ⟨mb, mn, args⟩ la lc).toArray 26 (0, 0)) :: own b2 (.cells (atC ⟨T0, E0, []⟩ none 0).toArray 26 (0, 0)) :: own b1 (.cells (atC x a c).toArray 26 (0, 0)) :: []) (perm_pick [_, _, _, _, _, _] [0, 1, 3, 2, 4, 5] (by decide) rfl) ?_
        refine WL.focus (ow' := rowT la lc args :: own b48 (.cells (tmC (madeTm t)).toArray 23 (0, 0)) :: own b5 (.cells (tmC (madeTm t)).toArray 23 (0, 0)) :: own b3 (.cells (atC ⟨mb, mn, args⟩ la lc).toArray 26 (0, 0)) :: own b2 (.cells (atC ⟨T0, E0, []⟩ none 0).toArray 26 (0, 0)) :: own b1 (.cells (atC x a c).toArray 26 (0, 0)) :: []) (perm_pick [_, _, _, _, _, _] [2, 0, 1, 3, 4, 5] (by decide) rfl) ?_
        refine WL.append (news := tmC (madeTm t)) rfl rfl T.apT (fun _ _ => own_srcN (.tail _ (.head _)) rfl) (tmC_one _) ⟨by omega, by unfold maxLen; omega⟩ rfl ?_
        intro a49 c49
        refine Zv (OV.fieldAddr0 (off := 4) rfl T.u26 rfl) ?_
        refine WL.focus perm3 (WL.store1 (o := 4) rfl rfl rfl T.z24 (by show 4 < 5; omega) ?_)
        refine Nl (Xb (Xn (Cr (Zm rfl (Zv (OV.addN (j := 1) rfl rfl (by omega)) (Za rfl (Nl ?_)))))))
        have el : args.length + 1 = (args ++ [madeTm t]).length := by simp
        have ef : args.flatMap tmC ++ tmC (madeTm t) = (args ++ [madeTm t]).flatMap tmC := by simp
        exact WX.round4 (i + 1) a49 c49 (args ++ [madeTm t]) ⟨rfl, rfl, rfl, rfl, trivial⟩ (fun w' hw => ⟨⟨by omega, by omega, by simp [hal], by rw [madeTm_take ht, hae]⟩, by
          rw [el, ef] at hw
          exact hw.pick [[own b3 (.cells (atC ⟨mb, mn, args ++ [madeTm t]⟩ a49 c49).toArray 26 (0, 0))], [rowT a49 c49 (args ++ [madeTm t])], [own b48 (.cells (tmC (madeTm t)).toArray 23 (0, 0))], [own b5 (.cells (tmC (madeTm t)).toArray 23 (0, 0))], [own b2 (.cells (atC ⟨T0, E0, []⟩ none 0).toArray 26 (0, 0))], [own b1 (.cells (atC x a c).toArray 26 (0, 0))]] [1, 0, 4, 5] 6 rfl (by decide) (by decide)⟩) (by show x.args.length - (i + 1) < x.args.length - i; omega)
      refine Ce (Xe (Xe (Xh ?_)))
      have e8 : x.args.take 8 = x.args.take i := by
        rcases Nat.lt_or_ge i 8 with h | h
        · rw [List.take_of_length_le (by omega), List.take_of_length_le (by omega)]
        · rw [show i = 8 by omega]
      have hat : madeAt x = ⟨mb, mn, args⟩ := by unfold madeAt; rw [← hmb, ← hmn, hae, e8]
      exact WX.meetI (la, lc) ⟨rfl, rfl, rfl, trivial⟩ (fun w' hw => by rw [hat]; exact hw)
    refine Zs rfl rfl rfl (Zs rfl rfl rfl (Zv (OV.pickF rfl rfl) (Nn (WC.condF (show _ = some (Value.bool false) from by rfl) ?_))))
    refine Ce (Xe (Xe (Xh ?_)))
    have e8 : x.args.take 8 = x.args.take i := by
      rcases Nat.lt_or_ge i 8 with h | h
      · rw [List.take_of_length_le (by omega), List.take_of_length_le (by omega)]
      · rw [show i = 8 by omega]
    have hat : madeAt x = ⟨mb, mn, args⟩ := by unfold madeAt; rw [← hmb, ← hmn, hae, e8]
    exact WX.meetI (la, lc) ⟨rfl, rfl, rfl, trivial⟩ (fun w' hw => by rw [hat]; exact hw)
  rintro ⟨la, lc⟩
  refine WC.focus (ow' := own b3 (.cells (atC (madeAt x) la lc).toArray 26 (0, 0)) :: rowT la lc (madeAt x).args :: own b2 (.cells (atC ⟨T0, E0, []⟩ none 0).toArray 26 (0, 0)) :: own b1 (.cells (atC x a c).toArray 26 (0, 0)) :: []) (perm_pick [_, _, _, _] [1, 0, 2, 3] (by decide) rfl) ?_
  refine Csr (Zv (OV.loadN (cs := atC (madeAt x) la lc) rfl T.u26 rfl T.z26 (fun _ hw j v hj => by rw [add_off, Nat.zero_add]; exact own_cells hw (.head _) j v hj)) ?_)
  refine WL.focus perm2 (WL.storeAll (vs := atC (madeAt x) la lc) rfl rfl rfl T.z26 rfl ?_)
  refine Nn (WC.ret ?_)
  refine WX.retC (cs := atC (madeAt x) la lc) rfl rfl rfl T.u26 rfl T.z26 (fun w' hw j v hj => own_cells hw (.head _) j v hj) (fun w' hw => ⟨(la, lc), rfl, ?_⟩)
  exact (hw.pick [[own b2 (.cells (atC (madeAt x) la lc).toArray 26 (0, 0))], [own b3 (.cells (atC (madeAt x) la lc).toArray 26 (0, 0))], [rowT la lc (madeAt x).args], [own b1 (.cells (atC x a c).toArray 26 (0, 0))]] [2] 4 rfl (by decide) (by decide)).turned0

theorem safe_calls (l : List Tm) (a : Option Addr) (c : Nat) (t : Tm) (hl : l.length ≤ 1099511627776) (w : World) (hr : RT w a l) : Calls Tryz.prog 23 #[.slice a l.length c, tmV t] w fun e w' => e = .returned (tmV (safeT l t)) ∧ Fr0 w w' := by
  refine enterS (args := [.slice a l.length c, tmV t]) (fun _ => False) Tryz.func23 rfl Tryz.ntmps23 rfl rfl ?_
  refine Csr (WL.box rfl rfl rfl ?_)
  intro b3
  refine WL.alloc T.zr23 rfl ?_
  intro b4
  refine Nn (Cs (Csr (Zm rfl (Zv (OV.loadN (cs := tmC t) rfl T.u23 rfl T.z23 (fun _ hw j v hj => by rw [add_off, Nat.zero_add]; exact own_cells hw (.tail _ (.head _)) j v hj)) (WL.call0 (v := .bool (decide (t ∈ l))) (by kernel_rfl) rfl rfl (fun w' hw' => within_calls l a c t hl w' (hr.keeps hw'.keeps)) ?_)))))
  refine Nn ?_
  refine Cc rfl (fun c7 => ?_) (fun c7 => ?_)
  · refine Csr (Zv (OV.loadN (cs := tmC t) rfl T.u23 rfl T.z23 (fun _ hw j v hj => by rw [add_off, Nat.zero_add]; exact own_cells hw (.tail _ (.head _)) j v hj)) (WL.storeAll (vs := tmC (safeT l t)) rfl (by rw [show safeT l t = t by unfold safeT; rw [if_pos c7]]; rfl) rfl T.z23 rfl ?_))
    refine Nn (WC.ret ?_)
    refine Xr ?_
    exact WX.retC (cs := tmC (safeT l t)) rfl rfl rfl T.u23 rfl T.z23 (fun w' hw j v hj => own_cells hw (.head _) j v hj) (fun w' hw => ⟨rfl, hw.fr⟩)
  refine Ck (Xn (Csr (Zv (OV.loadN (cs := tmC t) rfl T.u23 rfl T.z23 (fun _ hw j v hj => by rw [add_off, Nat.zero_add]; exact own_cells hw (.tail _ (.head _)) j v hj)) (WL.call0 (v := tmV (groundT t)) (by kernel_rfl) rfl rfl (fun w' hw' => ground_calls t w') ?_))))
  refine WL.storeAll (vs := tmC (safeT l t)) rfl (by rw [show safeT l t = groundT t by unfold safeT; rw [if_neg c7]]; rfl) rfl T.z23 rfl ?_
  refine Nn (WC.ret ?_)
  exact WX.retC (cs := tmC (safeT l t)) rfl rfl rfl T.u23 rfl T.z23 (fun w' hw j v hj => own_cells hw (.head _) j v hj) (fun w' hw => ⟨rfl, hw.fr⟩)

theorem madeTest_calls (t : Ts) (l : List Tm) (a : Option Addr) (c : Nat) (hl : l.length ≤ 1099511627776) (w : World) (hr : RT w a l) : Calls Tryz.prog 24 #[tsV t, .slice a l.length c] w fun e w' => e = .returned (tsV (madeTs l t)) ∧ Fr0 w w' := by
  refine enterS (args := [tsV t, .slice a l.length c]) (fun _ => False) Tryz.func24 rfl Tryz.ntmps24 rfl rfl ?_
  refine Csr (WL.box rfl rfl rfl ?_)
  intro b2
  refine WL.alloc T.zr45 rfl ?_
  intro b4
  refine Nn (Csr (Zv (OV.fieldAddr0 (off := 0) rfl T.u45 rfl) (Zv (OV.load1 (v := .int .i64 t.op) rfl T.u3 rfl (fun _ hw => (cell_at (hw.it _ (.tail _ (.head _))) (o := 0) rfl).1)) (Za rfl (Nn (Cs (Cs ?_)))))))
  refine WC.meet [(1, .slice a l.length c), (2, .pointer (some ⟨b2, 0, none⟩)), (4, .pointer (some ⟨b4, 0, none⟩)), (5, .int .i64 t.op), (15, .bool (decide (t.op < 1 ∨ 4 < t.op)))] (Sat0 w (own b4 (.cells (tsC ⟨0, T0, T0⟩).toArray 45 (0, 0)) :: own b2 (.cells (tsC t).toArray 45 (0, 0)) :: [])) ?_ ?_
  · refine Cr (Zm rfl (Zv (OV.lss rfl rfl) (Zm rfl ?_)))
    refine Zp (t := 12) rfl (fun g12 => ?_) (fun g12 => ?_)
    · refine Zs rfl rfl rfl (Zs rfl rfl rfl (Zv (OV.pickT rfl rfl) (Nl ?_)))
      exact WX.meet ⟨rfl, rfl, rfl, rfl, by rw [decide_eq_true (Or.inl g12)]; rfl, trivial⟩ (fun w' hw => hw)
    refine Zg rfl rfl rfl (Zm rfl (Zg rfl rfl rfl (Zv (OV.gtr rfl rfl) (Zv (OV.pickF rfl rfl) (Nl ?_)))))
    exact WX.meet ⟨rfl, rfl, rfl, rfl, by rw [show decide (t.op < 1 ∨ 4 < t.op) = decide (t.op > 4) from decide_eq_decide.2 ⟨fun h => h.resolve_left g12, Or.inr⟩]; rfl, trivial⟩ (fun w' hw => hw)
  refine WC.meet [(1, .slice a l.length c), (2, .pointer (some ⟨b2, 0, none⟩)), (4, .pointer (some ⟨b4, 0, none⟩)), (5, .int .i64 (madeOp t.op))] (Sat0 w (own b4 (.cells (tsC ⟨0, T0, T0⟩).toArray 45 (0, 0)) :: own b2 (.cells (tsC t).toArray 45 (0, 0)) :: [])) ?_ ?_
  · refine Cc rfl (fun c15 => ?_) (fun c15 => ?_)
    · refine Cr (Zm rfl ?_)
      have h1 := Int.tmod_lt_of_pos t.op (show (0 : Int) < 4 by decide)
      have h2 := Int.lt_tmod_of_pos t.op (show (0 : Int) < 4 by decide)
      refine Zv (OV.rem rfl rfl rfl) (Zv (OV.addI rfl rfl (by omega)) ?_)
      have h3 : (t.op.tmod 4 + 4).tmod 4 = (t.op.tmod 4 + 4) % 4 := Int.tmod_eq_emod_of_nonneg (by omega)
      refine Zv (OV.rem rfl rfl rfl) (Zv (OV.addI rfl rfl (by rw [h3]; omega)) (Za rfl (Nl ?_)))
      have em : madeOp t.op = 1 + (t.op.tmod 4 + 4).tmod 4 := by unfold madeOp; rw [if_pos c15]
      exact WX.meet ⟨rfl, rfl, rfl, by rw [em]; rfl, trivial⟩ (fun w' hw => hw)
    refine Ck ?_
    have em : madeOp t.op = t.op := by unfold madeOp; rw [if_neg c15]
    exact WX.meet ⟨rfl, rfl, rfl, by rw [em]; rfl, trivial⟩ (fun w' hw => hw)
  refine Csr (Zv (OV.fieldAddr0 (off := 1) rfl T.u45 rfl) (Zv (OV.loadN (cs := tmC t.l) rfl T.u23 rfl T.z23 (fun _ hw j v hj => by rw [add_off]; exact own_part hw (.tail _ (.head _)) (o := 1) (cs' := tmC t.l) rfl j v hj)) (WL.alloc T.zr23 rfl ?_)))
  intro b6
  refine WL.storeAll (vs := tmC t.l) rfl rfl rfl T.z23 rfl ?_
  refine Nn (Csr (Zv (OV.fieldAddr0 (off := 4) rfl T.u45 rfl) (Zv (OV.loadN (cs := tmC t.r) rfl T.u23 rfl T.z23 (fun _ hw j v hj => by rw [add_off]; exact own_part hw (.tail _ (.tail _ (.head _))) (o := 4) (cs' := tmC t.r) rfl j v hj)) (WL.alloc T.zr23 rfl ?_))))
  intro b7
  refine WL.storeAll (vs := tmC t.r) rfl rfl rfl T.z23 rfl ?_
  refine Nn (Cs (Csr (Zv (OV.loadN (cs := tmC t.l) rfl T.u23 rfl T.z23 (fun _ hw j v hj => by rw [add_off, Nat.zero_add]; exact own_cells hw (.tail _ (.head _)) j v hj)) (WL.call0 (v := .bool (varB t.l)) (by kernel_rfl) rfl rfl (fun w' hw' => refVar_calls t.l w') ?_))))
  refine Zv (OV.not rfl) (Nn ?_)
  refine WC.meet [(1, .slice a l.length c), (2, .pointer (some ⟨b2, 0, none⟩)), (4, .pointer (some ⟨b4, 0, none⟩)), (5, .int .i64 (madeOp t.op)), (6, .pointer (some ⟨b6, 0, none⟩)), (7, .pointer (some ⟨b7, 0, none⟩))] (Sat0 w (own b7 (.cells (tmC t.r).toArray 23 (0, 0)) :: own b6 (.cells (tmC (madeTm t.l)).toArray 23 (0, 0)) :: own b4 (.cells (tsC ⟨0, T0, T0⟩).toArray 45 (0, 0)) :: own b2 (.cells (tsC t).toArray 45 (0, 0)) :: [])) ?_ ?_
  · refine Cc rfl (fun c27 => ?_) (fun c27 => ?_)
    · refine Cr (Zv (OV.loadN (cs := tmC t.l) rfl T.u23 rfl T.z23 (fun _ hw j v hj => by rw [add_off, Nat.zero_add]; exact own_cells hw (.tail _ (.head _)) j v hj)) (WL.call0 (v := tmV (madeConst t.l)) (by kernel_rfl) rfl rfl (fun w' hw' => madeConst_calls t.l w') ?_))
      refine WL.focus perm1 (WL.storeAll (vs := tmC (madeConst t.l)) rfl rfl rfl T.z23 rfl ?_)
      refine Nl ?_
      have em : madeTm t.l = madeConst t.l := by unfold madeTm; rw [if_neg (by simpa using c27)]
      exact WX.meet ⟨rfl, rfl, rfl, rfl, rfl, rfl, trivial⟩ (fun w' hw => by rw [em]; exact hw.perm (perm_pick [_, _, _, _] [1, 0, 2, 3] (by decide) rfl))
    refine Ck ?_
    have em : madeTm t.l = t.l := by unfold madeTm; rw [if_pos (by simpa using c27)]
    exact WX.meet ⟨rfl, rfl, rfl, rfl, rfl, rfl, trivial⟩ (fun w' hw => by rw [em]; exact hw)
  refine Cs (Csr (Zv (OV.loadN (cs := tmC t.r) rfl T.u23 rfl T.z23 (fun _ hw j v hj => by rw [add_off, Nat.zero_add]; exact own_cells hw (.head _) j v hj)) (WL.call0 (v := .bool (varB t.r)) (by kernel_rfl) rfl rfl (fun w' hw' => refVar_calls t.r w') ?_)))
  refine Zv (OV.not rfl) (Nn ?_)
  refine WC.meet [(1, .slice a l.length c), (2, .pointer (some ⟨b2, 0, none⟩)), (4, .pointer (some ⟨b4, 0, none⟩)), (5, .int .i64 (madeOp t.op)), (6, .pointer (some ⟨b6, 0, none⟩)), (7, .pointer (some ⟨b7, 0, none⟩))] (Sat0 w (own b7 (.cells (tmC (madeTm t.r)).toArray 23 (0, 0)) :: own b6 (.cells (tmC (madeTm t.l)).toArray 23 (0, 0)) :: own b4 (.cells (tsC ⟨0, T0, T0⟩).toArray 45 (0, 0)) :: own b2 (.cells (tsC t).toArray 45 (0, 0)) :: [])) ?_ ?_
  · refine Cc rfl (fun c32 => ?_) (fun c32 => ?_)
    · refine Cr (Zv (OV.loadN (cs := tmC t.r) rfl T.u23 rfl T.z23 (fun _ hw j v hj => by rw [add_off, Nat.zero_add]; exact own_cells hw (.head _) j v hj)) (WL.call0 (v := tmV (madeConst t.r)) (by kernel_rfl) rfl rfl (fun w' hw' => madeConst_calls t.r w') ?_))
      refine WL.storeAll (vs := tmC (madeConst t.r)) rfl rfl rfl T.z23 rfl ?_
      refine Nl ?_
      have em : madeTm t.r = madeConst t.r := by unfold madeTm; rw [if_neg (by simpa using c32)]
      exact WX.meet ⟨rfl, rfl, rfl, rfl, rfl, rfl, trivial⟩ (fun w' hw => by rw [em]; exact hw)
    refine Ck ?_
    have em : madeTm t.r = t.r := by unfold madeTm; rw [if_pos (by simpa using c32)]
    exact WX.meet ⟨rfl, rfl, rfl, rfl, rfl, rfl, trivial⟩ (fun w' hw => by rw [em]; exact hw)
  refine Cs (Hd (fun w' => w'.heap[b6]? = some (.cells (tmC (madeTm t.l)).toArray 23 (0, 0)) ∧ w'.heap[b7]? = some (.cells (tmC (madeTm t.r)).toArray 23 (0, 0))) [] (fun _ hw => ⟨hw.it (own b6 (.cells (tmC (madeTm t.l)).toArray 23 (0, 0))) (by simp), hw.it (own b7 (.cells (tmC (madeTm t.r)).toArray 23 (0, 0))) (by simp)⟩) (m := 9) rfl ?_)
  refine Hf 0 rfl (OV.move rfl) (Hf 1 rfl (OV.move rfl) (Ht 2 rfl (OV.loadN (cs := tmC (madeTm t.l)) rfl T.u23 rfl T.z23 (fun _ hw j v hj => by rw [add_off]; exact heap_part hw.1 (o := 0) (cs' := tmC (madeTm t.l)) rfl j v hj)) (Hf 4 rfl (OV.move rfl) (Ht 5 rfl (OV.loadN (cs := tmC (madeTm t.r)) rfl T.u23 rfl T.z23 (fun _ hw j v hj => by rw [add_off]; exact heap_part hw.2 (o := 0) (cs' := tmC (madeTm t.r)) rfl j v hj)) (Ho 3 rfl (fl' := false) rfl ?_)))))
  refine WL.call0 (v := tmV (safeT l (madeTm t.l))) (by kernel_rfl) rfl rfl (fun w' hw' => safe_calls l a c (madeTm t.l) hl w' (hr.keeps hw'.keeps)) ?_
  refine Hc (fun _ => (fun _ hw => ⟨hw.it (own b6 (.cells (tmC (madeTm t.l)).toArray 23 (0, 0))) (by simp), hw.it (own b7 (.cells (tmC (madeTm t.r)).toArray 23 (0, 0))) (by simp)⟩)) ?_
  refine Ho 6 rfl (fl' := false) rfl ?_
  refine WL.call0 (v := tmV (safeT l (madeTm t.r))) (by kernel_rfl) rfl rfl (fun w' hw' => safe_calls l a c (madeTm t.r) hl w' (hr.keeps hw'.keeps)) ?_
  refine Hc (fun _ => (fun _ hw => ⟨hw.it (own b6 (.cells (tmC (madeTm t.l)).toArray 23 (0, 0))) (by simp), hw.it (own b7 (.cells (tmC (madeTm t.r)).toArray 23 (0, 0))) (by simp)⟩)) ?_
  refine Hf 7 rfl (OV.buildStruct (xs := [(0, .tmp 35), (1, .tmp 38), (2, .tmp 41)]) (pl := [(0, 1), (1, 3), (4, 3)]) (cs := tsC (madeTs l t)) T.u45 T.zr45 (by kernel_rfl) rfl (fill_cons (us := [_]) rfl rfl (Nat.le_of_ble_eq_true rfl) (fill_cons (us := tmC (safeT l (madeTm t.l))) rfl rfl (Nat.le_of_ble_eq_true rfl) (fill_cons (us := tmC (safeT l (madeTm t.r))) rfl rfl (Nat.le_of_ble_eq_true rfl) rfl)))) (Ho 8 rfl (fl' := false) rfl ?_)
  refine WL.focus perm2 (WL.storeAll (vs := tsC (madeTs l t)) rfl rfl rfl T.z45 rfl ?_)
  refine Hc (fun _ => (fun _ hw => ⟨hw.it (own b6 (.cells (tmC (madeTm t.l)).toArray 23 (0, 0))) (by simp), hw.it (own b7 (.cells (tmC (madeTm t.r)).toArray 23 (0, 0))) (by simp)⟩)) ?_
  refine He (Xn (WC.ret ?_))
  exact WX.retC (cs := tsC (madeTs l t)) rfl rfl rfl T.u45 rfl T.z45 (fun w' hw j v hj => own_cells hw (.head _) j v hj) (fun w' hw => ⟨rfl, hw.fr⟩)

end Go.Proofs.YtpgpkjbahlmgeaaGreatDoor

set_option maxRecDepth 10000
namespace Go.Proofs.YtpgpkjbahlmgeaaGreatDoor
open Go Go.Hw
set_option linter.unusedSimpArgs false
set_option linter.unusedVariables false
def putA (x : At) (l : List Tm) (p : Nat) : At := ⟨l.getD p T0, x.name, (l.drop (p + 1)).take x.args.length⟩
theorem put_at (f : Tm → Tm) (x : At) (A B : List Tm) : putA x (A ++ ((plc x).map f ++ B)) A.length = mapA f x := by
  unfold putA mapA
  congr 1
  · rw [List.getD_eq_getElem?_getD, List.getElem?_append_right (Nat.le_refl _), Nat.sub_self]; rfl
  · rw [List.drop_append, List.drop_eq_nil_of_le (by omega), List.nil_append, show A.length + 1 - A.length = 1 by omega, show (plc x).map f ++ B = f x.b :: (x.args.map f ++ B) from rfl, List.drop_succ_cons, List.drop_zero, List.take_append_of_le_length (by simp), List.take_of_length_le (by simp)]
theorem drop_get {l : List Tm} {p i : Nat} {t : Tm} (h : l[p + i]? = some t) : (l.drop p)[i]? = some t := by rw [List.getElem?_drop]; exact h
def posB (g : CG) (i : Nat) : Nat := (plc g.hd.x).length + ((g.bd.take i).flatMap fun y => plc y.x).length
theorem posB_succ {g : CG} {i : Nat} {y : AG} (h : g.bd[i]? = some y) : posB g (i + 1) = posB g i + 1 + y.x.args.length := by
  unfold posB
  rw [bodyTm_take h, List.length_append, show (plc y.x).length = y.x.args.length + 1 by simp [plc]]
  omega
theorem put_hd (f : Tm → Tm) (g : CG) : putA g.hd.x ((termsC g.cl).map f) 0 = mapA f g.hd.x := by
  have e : (termsC g.cl).map f = [] ++ ((plc g.hd.x).map f ++ (bodyTm g.cl ++ testTm g.cl).map f) := by unfold termsC; rw [List.map_append]; rfl
  rw [e]
  exact put_at f g.hd.x [] _
theorem body_split {g : CG} {i : Nat} {y : AG} (h : g.bd[i]? = some y) : ∃ B, bodyTm g.cl = ((g.bd.take i).flatMap fun y => plc y.x) ++ (plc y.x ++ B) := by
  refine ⟨(g.bd.drop (i + 1)).flatMap fun y => plc y.x, ?_⟩
  rw [bodyTm_cg]
  conv => lhs; rw [← List.take_append_drop (i + 1) g.bd, List.flatMap_append, bodyTm_take h]
  rw [List.append_assoc]
theorem put_bd (f : Tm → Tm) {g : CG} {i : Nat} {y : AG} (h : g.bd[i]? = some y) : putA y.x ((termsC g.cl).map f) (posB g i) = mapA f y.x ∧ posB g i + 1 + y.x.args.length ≤ (termsC g.cl).length := by
  obtain ⟨B, hB⟩ := body_split h
  have e : termsC g.cl = (plc g.hd.x ++ ((g.bd.take i).flatMap fun y => plc y.x)) ++ (plc y.x ++ (B ++ testTm g.cl)) := by
    unfold termsC
    rw [hB]
    simp only [List.append_assoc]
    rfl
  have e2 : (termsC g.cl).map f = ((plc g.hd.x ++ ((g.bd.take i).flatMap fun y => plc y.x)).map f) ++ ((plc y.x).map f ++ (B ++ testTm g.cl).map f) := by rw [e]; simp only [List.map_append]
  have el : ((plc g.hd.x ++ ((g.bd.take i).flatMap fun y => plc y.x)).map f).length = posB g i := by rw [List.length_map, List.length_append]; rfl
  refine ⟨?_, ?_⟩
  · rw [e2, ← el]; exact put_at f y.x _ _
  · have h1 : (plc y.x).length = y.x.args.length + 1 := by simp [plc]
    have h2 := congrArg List.length e
    rw [List.length_map] at el
    simp only [List.length_append] at h2 el
    omega
theorem posB_end (g : CG) {i : Nat} (h : g.bd.length ≤ i) : posB g i = (plc g.hd.x).length + (bodyTm g.cl).length := by
  unfold posB
  rw [List.take_of_length_le h, bodyTm_cg]
theorem termsC_len (c : Cl) : (termsC c).length = (plc c.hd).length + (bodyTm c).length + 2 * c.ts.length := by
  unfold termsC
  rw [List.length_append, List.length_append, testTm_len]; omega
theorem test_get {g : CG} {i : Nat} {t : Ts} (h : g.ts[i]? = some t) : (testTm g.cl)[2 * i]? = some t.l ∧ (testTm g.cl)[2 * i + 1]? = some t.r := by
  have key : ∀ (ts : List Ts) (i : Nat), ts[i]? = some t → (ts.flatMap plT)[2 * i]? = some t.l ∧ (ts.flatMap plT)[2 * i + 1]? = some t.r := by
    intro ts
    induction ts with
    | nil => intro i h; simp at h
    | cons u ts ih =>
      intro i h
      cases i with
      | zero =>
        simp only [List.getElem?_cons_zero, Option.some.injEq] at h
        subst h
        exact ⟨rfl, rfl⟩
      | succ i =>
        have := ih i (by simpa using h)
        rw [List.flatMap_cons, show 2 * (i + 1) = 2 * i + 2 by omega]
        exact this
  exact key g.ts i h
theorem terms_test {g : CG} {i : Nat} {t : Ts} (f : Tm → Tm) (h : g.ts[i]? = some t) (p : Nat) (hp : p = (plc g.hd.x).length + (bodyTm g.cl).length + 2 * i) : ((termsC g.cl).map f)[p]? = some (f t.l) ∧ ((termsC g.cl).map f)[p + 1]? = some (f t.r) := by
  obtain ⟨h1, h2⟩ := test_get h
  have e : termsC g.cl = (plc g.hd.x ++ bodyTm g.cl) ++ testTm g.cl := by unfold termsC; rw [List.append_assoc]; rfl
  have el : (plc g.hd.x ++ bodyTm g.cl).length = (plc g.hd.x).length + (bodyTm g.cl).length := List.length_append
  rw [List.getElem?_map, List.getElem?_map, e, List.getElem?_append_right (by omega), List.getElem?_append_right (by omega), el, show p - ((plc g.hd.x).length + (bodyTm g.cl).length) = 2 * i by omega, show p + 1 - ((plc g.hd.x).length + (bodyTm g.cl).length) = 2 * i + 1 by omega, h1, h2]
  exact ⟨rfl, rfl⟩
theorem mapC_eq {f : Tm → Tm} {g : CG} {y : AG} {ba : Option Addr} {bc : Nat} {ys : List AG} {ta : Option Addr} {tc : Nat} {us : List Ts} (hy : y.x = mapA f g.hd.x) (hys : ys.map AG.x = g.bd.map fun y => mapA f y.x) (hus : us = g.ts.map (mapT f)) : (⟨y, ba, bc, ys, ta, tc, us⟩ : CG).cl = mapC f g.cl := by
  unfold CG.cl mapC
  simp only [hy, hys, hus, List.map_map]
  rfl

theorem putAtom_calls (x : At) (xa : Option Addr) (xc : Nat) (l : List Tm) (la : Option Addr) (lc p : Nat) (hp : p + 1 + x.args.length ≤ l.length) (hl : l.length ≤ 1048576) (w : World) (hr : RT w la l) : Calls Tryz.prog 88 #[atV x xa xc, .slice la l.length lc, .int .i64 (p : Int)] w fun e w' => ∃ z : Option Addr × Nat, e = .returned (.tuple #[atV (putA x l p) z.1 z.2, .int .i64 ((p + 1 + x.args.length : Nat) : Int)]) ∧ Turns [] [rowT z.1 z.2 (putA x l p).args] w w' := by
  refine enterS (args := [atV x xa xc, .slice la l.length lc, .int .i64 (p : Int)]) (fun _ => False) Tryz.func88 rfl Tryz.ntmps88 rfl rfl ?_
  refine Csr (WL.box rfl rfl rfl ?_)
  intro b3
  refine WL.alloc T.zr26 rfl ?_
  intro b6
  refine Za rfl (Nn (Cs (Hd (fun w' => w'.heap[b3]? = some (.cells (atC x xa xc).toArray 26 (0, 0)) ∧ Keeps w w') [] (fun _ hw => ⟨hw.it (own b3 (.cells (atC x xa xc).toArray 26 (0, 0))) (by simp), hw.keeps⟩) (m := 9) rfl ?_)))
  refine Hf 0 rfl (OV.move rfl) (Hf 1 rfl (OV.move rfl) ?_)
  obtain ⟨q1, t0, hq, ht, htm, _, hc⟩ := hr.get (i := p) (by omega)
  refine Hf 2 rfl ((OV.indexSlice (show _ = some (Value.slice (some q1) l.length lc) by rw [← hq]; rfl) rfl T.u24 T.z23 (by omega)).cast (u := .pointer (some (q1.add (p * 3)))) (by rw [Int.toNat_natCast])) (Ht 3 rfl (OV.loadN (cs := tmC t0) rfl T.u23 rfl T.z23 (fun _ hw j v hj => hw.2 _ _ (hc j v hj))) (Hf 4 rfl (OV.fieldAddr0 (off := 3) rfl T.u26 rfl) (Ht 5 rfl (OV.load1 (v := .string x.name) rfl T.u9 rfl (fun _ hw => (cell_at hw.1 (o := 3) rfl).1)) (Hf 6 rfl (OV.buildStruct (xs := [(0, .tmp 13), (1, .tmp 15)]) (pl := [(0, 3), (3, 1), (4, 1)]) (cs := atC ⟨t0, x.name, []⟩ none 0) T.u26 T.zr26 (by kernel_rfl) rfl (fill_cons (us := tmC t0) rfl rfl (Nat.le_of_ble_eq_true rfl) (fill_cons (us := [_]) rfl rfl (Nat.le_of_ble_eq_true rfl) rfl))) (Ho 7 rfl (fl' := false) rfl ?_)))))
  refine WL.alloc T.zr26 rfl ?_
  intro bb8
  refine Hc (fun _ => (fun _ hw => ⟨hw.it (own b3 (.cells (atC x xa xc).toArray 26 (0, 0))) (by simp), hw.keeps⟩)) ?_
  refine Ho 8 rfl (fl' := false) rfl ?_
  refine WL.storeAll (vs := atC ⟨t0, x.name, []⟩ none 0) rfl rfl rfl T.z26 rfl ?_
  refine Hc (fun _ => (fun _ hw => ⟨hw.it (own b3 (.cells (atC x xa xc).toArray 26 (0, 0))) (by simp), hw.keeps⟩)) ?_
  refine He (Xn (Csr (Zm rfl (Zv (OV.addN (j := 1) rfl rfl (by omega)) (Za rfl (Nn (Cs (Csr (Za rfl (Nn (Cb (WC.weak (S' := Sat0 w (own bb8 (.cells (atC ⟨t0, x.name, []⟩ none 0).toArray 26 (0, 0)) :: row 23 3 none 0 0 [] :: own b3 (.cells (atC x xa xc).toArray 26 (0, 0)) :: own b6 (.cells (atC ⟨T0, E0, []⟩ none 0).toArray 26 (0, 0)) :: [])) (fun w' hw => (hw.rowNil 23 3).perm (perm_pick [_, _, _, _] [1, 0, 3, 2] (by decide) rfl)) ?_))))))))))))
  refine WC.loop4 (fun (i : Nat) (ya : Option Addr) (yc : Nat) (args : List Tm) => [(1, .slice la l.length lc), (2, .int .i64 ((p + 1 + i : Nat) : Int)), (3, .pointer (some ⟨b3, 0, none⟩)), (6, .pointer (some ⟨b6, 0, none⟩)), (8, .pointer (some ⟨bb8, 0, none⟩)), (9, .int .i64 (i : Int))])
      (fun i ya yc args w' => (i ≤ x.args.length ∧ args.length = i ∧ args = (l.drop (p + 1)).take i) ∧ Sat0 w (own bb8 (.cells (atC ⟨t0, x.name, args⟩ ya yc).toArray 26 (0, 0)) :: rowT ya yc args :: own b3 (.cells (atC x xa xc).toArray 26 (0, 0)) :: own b6 (.cells (atC ⟨T0, E0, []⟩ none 0).toArray 26 (0, 0)) :: []) w')
      (fun i _ _ _ => x.args.length - i) 0 none 0 [] ⟨rfl, rfl, rfl, rfl, rfl, rfl, trivial⟩ (fun w' hw => ⟨⟨by omega, rfl, rfl⟩, hw⟩) ?_
  intro i ya yc args
  refine WC.pure (fun hi => ?_)
  obtain ⟨hi, hal, hae⟩ := hi
  refine Cs (Csr (Zm rfl (Zv (OV.fieldAddr0 (off := 4) rfl T.u26 rfl) (Zv (OV.load1 (v := .slice xa x.args.length xc) rfl T.u24 rfl (fun _ hw => (cell_at (hw.it _ (.tail _ (.tail _ (.head _)))) (o := 4) rfl).1)) (Zv (OV.lenSlice rfl T.u24) (Zv (OV.lss rfl rfl) (Nn ?_)))))))
  refine Cc rfl (fun c23 => ?_) (fun c23 => ?_)
  · refine Ck (Xn (Cs (Cb (Cs (Hd (fun w' => w'.heap[bb8]? = some (.cells (atC ⟨t0, x.name, args⟩ ya yc).toArray 26 (0, 0)) ∧ Keeps w w') [9] (fun _ hw => ⟨hw.it (own bb8 (.cells (atC ⟨t0, x.name, args⟩ ya yc).toArray 26 (0, 0))) (by simp), hw.keeps⟩) (m := 10) rfl ?_)))))
    refine Hf 0 rfl (OV.fieldAddr0 (off := 4) rfl T.u26 rfl) (Ht 1 rfl (OV.load1 (v := .slice ya args.length yc) rfl T.u24 rfl (fun _ hw => (cell_at hw.1 (o := 4) rfl).1)) (Hf 2 rfl (OV.move rfl) (Hf 3 rfl (OV.move rfl) ?_)))
    obtain ⟨q2, t, hq2, ht2, htm2, _, hc2⟩ := hr.get (i := (p + 1 + i)) (by omega)
    refine Hf 4 rfl ((OV.indexSlice (show _ = some (Value.slice (some q2) l.length lc) by rw [← hq2]; rfl) rfl T.u24 T.z23 (by omega)).cast (u := .pointer (some (q2.add ((p + 1 + i) * 3)))) (by rw [Int.toNat_natCast])) (Ht 5 rfl (OV.loadN (cs := tmC t) rfl T.u23 rfl T.z23 (fun _ hw j v hj => hw.2 _ _ (hc2 j v hj))) (Ho 6 rfl (fl' := false) rfl ?_))
    refine WL.buildSliceA (cs := tmC t) T.u24 T.z23 T.zr23 rfl rfl (by omega) (by omega) rfl ?_
    intro bb32
    refine Hc (fun _ => (fun _ hw => ⟨hw.it (own bb8 (.cells (atC ⟨t0, x.name, args⟩ ya yc).toArray 26 (0, 0))) (by simp), hw.keeps⟩)) ?_
    refine Ho 7 rfl (fl' := false) rfl ?_
    refine WL.focus (ow' := rowT ya yc args :: own bb32 (.cells (tmC t).toArray 23 (0, 0)) :: own bb8 (.cells (atC ⟨t0, x.name, args⟩ ya yc).toArray 26 (0, 0)) :: own b3 (.cells (atC x xa xc).toArray 26 (0, 0)) :: own b6 (.cells (atC ⟨T0, E0, []⟩ none 0).toArray 26 (0, 0)) :: []) (perm_pick [_, _, _, _, _] [2, 0, 1, 3, 4] (by decide) rfl) ?_
    refine WL.append (news := tmC t) rfl rfl T.apT (fun _ _ => own_srcN (.tail _ (.head _)) rfl) (tmC_one _) ⟨by omega, by unfold maxLen; omega⟩ rfl ?_
    intro a33 c33
    refine Hc (fun _ => (fun _ hw => ⟨hw.it (own bb8 (.cells (atC ⟨t0, x.name, args⟩ ya yc).toArray 26 (0, 0))) (by simp), hw.keeps⟩)) ?_
    refine Hf 8 rfl (OV.fieldAddr0 (off := 4) rfl T.u26 rfl) (Ho 9 rfl (fl' := true) rfl ?_)
    refine WL.focus perm2 (WL.store1 (o := 4) rfl rfl rfl T.z24 (by show 4 < 5; omega) ?_)
    refine Hc (fun h => by cases h) ?_
    refine He (Xn (Cr (Zm rfl (Zv (OV.addN (j := 1) rfl rfl (by omega)) (Za rfl (Nl (Xb (Xn (Cr (Zm rfl (Zv (OV.addN (j := 1) rfl rfl (by omega)) (Za rfl (Nl ?_)))))))))))))
    have el : args.length + 1 = (args ++ [t]).length := by simp
    have ef : args.flatMap tmC ++ tmC t = (args ++ [t]).flatMap tmC := by simp
    exact WX.round4 (i + 1) a33 c33 (args ++ [t]) ⟨rfl, rfl, rfl, rfl, rfl, rfl, trivial⟩ (fun w' hw => ⟨⟨by omega, by simp [hal], by rw [tk_snoc (drop_get ht2), hae]⟩, by
      rw [el, ef] at hw
      exact hw.pick [[own bb8 (.cells (atC ⟨t0, x.name, (args ++ [t])⟩ a33 c33).toArray 26 (0, 0))], [rowT a33 c33 (args ++ [t])], [own bb32 (.cells (tmC t).toArray 23 (0, 0))], [own b3 (.cells (atC x xa xc).toArray 26 (0, 0))], [own b6 (.cells (atC ⟨T0, E0, []⟩ none 0).toArray 26 (0, 0))]] [0, 1, 3, 4] 5 rfl (by decide) (by decide)⟩) (by show x.args.length - (i + 1) < x.args.length - i; omega)
  refine Ce (Xe (Xe (Xh (Xn (Csr (Zv (OV.loadN (cs := atC ⟨t0, x.name, args⟩ ya yc) rfl T.u26 rfl T.z26 (fun _ hw j v hj => by rw [add_off, Nat.zero_add]; exact own_cells hw (.head _) j v hj)) (Zm rfl ?_)))))))
  refine WL.focus perm3 (WL.storeAll (vs := atC ⟨t0, x.name, args⟩ ya yc) rfl rfl rfl T.z26 rfl ?_)
  refine Za rfl (Nn (WC.ret ?_))
  have hat : putA x l p = ⟨t0, x.name, args⟩ := by
    unfold putA
    rw [List.getD_eq_getElem?_getD, ht, hae, show i = x.args.length by omega]; rfl
  have hpi : p + 1 + i = p + 1 + x.args.length := by omega
  rw [hat]
  refine WX.retC2 (cs := atC ⟨t0, x.name, args⟩ ya yc) rfl rfl rfl rfl T.u26 rfl T.z26 (fun w' hw j v hj => own_cells hw (.head _) j v hj) (fun w' hw => ⟨(ya, yc), by rw [hpi], ?_⟩)
  exact (hw.pick [[own b6 (.cells (atC ⟨t0, x.name, args⟩ ya yc).toArray 26 (0, 0))], [own bb8 (.cells (atC ⟨t0, x.name, args⟩ ya yc).toArray 26 (0, 0))], [rowT ya yc args], [own b3 (.cells (atC x xa xc).toArray 26 (0, 0))]] [2] 4 rfl (by decide) (by decide)).turned0

end Go.Proofs.YtpgpkjbahlmgeaaGreatDoor

set_option maxRecDepth 10000
namespace Go.Proofs.YtpgpkjbahlmgeaaGreatDoor
open Go Go.Hw
set_option linter.unusedSimpArgs false
set_option linter.unusedVariables false
theorem argsA_snoc (ys : List AG) (y : AG) : argsA (ys ++ [y]) = argsA ys ++ [argA y] := by simp [argsA]

set_option maxHeartbeats 1000000 in
theorem put_calls (g : CG) (f : Tm → Tm) (hm : (termsC g.cl).length ≤ 1048576) (hl : g.bd.length ≤ 1048576) (la : Option Addr) (lc : Nat) (w : World) (hr : RC w g) (hrl : RT w la ((termsC g.cl).map f)) : Calls Tryz.prog 57 #[cgV g, .slice la (termsC g.cl).length lc] w fun e w' => ∃ g' : CG, e = .returned (cgV g') ∧ g'.cl = mapC f g.cl ∧ Turns [] (cgA g') w w' := by
  refine enterS (args := [cgV g, .slice la (termsC g.cl).length lc]) (fun _ => False) Tryz.func57 rfl Tryz.ntmps57 rfl rfl ?_
  refine Csr (WL.box rfl rfl rfl ?_)
  intro b2
  refine WL.alloc T.zr30 rfl ?_
  intro b4
  refine Nn (Csr (Za rfl (Nn (Csr (WL.alloc T.zr30 rfl ?_)))))
  intro b6
  refine Nn (Csr (Zv (OV.fieldAddr0 (off := 0) rfl T.u30 rfl) (Zv (OV.loadN (cs := atC g.hd.x g.hd.a g.hd.c) rfl T.u26 rfl T.z26 (fun _ hw j v hj => by rw [add_off]; exact own_part hw (.tail _ (.tail _ (.head _))) (o := 0) (cs' := atC g.hd.x g.hd.a g.hd.c) rfl j v hj)) (Zm rfl (Zm rfl ?_)))))
  have hbl := termsC_len g.cl
  have hpl : (plc g.cl.hd).length = g.hd.x.args.length + 1 := by simp [plc, CG.cl]
  refine WL.callTA (ι := Option Addr × Nat) (vs := [atV g.hd.x g.hd.a g.hd.c, .slice la (termsC g.cl).length lc, .int .i64 ((0 : Nat) : Int)]) (vv := fun z => .tuple #[atV (mapA f g.hd.x) z.1 z.2, .int .i64 ((0 + 1 + g.hd.x.args.length : Nat) : Int)]) (pp := fun _ => True) [] (AA := fun z => [rowT z.1 z.2 (mapA f g.hd.x).args]) rfl (by kernel_rfl) rfl rfl (fun w' hw' _ => ?_) ?_
  · have h9 := putAtom_calls g.hd.x g.hd.a g.hd.c ((termsC g.cl).map f) la lc (0) (by rw [List.length_map]; omega) (by rw [List.length_map]; exact hm) w' (hrl.keeps hw'.keeps)
    rw [List.length_map, put_hd f g] at h9
    exact h9.mono (fun en w'' ⟨z, h1, h2⟩ => ⟨z, h1, trivial, h2⟩)
  rintro ⟨hda, hdc⟩ _
  refine Zm rfl (Zv (OV.extract rfl rfl) (Zv (OV.extract rfl rfl) (Zv (OV.fieldAddr0 (off := 0) rfl T.u30 rfl) ?_)))
  refine WL.focus perm1 (WL.storeN (o := 0) (vs := atC (mapA f g.hd.x) hda hdc) rfl rfl rfl T.z26 (Nat.le_of_ble_eq_true rfl) ?_)
  refine Za rfl (Nn (Cs (Csr (Za rfl (Nn (Cb (WC.weak (S' := Sat0 w (own b6 (.cells (cgC ⟨⟨mapA f g.hd.x, hda, hdc⟩, none, 0, [], none, 0, []⟩).toArray 30 (0, 0)) :: row 26 5 none 0 0 [] :: rowT hda hdc (mapA f g.hd.x).args :: own b4 (.cells (cgC ⟨⟨⟨T0, E0, []⟩, none, 0⟩, none, 0, [], none, 0, []⟩).toArray 30 (0, 0)) :: own b2 (.cells (cgC g).toArray 30 (0, 0)) :: [])) (fun w' hw => (hw.rowNil 26 5).perm (perm_pick [_, _, _, _, _] [1, 0, 2, 3, 4] (by decide) rfl)) ?_)))))))
  refine WC.loop4 (fun (i : Nat) (ba : Option Addr) (bc : Nat) (ys : List AG) => [(1, .slice la (termsC g.cl).length lc), (2, .pointer (some ⟨b2, 0, none⟩)), (4, .pointer (some ⟨b4, 0, none⟩)), (6, .pointer (some ⟨b6, 0, none⟩)), (5, .int .i64 ((posB g i : Nat) : Int)), (7, .int .i64 (i : Int))])
      (fun i ba bc ys w' => (i ≤ g.bd.length ∧ ys.length = i ∧ ys.map AG.x = (g.bd.take i).map fun y => mapA f y.x) ∧ Sat0 w (own b6 (.cells (cgC ⟨⟨mapA f g.hd.x, hda, hdc⟩, ba, bc, ys, none, 0, []⟩).toArray 30 (0, 0)) :: rowAt ba bc ys :: rowT hda hdc (mapA f g.hd.x).args :: own b4 (.cells (cgC ⟨⟨⟨T0, E0, []⟩, none, 0⟩, none, 0, [], none, 0, []⟩).toArray 30 (0, 0)) :: own b2 (.cells (cgC g).toArray 30 (0, 0)) :: argsA ys) w')
      (fun i _ _ _ => g.bd.length - i) 0 none 0 [] ⟨rfl, rfl, rfl, rfl, by show _ = some (Value.int .i64 (((plc g.hd.x).length + 0 : Nat) : Int)); rw [show (plc g.hd.x).length + 0 = 0 + 1 + g.hd.x.args.length by simp [plc]; omega]; rfl, rfl, trivial⟩ (fun w' hw => ⟨⟨by omega, rfl, rfl⟩, hw⟩) ?_
  intro i ba bc ys
  refine WC.pure (fun hi => ?_)
  obtain ⟨hi, hyl, hyx⟩ := hi
  refine Cs (Csr (Zm rfl (Zv (OV.fieldAddr0 (off := 5) rfl T.u30 rfl) (Zv (OV.load1 (v := .slice g.ba g.bd.length g.bc) rfl T.u27 rfl (fun _ hw => (cell_at (hw.it _ (.tail _ (.tail _ (.tail _ (.tail _ (.head _)))))) (o := 5) rfl).1)) (Zv (OV.lenSlice rfl T.u27) (Zv (OV.lss rfl rfl) (Nn ?_)))))))
  refine Cc rfl (fun c23 => ?_) (fun c23 => ?_)
  · refine Ck (Xn (Cs (Cb (Csr (Zv (OV.buildStruct (xs := []) (pl := [(0, 3), (3, 1), (4, 1)]) (cs := atC ⟨T0, E0, []⟩ none 0) T.u26 T.zr26 (by kernel_rfl) rfl rfl) (WL.alloc T.zr26 rfl ?_))))))
    intro bb8
    refine WL.storeAll (vs := atC ⟨T0, E0, []⟩ none 0) rfl rfl rfl T.z26 rfl ?_
    refine Nn (Csr (Zv (OV.fieldAddr0 (off := 5) rfl T.u30 rfl) (Zv (OV.load1 (v := .slice g.ba g.bd.length g.bc) rfl T.u27 rfl (fun _ hw => (cell_at (hw.it _ (.tail _ (.tail _ (.tail _ (.tail _ (.tail _ (.head _))))))) (o := 5) rfl).1)) (Zm rfl ?_))))
    obtain ⟨q1, y, hq, ht, htm, hra, hc⟩ := hr.bd.get (i := i) (by omega)
    refine Zv ((OV.indexSlice (show _ = some (Value.slice (some q1) g.bd.length g.bc) by rw [← hq]; rfl) rfl T.u27 T.z26 (by omega)).cast (u := .pointer (some (q1.add (i * 5)))) (by rw [Int.toNat_natCast])) (Zv (OV.loadN (cs := atC y.x y.a y.c) rfl T.u26 rfl T.z26 (fun _ hw j v hj => hw.keeps _ _ (hc j v hj))) (Zm rfl (Zm rfl ?_)))
    obtain ⟨hpb, hpl2⟩ := put_bd f ht
    refine WL.callTA (ι := Option Addr × Nat) (vs := [atV y.x y.a y.c, .slice la (termsC g.cl).length lc, .int .i64 ((posB g i : Nat) : Int)]) (vv := fun z => .tuple #[atV (mapA f y.x) z.1 z.2, .int .i64 ((posB g i + 1 + y.x.args.length : Nat) : Int)]) (pp := fun _ => True) [] (AA := fun z => [rowT z.1 z.2 (mapA f y.x).args]) rfl (by kernel_rfl) rfl rfl (fun w' hw' _ => ?_) ?_
    · have h9 := putAtom_calls y.x y.a y.c ((termsC g.cl).map f) la lc (posB g i) (by rw [List.length_map]; omega) (by rw [List.length_map]; exact hm) w' (hrl.keeps hw'.keeps)
      rw [List.length_map, hpb] at h9
      exact h9.mono (fun en w'' ⟨z, h1, h2⟩ => ⟨z, h1, trivial, h2⟩)
    rintro ⟨qa, qc⟩ _
    refine WL.focus (ow' := own bb8 (.cells (atC ⟨T0, E0, []⟩ none 0).toArray 26 (0, 0)) :: rowT qa qc (mapA f y.x).args :: own b6 (.cells (cgC ⟨⟨mapA f g.hd.x, hda, hdc⟩, ba, bc, ys, none, 0, []⟩).toArray 30 (0, 0)) :: rowAt ba bc ys :: rowT hda hdc (mapA f g.hd.x).args :: own b4 (.cells (cgC ⟨⟨⟨T0, E0, []⟩, none, 0⟩, none, 0, [], none, 0, []⟩).toArray 30 (0, 0)) :: own b2 (.cells (cgC g).toArray 30 (0, 0)) :: argsA ys) (perm_pick [_, _, _, _, _, _, _] [1, 0, 2, 3, 4, 5, 6] (by decide) rfl) ?_
    refine Zm rfl (Zv (OV.extract rfl rfl) (Zv (OV.extract rfl rfl) (WL.storeAll (vs := agC (⟨mapA f y.x, qa, qc⟩ : AG)) rfl rfl rfl T.z26 rfl ?_)))
    refine WL.focus (ow' := own bb8 (.cells (agC (⟨mapA f y.x, qa, qc⟩ : AG)).toArray 26 (0, 0)) :: own b6 (.cells (cgC ⟨⟨mapA f g.hd.x, hda, hdc⟩, ba, bc, ys, none, 0, []⟩).toArray 30 (0, 0)) :: rowT qa qc (mapA f y.x).args :: rowAt ba bc ys :: rowT hda hdc (mapA f g.hd.x).args :: own b4 (.cells (cgC ⟨⟨⟨T0, E0, []⟩, none, 0⟩, none, 0, [], none, 0, []⟩).toArray 30 (0, 0)) :: own b2 (.cells (cgC g).toArray 30 (0, 0)) :: argsA ys) (perm_pick [_, _, _, _, _, _, _] [0, 2, 1, 3, 4, 5, 6] (by decide) rfl) ?_
    refine Za rfl (Nn (Cr (Zv (OV.fieldAddr0 (off := 5) rfl T.u30 rfl) (Zv (OV.load1 (v := .slice ba ys.length bc) rfl T.u27 rfl (fun _ hw => (cell_at (hw.it _ (.tail _ (.head _))) (o := 5) rfl).1)) (Zv (OV.loadN (cs := agC (⟨mapA f y.x, qa, qc⟩ : AG)) rfl T.u26 rfl T.z26 (fun _ hw j v hj => by rw [add_off, Nat.zero_add]; exact own_cells hw (.head _) j v hj)) (WL.buildSliceA (cs := agC (⟨mapA f y.x, qa, qc⟩ : AG)) T.u27 T.z26 T.zr26 rfl rfl (by omega) (by omega) rfl ?_))))))
    intro b41
    refine WL.focus (ow' := rowAt ba bc ys :: own b41 (.cells (agC (⟨mapA f y.x, qa, qc⟩ : AG)).toArray 26 (0, 0)) :: own bb8 (.cells (agC (⟨mapA f y.x, qa, qc⟩ : AG)).toArray 26 (0, 0)) :: own b6 (.cells (cgC ⟨⟨mapA f g.hd.x, hda, hdc⟩, ba, bc, ys, none, 0, []⟩).toArray 30 (0, 0)) :: rowT qa qc (mapA f y.x).args :: rowT hda hdc (mapA f g.hd.x).args :: own b4 (.cells (cgC ⟨⟨⟨T0, E0, []⟩, none, 0⟩, none, 0, [], none, 0, []⟩).toArray 30 (0, 0)) :: own b2 (.cells (cgC g).toArray 30 (0, 0)) :: argsA ys) (perm_pick [_, _, _, _, _, _, _, _] [4, 0, 1, 2, 3, 5, 6, 7] (by decide) rfl) ?_
    refine WL.append (news := agC (⟨mapA f y.x, qa, qc⟩ : AG)) rfl rfl T.apA (fun _ _ => own_srcN (.tail _ (.head _)) rfl) (agC_one _) ⟨by omega, by unfold maxLen; omega⟩ rfl ?_
    intro a42 c42
    refine Zv (OV.fieldAddr0 (off := 5) rfl T.u30 rfl) ?_
    refine WL.focus (ow' := own b6 (.cells (cgC ⟨⟨mapA f g.hd.x, hda, hdc⟩, ba, bc, ys, none, 0, []⟩).toArray 30 (0, 0)) :: rowAt a42 c42 (ys ++ [(⟨mapA f y.x, qa, qc⟩ : AG)]) :: own b41 (.cells (agC (⟨mapA f y.x, qa, qc⟩ : AG)).toArray 26 (0, 0)) :: own bb8 (.cells (agC (⟨mapA f y.x, qa, qc⟩ : AG)).toArray 26 (0, 0)) :: rowT qa qc (mapA f y.x).args :: rowT hda hdc (mapA f g.hd.x).args :: own b4 (.cells (cgC ⟨⟨⟨T0, E0, []⟩, none, 0⟩, none, 0, [], none, 0, []⟩).toArray 30 (0, 0)) :: own b2 (.cells (cgC g).toArray 30 (0, 0)) :: argsA ys) (by
      rw [show ys.length + 1 = (ys ++ [(⟨mapA f y.x, qa, qc⟩ : AG)]).length by simp, show ys.flatMap agC ++ agC (⟨mapA f y.x, qa, qc⟩ : AG) = (ys ++ [(⟨mapA f y.x, qa, qc⟩ : AG)]).flatMap agC by simp]
      exact perm_pick [_, _, _, _, _, _, _, _] [3, 0, 1, 2, 4, 5, 6, 7] (by decide) rfl) (WL.store1 (o := 5) rfl rfl rfl T.z27 (by show 5 < 7; omega) ?_)
    refine Nl (Xb (Xn (Cr (Zm rfl (Zv (OV.addN (j := 1) rfl rfl (by omega)) (Za rfl (Nl ?_)))))))
    exact WX.round4 (i + 1) a42 c42 (ys ++ [(⟨mapA f y.x, qa, qc⟩ : AG)]) ⟨rfl, rfl, rfl, rfl, by rw [posB_succ ht]; rfl, rfl, trivial⟩ (fun w' hw => ⟨⟨by omega, by simp [hyl], by rw [tk_snoc ht, List.map_append, List.map_append, hyx]; rfl⟩, by
      rw [argsA_snoc]
      rw [show ys.length + 1 = (ys ++ [(⟨mapA f y.x, qa, qc⟩ : AG)]).length by simp] at hw
      refine Hw.Sat.pick [[own b6 (.cells (cgC ⟨⟨mapA f g.hd.x, hda, hdc⟩, a42, c42, ys ++ [(⟨mapA f y.x, qa, qc⟩ : AG)], none, 0, []⟩).toArray 30 (0, 0))], [rowAt a42 c42 (ys ++ [(⟨mapA f y.x, qa, qc⟩ : AG)])], [own b41 (.cells (agC (⟨mapA f y.x, qa, qc⟩ : AG)).toArray 26 (0, 0))], [own bb8 (.cells (agC (⟨mapA f y.x, qa, qc⟩ : AG)).toArray 26 (0, 0))], [rowT qa qc (mapA f y.x).args], [rowT hda hdc (mapA f g.hd.x).args], [own b4 (.cells (cgC ⟨⟨⟨T0, E0, []⟩, none, 0⟩, none, 0, [], none, 0, []⟩).toArray 30 (0, 0))], [own b2 (.cells (cgC g).toArray 30 (0, 0))], argsA ys] [0, 1, 5, 6, 7, 8, 4] 9 rfl (by decide) (by decide) ?_
      exact hw⟩) (by show g.bd.length - (i + 1) < g.bd.length - i; omega)
  refine Ce (Xe (Xe (Xh (Xn (Cs (Csr (Za rfl (Nn (Cb ?_)))))))))
  have hpe := posB_end g (i := i) (by omega)
  rw [List.take_of_length_le (by omega)] at hyx
  refine WC.weak (S' := Sat0 w (own b6 (.cells (cgC ⟨⟨mapA f g.hd.x, hda, hdc⟩, ba, bc, ys, none, 0, []⟩).toArray 30 (0, 0)) :: row 45 7 none 0 0 [] :: rowT hda hdc (mapA f g.hd.x).args :: own b4 (.cells (cgC ⟨⟨⟨T0, E0, []⟩, none, 0⟩, none, 0, [], none, 0, []⟩).toArray 30 (0, 0)) :: own b2 (.cells (cgC g).toArray 30 (0, 0)) :: rowAt ba bc ys :: argsA ys)) (fun w' hw => (hw.rowNil 45 7).perm (perm_pick [_, _, _, _, _, _] [1, 0, 3, 4, 5, 2] (by decide) rfl)) ?_
  refine WC.loop4 (fun (i : Nat) (ta : Option Addr) (tc : Nat) (us : List Ts) => [(1, .slice la (termsC g.cl).length lc), (2, .pointer (some ⟨b2, 0, none⟩)), (4, .pointer (some ⟨b4, 0, none⟩)), (6, .pointer (some ⟨b6, 0, none⟩)), (5, .int .i64 (((plc g.hd.x).length + (bodyTm g.cl).length + 2 * i : Nat) : Int)), (9, .int .i64 (i : Int))])
      (fun i ta tc us w' => (i ≤ g.ts.length ∧ us.length = i ∧ us = (g.ts.take i).map (mapT f)) ∧ Sat0 w (own b6 (.cells (cgC ⟨⟨mapA f g.hd.x, hda, hdc⟩, ba, bc, ys, ta, tc, us⟩).toArray 30 (0, 0)) :: rowS ta tc us :: rowT hda hdc (mapA f g.hd.x).args :: own b4 (.cells (cgC ⟨⟨⟨T0, E0, []⟩, none, 0⟩, none, 0, [], none, 0, []⟩).toArray 30 (0, 0)) :: own b2 (.cells (cgC g).toArray 30 (0, 0)) :: rowAt ba bc ys :: argsA ys) w')
      (fun i _ _ _ => g.ts.length - i) 0 none 0 [] ⟨rfl, rfl, rfl, rfl, by rw [Nat.mul_zero, Nat.add_zero, ← hpe]; rfl, rfl, trivial⟩ (fun w' hw => ⟨⟨by omega, rfl, rfl⟩, hw⟩) ?_
  clear hi
  intro i ta tc us
  refine WC.pure (fun hi => ?_)
  obtain ⟨hi, hul, hue⟩ := hi
  refine Cs (Csr (Zm rfl (Zv (OV.fieldAddr0 (off := 6) rfl T.u30 rfl) (Zv (OV.load1 (v := .slice g.ta g.ts.length g.tc) rfl T.u28 rfl (fun _ hw => (cell_at (hw.it _ (.tail _ (.tail _ (.tail _ (.tail _ (.head _)))))) (o := 6) rfl).1)) (Zv (OV.lenSlice rfl T.u28) (Zv (OV.lss rfl rfl) (Nn ?_)))))))
  refine Cc rfl (fun c48 => ?_) (fun c48 => ?_)
  · refine Ck (Xn (Cs (Cb (Cs (Hd (fun w' => w'.heap[b6]? = some (.cells (cgC ⟨⟨mapA f g.hd.x, hda, hdc⟩, ba, bc, ys, ta, tc, us⟩).toArray 30 (0, 0)) ∧ w'.heap[b2]? = some (.cells (cgC g).toArray 30 (0, 0)) ∧ Keeps w w') [21] (fun _ hw => ⟨hw.it (own b6 (.cells (cgC ⟨⟨mapA f g.hd.x, hda, hdc⟩, ba, bc, ys, ta, tc, us⟩).toArray 30 (0, 0))) (by simp), hw.it (own b2 (.cells (cgC g).toArray 30 (0, 0))) (by simp), hw.keeps⟩) (m := 22) rfl ?_)))))
    refine Hf 0 rfl (OV.fieldAddr0 (off := 6) rfl T.u30 rfl) (Ht 1 rfl (OV.load1 (v := .slice ta us.length tc) rfl T.u28 rfl (fun _ hw => (cell_at hw.1 (o := 6) rfl).1)) (Hf 2 rfl (OV.fieldAddr0 (off := 6) rfl T.u30 rfl) (Ht 3 rfl (OV.load1 (v := .slice g.ta g.ts.length g.tc) rfl T.u28 rfl (fun _ hw => (cell_at hw.2.1 (o := 6) rfl).1)) (Hf 4 rfl (OV.move rfl) ?_))))
    obtain ⟨q1, t, hq, ht, htm, hc⟩ := hr.ts.get (i := i) (by omega)
    refine Hf 5 rfl ((OV.indexSlice (show _ = some (Value.slice (some q1) g.ts.length g.tc) by rw [← hq]; rfl) rfl T.u28 T.z45 (by omega)).cast (u := .pointer (some (q1.add (i * 7)))) (by rw [Int.toNat_natCast])) (Hf 6 rfl ((OV.fieldAddrA (off := 0) rfl T.u45 rfl).cast (u := .pointer (some (q1.add (i * 7)))) (by rw [addr_add0])) (Ht 7 rfl (OV.load1 (v := .int .i64 t.op) rfl T.u3 rfl (fun _ hw => hw.2.2 _ _ (hc 0 _ rfl))) (Hf 8 rfl (OV.move rfl) (Hf 9 rfl (OV.move rfl) ?_))))
    obtain ⟨ht1, ht2⟩ := terms_test f ht ((plc g.hd.x).length + (bodyTm g.cl).length + 2 * i) rfl
    have htl := (List.getElem?_eq_some_iff.1 ht2).1
    rw [List.length_map] at htl
    obtain ⟨q2, t1, hqu, htu, htmu, _, hcu⟩ := hrl.get (i := ((plc g.hd.x).length + (bodyTm g.cl).length + 2 * i)) (by rw [List.length_map]; omega)
    refine Hf 10 rfl ((OV.indexSlice (show _ = some (Value.slice (some q2) (termsC g.cl).length lc) by rw [← hqu]; rfl) rfl T.u24 T.z23 (by omega)).cast (u := .pointer (some (q2.add (((plc g.hd.x).length + (bodyTm g.cl).length + 2 * i) * 3)))) (by rw [Int.toNat_natCast])) ?_
    rw [ht1] at htu
    obtain rfl := Option.some.inj htu
    refine Ht 11 rfl (OV.loadN (cs := tmC (f t.l)) rfl T.u23 rfl T.z23 (fun _ hw j v hj => hw.2.2 _ _ (hcu j v hj))) (Hf 12 rfl (OV.move rfl) (Hf 13 rfl (OV.move rfl) (Hf 14 rfl (OV.addN (j := 1) rfl rfl (by omega)) ?_)))
    obtain ⟨q3, t2, hqv, htv, htmv, _, hcv⟩ := hrl.get (i := ((plc g.hd.x).length + (bodyTm g.cl).length + 2 * i + 1)) (by rw [List.length_map]; omega)
    refine Hf 15 rfl ((OV.indexSlice (show _ = some (Value.slice (some q3) (termsC g.cl).length lc) by rw [← hqv]; rfl) rfl T.u24 T.z23 (by omega)).cast (u := .pointer (some (q3.add (((plc g.hd.x).length + (bodyTm g.cl).length + 2 * i + 1) * 3)))) (by rw [Int.toNat_natCast])) ?_
    rw [ht2] at htv
    obtain rfl := Option.some.inj htv
    refine Ht 16 rfl (OV.loadN (cs := tmC (f t.r)) rfl T.u23 rfl T.z23 (fun _ hw j v hj => hw.2.2 _ _ (hcv j v hj))) (Hf 17 rfl (OV.buildStruct (xs := [(0, .tmp 58), (1, .tmp 62), (2, .tmp 67)]) (pl := [(0, 1), (1, 3), (4, 3)]) (cs := tsC (mapT f t)) T.u45 T.zr45 (by kernel_rfl) rfl (fill_cons (us := [_]) rfl rfl (Nat.le_of_ble_eq_true rfl) (fill_cons (us := tmC (f t.l)) rfl rfl (Nat.le_of_ble_eq_true rfl) (fill_cons (us := tmC (f t.r)) rfl rfl (Nat.le_of_ble_eq_true rfl) rfl)))) (Ho 18 rfl (fl' := false) rfl ?_))
    refine WL.buildSliceA (cs := tsC (mapT f t)) T.u28 T.z45 T.zr45 rfl rfl (by omega) (by omega) rfl ?_
    intro b69
    refine Hc (fun _ => (fun _ hw => ⟨hw.it (own b6 (.cells (cgC ⟨⟨mapA f g.hd.x, hda, hdc⟩, ba, bc, ys, ta, tc, us⟩).toArray 30 (0, 0))) (by simp), hw.it (own b2 (.cells (cgC g).toArray 30 (0, 0))) (by simp), hw.keeps⟩)) ?_
    refine Ho 19 rfl (fl' := false) rfl ?_
    refine WL.focus (ow' := rowS ta tc us :: own b69 (.cells (tsC (mapT f t)).toArray 45 (0, 0)) :: own b6 (.cells (cgC ⟨⟨mapA f g.hd.x, hda, hdc⟩, ba, bc, ys, ta, tc, us⟩).toArray 30 (0, 0)) :: rowT hda hdc (mapA f g.hd.x).args :: own b4 (.cells (cgC ⟨⟨⟨T0, E0, []⟩, none, 0⟩, none, 0, [], none, 0, []⟩).toArray 30 (0, 0)) :: own b2 (.cells (cgC g).toArray 30 (0, 0)) :: rowAt ba bc ys :: argsA ys) (perm_pick [_, _, _, _, _, _, _] [2, 0, 1, 3, 4, 5, 6] (by decide) rfl) ?_
    refine WL.append (news := tsC (mapT f t)) rfl rfl T.apS (fun _ _ => own_srcN (.tail _ (.head _)) rfl) (tsC_one _) ⟨by omega, by unfold maxLen; omega⟩ rfl ?_
    intro a70 c70
    refine Hc (fun _ => (fun _ hw => ⟨hw.it (own b6 (.cells (cgC ⟨⟨mapA f g.hd.x, hda, hdc⟩, ba, bc, ys, ta, tc, us⟩).toArray 30 (0, 0))) (by simp), hw.it (own b2 (.cells (cgC g).toArray 30 (0, 0))) (by simp), hw.keeps⟩)) ?_
    refine Hf 20 rfl (OV.fieldAddr0 (off := 6) rfl T.u30 rfl) (Ho 21 rfl (fl' := true) rfl ?_)
    refine WL.focus perm2 (WL.store1 (o := 6) rfl rfl rfl T.z28 (by show 6 < 7; omega) ?_)
    refine Hc (fun h => by cases h) ?_
    refine He (Xn (Cr (Zm rfl (Zv (OV.addN (j := 2) rfl rfl (by omega)) (Za rfl (Nl (Xb (Xn (Cr (Zm rfl (Zv (OV.addN (j := 1) rfl rfl (by omega)) (Za rfl (Nl ?_)))))))))))))
    have el : us.length + 1 = (us ++ [(mapT f t)]).length := by simp
    have ef : us.flatMap tsC ++ tsC (mapT f t) = (us ++ [(mapT f t)]).flatMap tsC := by simp
    exact WX.round4 (i + 1) a70 c70 (us ++ [(mapT f t)]) ⟨rfl, rfl, rfl, rfl, rfl, rfl, trivial⟩ (fun w' hw => ⟨⟨by omega, by simp [hul], by rw [tk_snoc ht, List.map_append, hue]; rfl⟩, by
      rw [el, ef] at hw
      exact hw.pick [[own b6 (.cells (cgC ⟨⟨mapA f g.hd.x, hda, hdc⟩, ba, bc, ys, a70, c70, us ++ [(mapT f t)]⟩).toArray 30 (0, 0))], [rowS a70 c70 (us ++ [(mapT f t)])], [own b69 (.cells (tsC (mapT f t)).toArray 45 (0, 0))], [rowT hda hdc (mapA f g.hd.x).args], [own b4 (.cells (cgC ⟨⟨⟨T0, E0, []⟩, none, 0⟩, none, 0, [], none, 0, []⟩).toArray 30 (0, 0))], [own b2 (.cells (cgC g).toArray 30 (0, 0))], rowAt ba bc ys :: argsA ys] [0, 1, 3, 4, 5, 6] 7 rfl (by decide) (by decide)⟩) (by show g.ts.length - (i + 1) < g.ts.length - i; omega)
  refine Ce (Xe (Xe (Xh (Xn (Csr (Zv (OV.loadN (cs := cgC ⟨⟨mapA f g.hd.x, hda, hdc⟩, ba, bc, ys, ta, tc, us⟩) rfl T.u30 rfl T.z30 (fun _ hw j v hj => by rw [add_off, Nat.zero_add]; exact own_cells hw (.head _) j v hj)) ?_))))))
  refine WL.focus perm3 (WL.storeAll (vs := cgC ⟨⟨mapA f g.hd.x, hda, hdc⟩, ba, bc, ys, ta, tc, us⟩) rfl rfl rfl T.z30 rfl ?_)
  refine Nn (WC.ret ?_)
  rw [List.take_of_length_le (by omega)] at hue
  refine WX.retC (cs := cgC ⟨⟨mapA f g.hd.x, hda, hdc⟩, ba, bc, ys, ta, tc, us⟩) rfl rfl rfl T.u30 rfl T.z30 (fun w' hw j v hj => own_cells hw (.head _) j v hj) (fun w' hw => ⟨⟨⟨mapA f g.hd.x, hda, hdc⟩, ba, bc, ys, ta, tc, us⟩, rfl, mapC_eq rfl hyx hue, ?_⟩)
  exact (hw.pick [[own b4 (.cells (cgC ⟨⟨mapA f g.hd.x, hda, hdc⟩, ba, bc, ys, ta, tc, us⟩).toArray 30 (0, 0))], [own b6 (.cells (cgC ⟨⟨mapA f g.hd.x, hda, hdc⟩, ba, bc, ys, ta, tc, us⟩).toArray 30 (0, 0))], [rowS ta tc us], [rowT hda hdc (mapA f g.hd.x).args], [own b2 (.cells (cgC g).toArray 30 (0, 0))], rowAt ba bc ys :: argsA ys] [3, 5, 2] 6 rfl (by decide) (by decide)).turned0

theorem numT_place (vs : List Tm) (t : Tm) : numT vs t = if 0 ≤ placeI vs t then ⟨3, placeI vs t, E0⟩ else t := by
  unfold numT placeI
  by_cases h : t ∈ vs
  · rw [if_pos h, if_pos h, if_pos (by omega)]
  · rw [if_neg h, if_neg h, if_neg (by omega)]

theorem normal_calls (g : CG) (hm : (termsC g.cl).length ≤ 1048576) (hl : g.bd.length ≤ 1048576) (w : World) (hr : RC w g) : Calls Tryz.prog 25 #[cgV g] w fun e w' => ∃ g' : CG, e = .returned (cgV g') ∧ g'.cl = normC g.cl ∧ Turns [] (cgA g') w w' := by
  refine enterS (args := [cgV g]) (fun _ => False) Tryz.func25 rfl Tryz.ntmps25 rfl rfl ?_
  refine Csr (WL.box rfl rfl rfl ?_)
  intro b1
  refine WL.alloc T.zr30 rfl ?_
  intro b2
  refine Nn (Csr (Zv (OV.loadN (cs := cgC g) rfl T.u30 rfl T.z30 (fun _ hw j v hj => by rw [add_off, Nat.zero_add]; exact own_cells hw (.tail _ (.head _)) j v hj)) (WL.callTA (ι := Option Addr × Nat) (vv := fun z => .slice z.1 (termsC g.cl).length z.2) (pp := fun _ => True) [] (AA := fun z => [rowT z.1 z.2 (termsC g.cl)]) rfl (by kernel_rfl) rfl rfl (fun w' hw' _ => (terms_calls g hm hl w' (hr.keeps hw'.keeps)).mono (fun en w'' ⟨z, h1, h2⟩ => ⟨z, h1, trivial, h2⟩)) ?_)))
  rintro ⟨ta, tc⟩ _
  refine Za rfl (Nn (Csr (Zm rfl (WL.callTA (ι := Option Addr × Nat) (vv := fun z => .slice z.1 (dedV (termsC g.cl)).length z.2) (pp := fun _ => True) [] (AA := fun z => [rowT z.1 z.2 (dedV (termsC g.cl))]) rfl (by kernel_rfl) rfl rfl (fun w' hw' _ => (variables_calls (termsC g.cl) ta tc hm w' (RT.of_row (c := tc) rfl hw' (.head _))).mono (fun en w'' ⟨z, h1, h2⟩ => ⟨z, h1, trivial, h2⟩)) ?_))))
  rintro ⟨va, vc⟩ _
  refine Za rfl (Nn (Csr (Za rfl (Nn (Cs (Csr (Za rfl (Nn (Cb (WC.weak (S' := Sat0 w (row 23 3 none 0 0 [] :: rowT va vc (dedV (termsC g.cl)) :: rowT ta tc (termsC g.cl) :: own b2 (.cells (cgC ⟨⟨⟨T0, E0, []⟩, none, 0⟩, none, 0, [], none, 0, []⟩).toArray 30 (0, 0)) :: own b1 (.cells (cgC g).toArray 30 (0, 0)) :: [])) (fun w' hw => hw.rowNil 23 3) ?_))))))))))
  refine WC.loop4 (fun (i : Nat) (oa : Option Addr) (oc : Nat) (out : List Tm) => [(1, .pointer (some ⟨b1, 0, none⟩)), (2, .pointer (some ⟨b2, 0, none⟩)), (3, .slice ta (termsC g.cl).length tc), (4, .slice va (dedV (termsC g.cl)).length vc), (5, .slice oa out.length oc), (6, .int .i64 (i : Int))])
      (fun i oa oc out w' => (i ≤ (termsC g.cl).length ∧ out.length = i ∧ out = ((termsC g.cl).take i).map (numT (dedV (termsC g.cl)))) ∧ Sat0 w (rowT oa oc out :: rowT va vc (dedV (termsC g.cl)) :: rowT ta tc (termsC g.cl) :: own b2 (.cells (cgC ⟨⟨⟨T0, E0, []⟩, none, 0⟩, none, 0, [], none, 0, []⟩).toArray 30 (0, 0)) :: own b1 (.cells (cgC g).toArray 30 (0, 0)) :: []) w')
      (fun i _ _ _ => (termsC g.cl).length - i) 0 none 0 [] ⟨rfl, rfl, rfl, rfl, rfl, rfl, trivial⟩ (fun w' hw => ⟨⟨by omega, rfl, rfl⟩, hw⟩) ?_
  intro i oa oc out
  refine WC.pure (fun hi => ?_)
  obtain ⟨hi, hol, hoe⟩ := hi
  refine Cs (Csr (Zm rfl (Zm rfl (Zv (OV.lenSlice rfl T.u24) (Zv (OV.lss rfl rfl) (Nn ?_))))))
  refine Cc rfl (fun c16 => ?_) (fun c16 => ?_)
  · refine Ck (Xn (Cs (Cb (Csr (Zm rfl (Zm rfl ?_))))))
    obtain ⟨t, ht⟩ : ∃ t, (termsC g.cl)[i]? = some t := ⟨_, List.getElem?_eq_getElem (by omega)⟩
    refine WL.know (fun w' hw' => (RT.of_row (c := tc) rfl hw' (.tail _ (.tail _ (.head _))) : RT w' ta (termsC g.cl)).nil) (fun htn => ?_)
    obtain ⟨q1, rfl⟩ : ∃ q, ta = some q := by cases ta with | none => have := htn rfl; omega | some q => exact ⟨q, rfl⟩
    refine Zv ((OV.indexSlice rfl rfl T.u24 T.z23 (by omega)).cast (u := .pointer (some (q1.add (i * 3)))) (by rw [Int.toNat_natCast])) (Zv (OV.loadN (cs := tmC t) rfl T.u23 rfl T.z23 (fun _ hw j v hj => (RT.of_row (c := tc) rfl hw (.tail _ (.tail _ (.head _))) : RT _ (some q1) (termsC g.cl)).at_ q1 rfl i t ht j v hj)) (WL.alloc T.zr23 rfl ?_))
    intro b7
    refine WL.storeAll (vs := tmC t) rfl rfl rfl T.z23 rfl ?_
    refine Nn (Csr (Zm rfl (Zv (OV.loadN (cs := tmC t) rfl T.u23 rfl T.z23 (fun _ hw j v hj => by rw [add_off, Nat.zero_add]; exact own_cells hw (.head _) j v hj)) ?_)))
    have hdl := dedV_len (termsC g.cl)
    refine WL.call0 (v := .int .i64 (placeI (dedV (termsC g.cl)) t)) (by kernel_rfl) rfl rfl (fun w' hw' => place_calls (dedV (termsC g.cl)) va vc t (by omega) w' (RT.of_row (c := vc) rfl hw' (.tail _ (.tail _ (.head _))))) ?_
    refine Za rfl (Nn (Cs (Csr (Zm rfl (Zv (OV.geq rfl rfl) (Nn ?_))))))
    refine WC.meet [(1, .pointer (some ⟨b1, 0, none⟩)), (2, .pointer (some ⟨b2, 0, none⟩)), (3, .slice (some q1) (termsC g.cl).length tc), (4, .slice va (dedV (termsC g.cl)).length vc), (5, .slice oa out.length oc), (6, .int .i64 (i : Int)), (7, .pointer (some ⟨b7, 0, none⟩))] (Sat0 w (own b7 (.cells (tmC (numT (dedV (termsC g.cl)) t)).toArray 23 (0, 0)) :: rowT oa oc out :: rowT va vc (dedV (termsC g.cl)) :: rowT (some q1) tc (termsC g.cl) :: own b2 (.cells (cgC ⟨⟨⟨T0, E0, []⟩, none, 0⟩, none, 0, [], none, 0, []⟩).toArray 30 (0, 0)) :: own b1 (.cells (cgC g).toArray 30 (0, 0)) :: [])) ?_ ?_
    · refine Cc rfl (fun c27 => ?_) (fun c27 => ?_)
      · refine Cr (Zm rfl (Zv (OV.buildStruct (xs := [(0, .const (.int .i64 3)), (1, .tmp 28)]) (pl := [(0, 1), (1, 1), (2, 1)]) (cs := tmC ⟨3, placeI (dedV (termsC g.cl)) t, E0⟩) T.u23 T.zr23 (by kernel_rfl) rfl (fill_cons (us := [_]) rfl rfl (Nat.le_of_ble_eq_true rfl) (fill_cons (us := [_]) rfl rfl (Nat.le_of_ble_eq_true rfl) rfl))) (WL.storeAll (vs := tmC ⟨3, placeI (dedV (termsC g.cl)) t, E0⟩) rfl rfl rfl T.z23 rfl ?_)))
        refine Nl ?_
        have em : (numT (dedV (termsC g.cl)) t) = ⟨3, placeI (dedV (termsC g.cl)) t, E0⟩ := by rw [numT_place, if_pos (by simpa using c27)]
        exact WX.meet ⟨rfl, rfl, rfl, rfl, rfl, rfl, rfl, trivial⟩ (fun w' hw => by rw [em]; exact hw)
      refine Ck ?_
      have em : (numT (dedV (termsC g.cl)) t) = t := by rw [numT_place, if_neg (by simpa using c27)]
      exact WX.meet ⟨rfl, rfl, rfl, rfl, rfl, rfl, rfl, trivial⟩ (fun w' hw => by rw [em]; exact hw)
    refine Cr (Zm rfl (Zv (OV.loadN (cs := tmC (numT (dedV (termsC g.cl)) t)) rfl T.u23 rfl T.z23 (fun _ hw j v hj => by rw [add_off, Nat.zero_add]; exact own_cells hw (.head _) j v hj)) (WL.buildSliceA (cs := tmC (numT (dedV (termsC g.cl)) t)) T.u24 T.z23 T.zr23 rfl rfl (by omega) (by omega) rfl ?_)))
    intro bb32
    refine WL.focus (ow' := rowT oa oc out :: own bb32 (.cells (tmC (numT (dedV (termsC g.cl)) t)).toArray 23 (0, 0)) :: own b7 (.cells (tmC (numT (dedV (termsC g.cl)) t)).toArray 23 (0, 0)) :: rowT va vc (dedV (termsC g.cl)) :: rowT (some q1) tc (termsC g.cl) :: own b2 (.cells (cgC ⟨⟨⟨T0, E0, []⟩, none, 0⟩, none, 0, [], none, 0, []⟩).toArray 30 (0, 0)) :: own b1 (.cells (cgC g).toArray 30 (0, 0)) :: []) (perm_pick [_, _, _, _, _, _, _] [2, 0, 1, 3, 4, 5, 6] (by decide) rfl) ?_
    refine WL.append (news := tmC (numT (dedV (termsC g.cl)) t)) rfl rfl T.apT (fun _ _ => own_srcN (.tail _ (.head _)) rfl) (tmC_one _) ⟨by omega, by unfold maxLen; omega⟩ rfl ?_
    intro a33 c33
    refine Za rfl (Nl (Xb (Xn (Cr (Zm rfl (Zv (OV.addN (j := 1) rfl rfl (by omega)) (Za rfl (Nl ?_))))))))
    have el : out.length + 1 = (out ++ [(numT (dedV (termsC g.cl)) t)]).length := by simp
    have ef : out.flatMap tmC ++ tmC (numT (dedV (termsC g.cl)) t) = (out ++ [(numT (dedV (termsC g.cl)) t)]).flatMap tmC := by simp
    rw [el, ef]
    exact WX.round4 (i + 1) a33 c33 (out ++ [(numT (dedV (termsC g.cl)) t)]) ⟨rfl, rfl, rfl, rfl, rfl, rfl, trivial⟩ (fun w' hw => ⟨⟨by omega, by simp [hol], by rw [tk_snoc ht, List.map_append, hoe]; rfl⟩, by
      exact hw.pick [[rowT a33 c33 (out ++ [(numT (dedV (termsC g.cl)) t)])], [own bb32 (.cells (tmC (numT (dedV (termsC g.cl)) t)).toArray 23 (0, 0))], [own b7 (.cells (tmC (numT (dedV (termsC g.cl)) t)).toArray 23 (0, 0))], [rowT va vc (dedV (termsC g.cl))], [rowT (some q1) tc (termsC g.cl)], [own b2 (.cells (cgC ⟨⟨⟨T0, E0, []⟩, none, 0⟩, none, 0, [], none, 0, []⟩).toArray 30 (0, 0))], [own b1 (.cells (cgC g).toArray 30 (0, 0))]] [0, 3, 4, 5, 6] 7 rfl (by decide) (by decide)⟩) (by show (termsC g.cl).length - (i + 1) < (termsC g.cl).length - i; omega)
  refine Ce (Xe (Xe (Xh (Xn (Cs ?_)))))
  rw [List.take_of_length_le (by omega)] at hoe
  have hol2 : out.length = (termsC g.cl).length := by rw [hoe, List.length_map]
  rw [hol2]
  refine Cr (Zv (OV.loadN (cs := cgC g) rfl T.u30 rfl T.z30 (fun _ hw j v hj => by rw [add_off, Nat.zero_add]; exact own_cells hw (.tail _ (.tail _ (.tail _ (.tail _ (.head _))))) j v hj)) (Zm rfl (WL.callTA (ι := CG) (vs := [cgV g, .slice oa (termsC g.cl).length oc]) (vv := fun g' => cgV g') (pp := fun g' => g'.cl = normC g.cl) [] (AA := fun g' => cgA g') rfl (by kernel_rfl) rfl rfl (fun w' hw' _ => (put_calls g (numT (dedV (termsC g.cl))) hm hl oa oc w' (hr.keeps hw'.keeps) (RT.of_row (c := oc) (m := out.length) rfl hw' (.head _) |> fun h => by rw [← hoe]; exact h)).mono (fun en w'' ⟨g', h1, h2, h3⟩ => ⟨g', h1, h2, h3⟩)) ?_)))
  intro g' hg'
  refine WL.focus (ow' := own b2 (.cells (cgC ⟨⟨⟨T0, E0, []⟩, none, 0⟩, none, 0, [], none, 0, []⟩).toArray 30 (0, 0)) :: (cgA g' ++ (rowT oa oc out :: rowT va vc (dedV (termsC g.cl)) :: rowT ta tc (termsC g.cl) :: own b1 (.cells (cgC g).toArray 30 (0, 0)) :: []))) (perm_cat [cgA g', [rowT oa oc out], [rowT va vc (dedV (termsC g.cl))], [rowT ta tc (termsC g.cl)], [own b2 (.cells (cgC ⟨⟨⟨T0, E0, []⟩, none, 0⟩, none, 0, [], none, 0, []⟩).toArray 30 (0, 0))], [own b1 (.cells (cgC g).toArray 30 (0, 0))]] [4, 0, 1, 2, 3, 5] (by decide) rfl) ?_
  refine WL.storeAll (vs := cgC g') rfl rfl rfl T.z30 rfl ?_
  refine Nn (WC.ret ?_)
  refine WX.retC (cs := cgC g') rfl rfl rfl T.u30 rfl T.z30 (fun w' hw j v hj => own_cells hw (.head _) j v hj) (fun w' hw => ⟨g', rfl, hg', ?_⟩)
  exact (hw.pick [[own b2 (.cells (cgC g').toArray 30 (0, 0))], cgA g', [rowT oa oc out], [rowT va vc (dedV (termsC g.cl))], [rowT ta tc (termsC g.cl)], [own b1 (.cells (cgC g).toArray 30 (0, 0))]] [1] 6 rfl (by decide) (by decide)).turned0

end Go.Proofs.YtpgpkjbahlmgeaaGreatDoor

set_option maxRecDepth 10000
namespace Go.Proofs.YtpgpkjbahlmgeaaGreatDoor
open Go Go.Hw
set_option linter.unusedSimpArgs false
set_option linter.unusedVariables false
theorem made_args (x : At) : (madeAt x).args.length ≤ 8 := by simp only [madeAt, List.length_map, List.length_take]; omega
theorem bt_len (l : List At) : (((l.take 8).map madeAt).flatMap plc).length ≤ 72 := by
  have key : ∀ m : List At, ((m.map madeAt).flatMap plc).length ≤ 9 * m.length := by
    intro m
    induction m with
    | nil => simp
    | cons x m ih =>
      rw [List.map_cons, List.flatMap_cons, List.length_append, List.length_cons]
      have h1 : (plc (madeAt x)).length = (madeAt x).args.length + 1 := by simp [plc]
      have h2 := made_args x
      omega
  have h1 := key (l.take 8)
  have h2 : (l.take 8).length ≤ 8 := by rw [List.length_take]; omega
  omega
theorem flat_put (l : List Tm) (i : Nat) (t : Tm) (h : i < l.length) : (l.flatMap tmC).take (i * 3) ++ tmC t ++ (l.flatMap tmC).drop (i * 3 + (tmC t).length) = (l.set i t).flatMap tmC := by
  induction l generalizing i with
  | nil => simp at h
  | cons u l ih =>
    cases i with
    | zero => simp [tmC]
    | succ i =>
      have e := ih i (by simpa using h)
      have hf : ∀ (v : Tm) (m : List Tm), (v :: m).flatMap tmC = .int .i64 v.kind :: .int .i64 v.n :: .string v.s :: m.flatMap tmC := fun _ _ => rfl
      rw [show (i + 1) * 3 = i * 3 + 1 + 1 + 1 by omega, show i * 3 + 1 + 1 + 1 + (tmC t).length = i * 3 + (tmC t).length + 1 + 1 + 1 by omega, List.set_cons_succ, hf, hf, ← e]
      simp only [List.take_succ_cons, List.drop_succ_cons, List.cons_append]
theorem cur_get {f : Tm → Tm} {l : List Tm} {i : Nat} {t : Tm} (h : l[i]? = some t) : ((l.take i).map f ++ l.drop i)[i]? = some t := by
  have hl := (List.getElem?_eq_some_iff.1 h).1
  rw [List.getElem?_append_right (by rw [List.length_map, List.length_take]; omega), List.length_map, List.length_take, show i - min i l.length = 0 by omega, List.getElem?_drop]
  exact h
theorem cur_set {f : Tm → Tm} {l : List Tm} {i : Nat} {t : Tm} (h : l[i]? = some t) : ((l.take i).map f ++ l.drop i).set i (f t) = (l.take (i + 1)).map f ++ l.drop (i + 1) := by
  have hl := (List.getElem?_eq_some_iff.1 h).1
  rw [List.set_append_right _ _ (by rw [List.length_map, List.length_take]; omega), List.length_map, List.length_take, show i - min i l.length = 0 by omega, drop_cons h, List.set_cons_zero, tk_snoc h, List.map_append, List.append_assoc]
  rfl
theorem cur_len (f : Tm → Tm) (l : List Tm) (i : Nat) : ((l.take i).map f ++ l.drop i).length = l.length := by
  rw [List.length_append, List.length_map, List.length_take, List.length_drop]; omega
theorem cur_len3 (f : Tm → Tm) (l : List Tm) (i : Nat) : (((l.take i).map f ++ l.drop i).flatMap tmC).length = l.length * 3 := by
  rw [flat_len tmC_len, cur_len]
theorem made0_len (c : Cl) : (termsC (made0 c)).length ≤ 97 := by
  rw [termsC_len]
  have h1 := made_args c.hd
  have h2 := bt_len c.bd
  have e1 : (plc (made0 c).hd).length = (madeAt c.hd).args.length + 1 := by simp [plc, made0]
  have e2 : bodyTm (made0 c) = ((c.bd.take 8).map madeAt).flatMap plc := rfl
  have e3 : (made0 c).ts.length ≤ 8 := by simp only [made0, List.length_map, List.length_take]; omega
  rw [e2]
  omega

set_option maxHeartbeats 2000000 in
theorem made_calls (g : CG) (hs : ∀ y, y = g.hd ∨ y ∈ g.bd → y.x.args.length ≤ 1048576 ∧ y.x.name.size ≤ 1099511627776) (hbl : g.bd.length ≤ 1048576) (htl : g.ts.length ≤ 1048576) (w : World) (hr : RC w g) : Calls Tryz.prog 5 #[cgV g] w fun e w' => ∃ g' : CG, e = .returned (cgV g') ∧ g'.cl = madeC g.cl ∧ Turns [] (cgA g') w w' := by
  refine enterS (args := [cgV g]) (fun _ => False) Tryz.func5 rfl Tryz.ntmps5 rfl rfl ?_
  refine Csr (WL.box rfl rfl rfl ?_)
  intro b1
  refine WL.alloc T.zr30 rfl ?_
  intro b2
  refine Nn (Csr (WL.alloc T.zr30 rfl ?_))
  intro b3
  refine Nn (Cs (Csr (Za rfl (Nn ?_))))
  refine WC.meetI (fun (z : Option Addr × Nat × List AG) => [(1, .pointer (some ⟨b1, 0, none⟩)), (2, .pointer (some ⟨b2, 0, none⟩)), (3, .pointer (some ⟨b3, 0, none⟩))]) (fun (z : Option Addr × Nat × List AG) => fun w' => (z.2.2.map AG.x = ((g.cl.bd.take 8).map madeAt) ∧ z.2.2.length ≤ 8) ∧ Sat0 w (own b3 (.cells (cgC ⟨⟨⟨T0, E0, []⟩, none, 0⟩, z.1, z.2.1, z.2.2, none, 0, []⟩).toArray 30 (0, 0)) :: own b2 (.cells (cgC ⟨⟨⟨T0, E0, []⟩, none, 0⟩, none, 0, [], none, 0, []⟩).toArray 30 (0, 0)) :: own b1 (.cells (cgC g).toArray 30 (0, 0)) :: rowAt z.1 z.2.1 z.2.2 :: argsA z.2.2) w') ?_ ?_
  · refine Cb (WC.weak (S' := Sat0 w (own b3 (.cells (cgC ⟨⟨⟨T0, E0, []⟩, none, 0⟩, none, 0, [], none, 0, []⟩).toArray 30 (0, 0)) :: row 26 5 none 0 0 [] :: own b2 (.cells (cgC ⟨⟨⟨T0, E0, []⟩, none, 0⟩, none, 0, [], none, 0, []⟩).toArray 30 (0, 0)) :: own b1 (.cells (cgC g).toArray 30 (0, 0)) :: [])) (fun w' hw => (hw.rowNil 26 5).perm (perm_pick [_, _, _, _] [1, 0, 2, 3] (by decide) rfl)) ?_)
    refine WC.loop4 (fun (i : Nat) (ba : Option Addr) (bc : Nat) (ys : List AG) => [(1, .pointer (some ⟨b1, 0, none⟩)), (2, .pointer (some ⟨b2, 0, none⟩)), (3, .pointer (some ⟨b3, 0, none⟩)), (4, .int .i64 (i : Int))])
        (fun i ba bc ys w' => (i ≤ g.bd.length ∧ i ≤ 8 ∧ ys.length = i ∧ ys.map AG.x = (g.cl.bd.take i).map madeAt) ∧ Sat0 w (own b3 (.cells (cgC ⟨⟨⟨T0, E0, []⟩, none, 0⟩, ba, bc, ys, none, 0, []⟩).toArray 30 (0, 0)) :: rowAt ba bc ys :: own b2 (.cells (cgC ⟨⟨⟨T0, E0, []⟩, none, 0⟩, none, 0, [], none, 0, []⟩).toArray 30 (0, 0)) :: own b1 (.cells (cgC g).toArray 30 (0, 0)) :: argsA ys) w')
        (fun i _ _ _ => g.bd.length - i) 0 none 0 [] ⟨rfl, rfl, rfl, rfl, trivial⟩ (fun w' hw => ⟨⟨by omega, by omega, rfl, rfl⟩, hw⟩) ?_
    intro i ba bc ys
    refine WC.pure (fun hi => ?_)
    obtain ⟨hi, hi8, hyl, hyx⟩ := hi
    refine Cs (Csr (Zm rfl (Zv (OV.fieldAddr0 (off := 5) rfl T.u30 rfl) (Zv (OV.load1 (v := .slice g.ba g.bd.length g.bc) rfl T.u27 rfl (fun _ hw => (cell_at (hw.it _ (.tail _ (.tail _ (.tail _ (.head _))))) (o := 5) rfl).1)) (Zv (OV.lenSlice rfl T.u27) (Zv (OV.lss rfl rfl) (Zm rfl ?_)))))))
    refine Zp (t := 13) rfl (fun g13 => ?_) (fun g13 => ?_)
    · refine Zg rfl rfl rfl (Zm rfl (Zg rfl rfl rfl (Zv (OV.lss rfl rfl) (Zv (OV.pickT rfl rfl) (Nn ?_)))))
      refine Cc rfl (fun c16 => ?_) (fun c16 => ?_)
      · refine Ck (Xn (Cs (Cb (Hd (fun w' => w'.heap[b3]? = some (.cells (cgC ⟨⟨⟨T0, E0, []⟩, none, 0⟩, ba, bc, ys, none, 0, []⟩).toArray 30 (0, 0)) ∧ w'.heap[b1]? = some (.cells (cgC g).toArray 30 (0, 0)) ∧ Keeps w w') [11] (fun _ hw => ⟨hw.it (own b3 (.cells (cgC ⟨⟨⟨T0, E0, []⟩, none, 0⟩, ba, bc, ys, none, 0, []⟩).toArray 30 (0, 0))) (by simp), hw.it (own b1 (.cells (cgC g).toArray 30 (0, 0))) (by simp), hw.keeps⟩) (m := 12) rfl ?_))))
        refine Hf 0 rfl (OV.fieldAddr0 (off := 5) rfl T.u30 rfl) (Ht 1 rfl (OV.load1 (v := .slice ba ys.length bc) rfl T.u27 rfl (fun _ hw => (cell_at hw.1 (o := 5) rfl).1)) (Hf 2 rfl (OV.fieldAddr0 (off := 5) rfl T.u30 rfl) (Ht 3 rfl (OV.load1 (v := .slice g.ba g.bd.length g.bc) rfl T.u27 rfl (fun _ hw => (cell_at hw.2.1 (o := 5) rfl).1)) (Hf 4 rfl (OV.move rfl) ?_))))
        obtain ⟨q1, y, hq, ht, htm, hra, hc⟩ := hr.bd.get (i := i) (by omega)
        refine Hf 5 rfl ((OV.indexSlice (show _ = some (Value.slice (some q1) g.bd.length g.bc) by rw [← hq]; rfl) rfl T.u27 T.z26 (by omega)).cast (u := .pointer (some (q1.add (i * 5)))) (by rw [Int.toNat_natCast])) (Ht 6 rfl (OV.loadN (cs := atC y.x y.a y.c) rfl T.u26 rfl T.z26 (fun _ hw j v hj => hw.2.2 _ _ (hc j v hj))) (Ho 7 rfl (fl' := false) rfl ?_))
        have hsy := hs y (Or.inr htm)
        refine WL.callTA (ι := Option Addr × Nat) (vs := [atV y.x y.a y.c]) (vv := fun z => atV (madeAt y.x) z.1 z.2) (pp := fun _ => True) [] (AA := fun z => [rowT z.1 z.2 (madeAt y.x).args]) rfl (by kernel_rfl) rfl rfl (fun w' hw' _ => (madeAtom_calls y.x y.a y.c hsy.1 hsy.2 w' (hra.keeps hw'.keeps)).mono (fun en w'' ⟨z, h1, h2⟩ => ⟨z, h1, trivial, h2⟩)) ?_
        rintro ⟨qa, qc⟩ _
        refine Hc (fun _ => (fun _ hw => ⟨hw.it (own b3 (.cells (cgC ⟨⟨⟨T0, E0, []⟩, none, 0⟩, ba, bc, ys, none, 0, []⟩).toArray 30 (0, 0))) (by simp), hw.it (own b1 (.cells (cgC g).toArray 30 (0, 0))) (by simp), hw.keeps⟩)) ?_
        refine Ho 8 rfl (fl' := false) rfl ?_
        refine WL.buildSliceA (cs := agC (⟨madeAt y.x, qa, qc⟩ : AG)) T.u27 T.z26 T.zr26 rfl rfl (by omega) (by omega) rfl ?_
        intro b27
        refine Hc (fun _ => (fun _ hw => ⟨hw.it (own b3 (.cells (cgC ⟨⟨⟨T0, E0, []⟩, none, 0⟩, ba, bc, ys, none, 0, []⟩).toArray 30 (0, 0))) (by simp), hw.it (own b1 (.cells (cgC g).toArray 30 (0, 0))) (by simp), hw.keeps⟩)) ?_
        refine Ho 9 rfl (fl' := false) rfl ?_
        refine WL.focus (ow' := rowAt ba bc ys :: own b27 (.cells (agC (⟨madeAt y.x, qa, qc⟩ : AG)).toArray 26 (0, 0)) :: rowT qa qc (madeAt y.x).args :: own b3 (.cells (cgC ⟨⟨⟨T0, E0, []⟩, none, 0⟩, ba, bc, ys, none, 0, []⟩).toArray 30 (0, 0)) :: own b2 (.cells (cgC ⟨⟨⟨T0, E0, []⟩, none, 0⟩, none, 0, [], none, 0, []⟩).toArray 30 (0, 0)) :: own b1 (.cells (cgC g).toArray 30 (0, 0)) :: argsA ys) (perm_pick [_, _, _, _, _, _] [3, 0, 1, 2, 4, 5] (by decide) rfl) ?_
        refine WL.append (news := agC (⟨madeAt y.x, qa, qc⟩ : AG)) rfl rfl T.apA (fun _ _ => own_srcN (.tail _ (.head _)) rfl) (agC_one _) ⟨by omega, by unfold maxLen; omega⟩ rfl ?_
        intro a28 c28
        refine Hc (fun _ => (fun _ hw => ⟨hw.it (own b3 (.cells (cgC ⟨⟨⟨T0, E0, []⟩, none, 0⟩, ba, bc, ys, none, 0, []⟩).toArray 30 (0, 0))) (by simp), hw.it (own b1 (.cells (cgC g).toArray 30 (0, 0))) (by simp), hw.keeps⟩)) ?_
        refine Hf 10 rfl (OV.fieldAddr0 (off := 5) rfl T.u30 rfl) (Ho 11 rfl (fl' := true) rfl ?_)
        refine WL.focus (ow' := own b3 (.cells (cgC ⟨⟨⟨T0, E0, []⟩, none, 0⟩, ba, bc, ys, none, 0, []⟩).toArray 30 (0, 0)) :: rowAt a28 c28 (ys ++ [(⟨madeAt y.x, qa, qc⟩ : AG)]) :: own b27 (.cells (agC (⟨madeAt y.x, qa, qc⟩ : AG)).toArray 26 (0, 0)) :: rowT qa qc (madeAt y.x).args :: own b2 (.cells (cgC ⟨⟨⟨T0, E0, []⟩, none, 0⟩, none, 0, [], none, 0, []⟩).toArray 30 (0, 0)) :: own b1 (.cells (cgC g).toArray 30 (0, 0)) :: argsA ys) (by
          rw [show ys.length + 1 = (ys ++ [(⟨madeAt y.x, qa, qc⟩ : AG)]).length by simp, show ys.flatMap agC ++ agC (⟨madeAt y.x, qa, qc⟩ : AG) = (ys ++ [(⟨madeAt y.x, qa, qc⟩ : AG)]).flatMap agC by simp]
          exact perm_pick [_, _, _, _, _, _] [3, 0, 1, 2, 4, 5] (by decide) rfl) (WL.store1 (o := 5) rfl rfl rfl T.z27 (by show 5 < 7; omega) ?_)
        refine Hc (fun h => by cases h) ?_
        refine He (Xb (Xn (Cr (Zm rfl (Zv (OV.addN (j := 1) rfl rfl (by omega)) (Za rfl (Nl ?_)))))))
        have hcy : g.cl.bd[i]? = some y.x := by show (g.bd.map AG.x)[i]? = _; rw [List.getElem?_map, ht]; rfl
        exact WX.round4 (i + 1) a28 c28 (ys ++ [(⟨madeAt y.x, qa, qc⟩ : AG)]) ⟨rfl, rfl, rfl, rfl, trivial⟩ (fun w' hw => ⟨⟨by omega, by omega, by simp [hyl], by rw [tk_snoc hcy, List.map_append, List.map_append, hyx]; rfl⟩, by
          rw [argsA_snoc]
          rw [show ys.length + 1 = (ys ++ [(⟨madeAt y.x, qa, qc⟩ : AG)]).length by simp] at hw
          refine Hw.Sat.pick [[own b3 (.cells (cgC ⟨⟨⟨T0, E0, []⟩, none, 0⟩, a28, c28, (ys ++ [(⟨madeAt y.x, qa, qc⟩ : AG)]), none, 0, []⟩).toArray 30 (0, 0))], [rowAt a28 c28 (ys ++ [(⟨madeAt y.x, qa, qc⟩ : AG)])], [own b27 (.cells (agC (⟨madeAt y.x, qa, qc⟩ : AG)).toArray 26 (0, 0))], [rowT qa qc (madeAt y.x).args], [own b2 (.cells (cgC ⟨⟨⟨T0, E0, []⟩, none, 0⟩, none, 0, [], none, 0, []⟩).toArray 30 (0, 0))], [own b1 (.cells (cgC g).toArray 30 (0, 0))], argsA ys] [0, 1, 4, 5, 6, 3] 7 rfl (by decide) (by decide) ?_
          exact hw⟩) (by show g.bd.length - (i + 1) < g.bd.length - i; omega)
      refine Ce (Xe (Xe (Xh ?_)))
      have e8 : g.cl.bd.take 8 = g.cl.bd.take i := by
        have hcl : g.cl.bd.length = g.bd.length := by simp [CG.cl]
        rcases Nat.lt_or_ge i 8 with h | h
        · rw [List.take_of_length_le (by omega), List.take_of_length_le (by omega)]
        · rw [show i = 8 by omega]
      exact WX.meetI (ba, bc, ys) ⟨rfl, rfl, rfl, trivial⟩ (fun w' hw => ⟨⟨by rw [e8]; exact hyx, by show ys.length ≤ 8; omega⟩, hw.perm (perm_pick [_, _, _, _] [0, 2, 3, 1] (by decide) rfl)⟩)
    refine Zs rfl rfl rfl (Zs rfl rfl rfl (Zv (OV.pickF rfl rfl) (Nn (WC.condF (show _ = some (Value.bool false) from by rfl) ?_))))
    refine Ce (Xe (Xe (Xh ?_)))
    have e8 : g.cl.bd.take 8 = g.cl.bd.take i := by
      have hcl : g.cl.bd.length = g.bd.length := by simp [CG.cl]
      rcases Nat.lt_or_ge i 8 with h | h
      · rw [List.take_of_length_le (by omega), List.take_of_length_le (by omega)]
      · rw [show i = 8 by omega]
    exact WX.meetI (ba, bc, ys) ⟨rfl, rfl, rfl, trivial⟩ (fun w' hw => ⟨⟨by rw [e8]; exact hyx, by show ys.length ≤ 8; omega⟩, hw.perm (perm_pick [_, _, _, _] [0, 2, 3, 1] (by decide) rfl)⟩)
  rintro ⟨ba, bc, ys⟩
  refine WC.pure (fun hyy => ?_)
  obtain ⟨hyx, hyl⟩ : ys.map AG.x = ((g.cl.bd.take 8).map madeAt) ∧ ys.length ≤ 8 := hyy
  refine Csr (Zv (OV.loadN (cs := cgC ⟨⟨⟨T0, E0, []⟩, none, 0⟩, ba, bc, ys, none, 0, []⟩) rfl T.u30 rfl T.z30 (fun _ hw j v hj => by rw [add_off, Nat.zero_add]; exact own_cells hw (.head _) j v hj)) ?_)
  have hbt : bodyTm (CG.cl ⟨⟨⟨T0, E0, []⟩, none, 0⟩, ba, bc, ys, none, 0, []⟩) = (((g.cl.bd.take 8).map madeAt).flatMap plc) := by rw [show bodyTm (CG.cl ⟨⟨⟨T0, E0, []⟩, none, 0⟩, ba, bc, ys, none, 0, []⟩) = (ys.map AG.x).flatMap plc from rfl, hyx]
  have h72 := bt_len g.cl.bd
  refine WL.callTA (ι := Option Addr × Nat) (vs := [cgV ⟨⟨⟨T0, E0, []⟩, none, 0⟩, ba, bc, ys, none, 0, []⟩]) (vv := fun z => .slice z.1 (((g.cl.bd.take 8).map madeAt).flatMap plc).length z.2) (pp := fun _ => True) [] (AA := fun z => [rowT z.1 z.2 (((g.cl.bd.take 8).map madeAt).flatMap plc)]) rfl (by kernel_rfl) rfl rfl (fun w' hw' _ => ?_) ?_
  · have h9 := bodyTerms_calls ⟨⟨⟨T0, E0, []⟩, none, 0⟩, ba, bc, ys, none, 0, []⟩ (by rw [hbt]; omega) (by show ys.length ≤ _; omega) w' ⟨RT.nil0 _, RA.of_row hw' (fun i hi => .tail _ (.tail _ (.tail _ hi))), ⟨fun _ => rfl, fun q hq => by cases hq⟩⟩
    rw [hbt] at h9
    exact h9.mono (fun en w'' ⟨z, h1, h2⟩ => ⟨z, h1, trivial, h2⟩)
  rintro ⟨la, lc⟩ _
  refine WL.focus (ow' := own b3 (.cells (cgC ⟨⟨⟨T0, E0, []⟩, none, 0⟩, ba, bc, ys, none, 0, []⟩).toArray 30 (0, 0)) :: rowT la lc (((g.cl.bd.take 8).map madeAt).flatMap plc) :: own b2 (.cells (cgC ⟨⟨⟨T0, E0, []⟩, none, 0⟩, none, 0, [], none, 0, []⟩).toArray 30 (0, 0)) :: own b1 (.cells (cgC g).toArray 30 (0, 0)) :: rowAt ba bc ys :: argsA ys) (perm_pick [_, _, _, _] [1, 0, 2, 3] (by decide) rfl) ?_
  refine Za rfl (Nn (Csr (Zv (OV.fieldAddr0 (off := 0) rfl T.u30 rfl) (Zv (OV.loadN (cs := atC g.hd.x g.hd.a g.hd.c) rfl T.u26 rfl T.z26 (fun _ hw j v hj => by rw [add_off]; exact own_part hw (.tail _ (.tail _ (.tail _ (.head _)))) (o := 0) (cs' := atC g.hd.x g.hd.a g.hd.c) rfl j v hj)) ?_))))
  have hsh := hs g.hd (Or.inl rfl)
  refine WL.callTA (ι := Option Addr × Nat) (vs := [atV g.hd.x g.hd.a g.hd.c]) (vv := fun z => atV (madeAt g.hd.x) z.1 z.2) (pp := fun _ => True) [] (AA := fun z => [rowT z.1 z.2 (madeAt g.hd.x).args]) rfl (by kernel_rfl) rfl rfl (fun w' hw' _ => (madeAtom_calls g.hd.x g.hd.a g.hd.c hsh.1 hsh.2 w' (hr.hd.keeps hw'.keeps)).mono (fun en w'' ⟨z, h1, h2⟩ => ⟨z, h1, trivial, h2⟩)) ?_
  rintro ⟨ha, hac⟩ _
  refine WL.focus (ow' := own b3 (.cells (cgC ⟨⟨⟨T0, E0, []⟩, none, 0⟩, ba, bc, ys, none, 0, []⟩).toArray 30 (0, 0)) :: rowT ha hac (madeAt g.hd.x).args :: rowT la lc (((g.cl.bd.take 8).map madeAt).flatMap plc) :: own b2 (.cells (cgC ⟨⟨⟨T0, E0, []⟩, none, 0⟩, none, 0, [], none, 0, []⟩).toArray 30 (0, 0)) :: own b1 (.cells (cgC g).toArray 30 (0, 0)) :: rowAt ba bc ys :: argsA ys) (perm_pick [_, _, _, _, _] [1, 0, 2, 3, 4] (by decide) rfl) ?_
  refine Zv (OV.fieldAddr0 (off := 0) rfl T.u30 rfl) (WL.storeN (o := 0) (vs := atC (madeAt g.hd.x) ha hac) rfl rfl rfl T.z26 (Nat.le_of_ble_eq_true rfl) ?_)
  refine Nn (Cs (Csr (Zv (OV.fieldAddr0 (off := 0) rfl T.u30 rfl) (Zv (OV.fieldAddr0 (off := 0) rfl T.u26 rfl) (Zv (OV.fieldAddr0 (off := 0) rfl T.u23 rfl) (Zv (OV.load1 (v := .int .i64 (madeAt g.hd.x).b.kind) rfl T.u3 rfl (fun _ hw => (cell_at (hw.it _ (.head _)) (o := 0) rfl).1)) (Zv (OV.eql rfl rfl) (Nn ?_))))))))
  refine WC.meet [(1, .pointer (some ⟨b1, 0, none⟩)), (2, .pointer (some ⟨b2, 0, none⟩)), (3, .pointer (some ⟨b3, 0, none⟩)), (5, .slice la (((g.cl.bd.take 8).map madeAt).flatMap plc).length lc)] (Sat0 w (own b3 (.cells (cgC ⟨⟨⟨nvB (madeAt g.hd.x).b, (madeAt g.hd.x).name, (madeAt g.hd.x).args⟩, ha, hac⟩, ba, bc, ys, none, 0, []⟩).toArray 30 (0, 0)) :: rowT ha hac (madeAt g.hd.x).args :: rowT la lc (((g.cl.bd.take 8).map madeAt).flatMap plc) :: own b2 (.cells (cgC ⟨⟨⟨T0, E0, []⟩, none, 0⟩, none, 0, [], none, 0, []⟩).toArray 30 (0, 0)) :: own b1 (.cells (cgC g).toArray 30 (0, 0)) :: rowAt ba bc ys :: argsA ys)) ?_ ?_
  · refine Cc rfl (fun c40 => ?_) (fun c40 => ?_)
    · refine Cr (Zv (OV.buildStruct (xs := []) (pl := [(0, 1), (1, 1), (2, 1)]) (cs := tmC T0) T.u23 T.zr23 (by kernel_rfl) rfl rfl) (Zv (OV.fieldAddr0 (off := 0) rfl T.u30 rfl) (Zv (OV.fieldAddr0 (off := 0) rfl T.u26 rfl) (WL.storeN (o := 0) (vs := tmC T0) rfl rfl rfl T.z23 (Nat.le_of_ble_eq_true rfl) ?_))))
      refine Nl ?_
      have em : nvB (madeAt g.hd.x).b = T0 := by unfold nvB; rw [if_pos (by simpa using c40)]
      exact WX.meet ⟨rfl, rfl, rfl, rfl, trivial⟩ (fun w' hw => by rw [em]; exact hw)
    refine Ck ?_
    have em : nvB (madeAt g.hd.x).b = (madeAt g.hd.x).b := by unfold nvB; rw [if_neg (by simpa using c40)]
    exact WX.meet ⟨rfl, rfl, rfl, rfl, trivial⟩ (fun w' hw => by rw [em]; exact hw)
  refine Cs (Csr (Za rfl (Nn (Cb ?_))))
  have hha := made_args g.hd.x
  refine WC.know (fun w' hw => (fun hp => row_addrK (hw.it (rowT ha hac (madeAt g.hd.x).args) (.tail _ (.head _))) hp : 0 < (madeAt g.hd.x).args.length → ∃ q, ha = some ⟨q, 0, none⟩)) (fun hqa => ?_)
  refine WC.loop1 (fun (i : Nat) => [(1, .pointer (some ⟨b1, 0, none⟩)), (2, .pointer (some ⟨b2, 0, none⟩)), (3, .pointer (some ⟨b3, 0, none⟩)), (5, .slice la (((g.cl.bd.take 8).map madeAt).flatMap plc).length lc), (6, .int .i64 (i : Int))])
      (fun i w' => i ≤ (madeAt g.hd.x).args.length ∧ Sat0 w (own b3 (.cells (cgC ⟨⟨⟨nvB (madeAt g.hd.x).b, (madeAt g.hd.x).name, (((madeAt g.hd.x).args.take i).map (safeT (((g.cl.bd.take 8).map madeAt).flatMap plc)) ++ (madeAt g.hd.x).args.drop i)⟩, ha, hac⟩, ba, bc, ys, none, 0, []⟩).toArray 30 (0, 0)) :: rowT ha hac (((madeAt g.hd.x).args.take i).map (safeT (((g.cl.bd.take 8).map madeAt).flatMap plc)) ++ (madeAt g.hd.x).args.drop i) :: rowT la lc (((g.cl.bd.take 8).map madeAt).flatMap plc) :: own b2 (.cells (cgC ⟨⟨⟨T0, E0, []⟩, none, 0⟩, none, 0, [], none, 0, []⟩).toArray 30 (0, 0)) :: own b1 (.cells (cgC g).toArray 30 (0, 0)) :: rowAt ba bc ys :: argsA ys) w')
      (fun i => (madeAt g.hd.x).args.length - i) 0 ⟨rfl, rfl, rfl, rfl, rfl, trivial⟩ (fun w' hw => ⟨by omega, hw⟩) ?_
  intro i
  refine WC.pure (fun hi => ?_)
  have hcl := cur_len (safeT (((g.cl.bd.take 8).map madeAt).flatMap plc)) (madeAt g.hd.x).args i
  refine Cs (Csr (Zm rfl (Zv (OV.fieldAddr0 (off := 0) rfl T.u30 rfl) (Zv (OV.fieldAddr0 (off := 4) rfl T.u26 rfl) (Zv (OV.load1 (v := .slice ha (((madeAt g.hd.x).args.take i).map (safeT (((g.cl.bd.take 8).map madeAt).flatMap plc)) ++ (madeAt g.hd.x).args.drop i).length hac) rfl T.u24 rfl (fun _ hw => (cell_at (hw.it _ (.head _)) (o := 4) rfl).1)) (Zv (OV.lenSlice rfl T.u24) (Zv (OV.lss rfl rfl) (Nn ?_))))))))
  refine Cc rfl (fun c49 => ?_) (fun c49 => ?_)
  · refine Ck (Xn (Cs (Cb (Hd (fun w' => w'.heap[b3]? = some (.cells (cgC ⟨⟨⟨nvB (madeAt g.hd.x).b, (madeAt g.hd.x).name, (((madeAt g.hd.x).args.take i).map (safeT (((g.cl.bd.take 8).map madeAt).flatMap plc)) ++ (madeAt g.hd.x).args.drop i)⟩, ha, hac⟩, ba, bc, ys, none, 0, []⟩).toArray 30 (0, 0)) ∧ (rowT ha hac (((madeAt g.hd.x).args.take i).map (safeT (((g.cl.bd.take 8).map madeAt).flatMap plc)) ++ (madeAt g.hd.x).args.drop i)).φ w') [13] (fun _ hw => ⟨hw.it (own b3 (.cells (cgC ⟨⟨⟨nvB (madeAt g.hd.x).b, (madeAt g.hd.x).name, (((madeAt g.hd.x).args.take i).map (safeT (((g.cl.bd.take 8).map madeAt).flatMap plc)) ++ (madeAt g.hd.x).args.drop i)⟩, ha, hac⟩, ba, bc, ys, none, 0, []⟩).toArray 30 (0, 0))) (by simp), hw.it (rowT ha hac (((madeAt g.hd.x).args.take i).map (safeT (((g.cl.bd.take 8).map madeAt).flatMap plc)) ++ (madeAt g.hd.x).args.drop i)) (by simp)⟩) (m := 14) rfl ?_))))
    refine Hf 0 rfl (OV.fieldAddr0 (off := 0) rfl T.u30 rfl) (Hf 1 rfl (OV.fieldAddr0 (off := 4) rfl T.u26 rfl) (Ht 2 rfl (OV.load1 (v := .slice ha (((madeAt g.hd.x).args.take i).map (safeT (((g.cl.bd.take 8).map madeAt).flatMap plc)) ++ (madeAt g.hd.x).args.drop i).length hac) rfl T.u24 rfl (fun _ hw => (cell_at hw.1 (o := 4) rfl).1)) (Hf 3 rfl (OV.move rfl) (Hf 4 rfl (OV.move rfl) (Hf 5 rfl (OV.fieldAddr0 (off := 0) rfl T.u30 rfl) (Hf 6 rfl (OV.fieldAddr0 (off := 4) rfl T.u26 rfl) (Ht 7 rfl (OV.load1 (v := .slice ha (((madeAt g.hd.x).args.take i).map (safeT (((g.cl.bd.take 8).map madeAt).flatMap plc)) ++ (madeAt g.hd.x).args.drop i).length hac) rfl T.u24 rfl (fun _ hw => (cell_at hw.1 (o := 4) rfl).1)) (Hf 8 rfl (OV.move rfl) ?_))))))))
    obtain ⟨t, ht⟩ : ∃ t, (madeAt g.hd.x).args[i]? = some t := ⟨_, List.getElem?_eq_getElem (by omega)⟩
    obtain ⟨qh, hqh⟩ := hqa (by omega)
    refine Hf 9 rfl ((OV.indexSlice (show _ = some (Value.slice (some ⟨qh, 0, none⟩) (((madeAt g.hd.x).args.take i).map (safeT (((g.cl.bd.take 8).map madeAt).flatMap plc)) ++ (madeAt g.hd.x).args.drop i).length hac) by rw [← hqh]; rfl) rfl T.u24 T.z23 (by rw [cur_len]; omega)).cast (u := .pointer (some ⟨qh, i * 3, none⟩)) (by rw [Int.toNat_natCast, add_off, Nat.zero_add])) ?_
    refine Ht 10 rfl (OV.loadN (cs := tmC t) rfl T.u23 rfl T.z23 (fun _ hw j v hj => by have hj3 : j < 3 := (List.getElem?_eq_some_iff.1 hj).1; have h := row_cellsφE hqh hw.2 (i * 3 + j) v (by rw [flat_get tmC_len _ i j t (cur_get ht) (by omega)]; exact hj); rwa [add_off, Nat.zero_add, ← add_off] at h)) ?_
    refine Ho 11 rfl (fl' := false) rfl ?_
    refine WL.call0 (v := tmV (safeT (((g.cl.bd.take 8).map madeAt).flatMap plc) t)) (by kernel_rfl) rfl rfl (fun w' hw' => safe_calls (((g.cl.bd.take 8).map madeAt).flatMap plc) la lc t (by omega) w' (RT.of_row (c := lc) rfl hw' (.tail _ (.tail _ (.head _))))) ?_
    refine Hc (fun _ => (fun _ hw => ⟨hw.it (own b3 (.cells (cgC ⟨⟨⟨nvB (madeAt g.hd.x).b, (madeAt g.hd.x).name, (((madeAt g.hd.x).args.take i).map (safeT (((g.cl.bd.take 8).map madeAt).flatMap plc)) ++ (madeAt g.hd.x).args.drop i)⟩, ha, hac⟩, ba, bc, ys, none, 0, []⟩).toArray 30 (0, 0))) (by simp), hw.it (rowT ha hac (((madeAt g.hd.x).args.take i).map (safeT (((g.cl.bd.take 8).map madeAt).flatMap plc)) ++ (madeAt g.hd.x).args.drop i)) (by simp)⟩)) ?_
    refine Hf 12 rfl ((OV.indexSlice (show _ = some (Value.slice (some ⟨qh, 0, none⟩) (((madeAt g.hd.x).args.take i).map (safeT (((g.cl.bd.take 8).map madeAt).flatMap plc)) ++ (madeAt g.hd.x).args.drop i).length hac) by rw [← hqh]; rfl) rfl T.u24 T.z23 (by rw [cur_len]; omega)).cast (u := .pointer (some ⟨qh, i * 3, none⟩)) (by rw [Int.toNat_natCast, add_off, Nat.zero_add])) (Ho 13 rfl (fl' := true) rfl ?_)
    refine WL.focus perm1 (WL.storeRowN (vs := tmC (safeT (((g.cl.bd.take 8).map madeAt).flatMap plc) t)) (o := i * 3) rfl hqh rfl rfl T.z23 (by rw [cur_len3]; show i * 3 + 3 ≤ _; omega) ?_)
    refine Hc (fun h => by cases h) ?_
    refine He (Xb (Xn (Cr (Zm rfl (Zv (OV.addN (j := 1) rfl rfl (by omega)) (Za rfl (Nl ?_)))))))
    have hfp := flat_put (((madeAt g.hd.x).args.take i).map (safeT (((g.cl.bd.take 8).map madeAt).flatMap plc)) ++ (madeAt g.hd.x).args.drop i) i (safeT (((g.cl.bd.take 8).map madeAt).flatMap plc) t) (by omega)
    rw [hfp, cur_set ht]
    exact WX.round1 (i + 1) ⟨rfl, rfl, rfl, rfl, rfl, trivial⟩ (fun w' hw => ⟨by omega, by
      have hl1 := cur_len (safeT (((g.cl.bd.take 8).map madeAt).flatMap plc)) (madeAt g.hd.x).args (i + 1)
      rw [hcl, ← hl1] at hw
      have hce : cgC ⟨⟨⟨nvB (madeAt g.hd.x).b, (madeAt g.hd.x).name, (((madeAt g.hd.x).args.take i).map (safeT (((g.cl.bd.take 8).map madeAt).flatMap plc)) ++ (madeAt g.hd.x).args.drop i)⟩, ha, hac⟩, ba, bc, ys, none, 0, []⟩ = cgC ⟨⟨⟨nvB (madeAt g.hd.x).b, (madeAt g.hd.x).name, (((madeAt g.hd.x).args.take (i + 1)).map (safeT (((g.cl.bd.take 8).map madeAt).flatMap plc)) ++ (madeAt g.hd.x).args.drop (i + 1))⟩, ha, hac⟩, ba, bc, ys, none, 0, []⟩ := by unfold cgC; simp only [cur_len]
      rw [← hce]
      exact hw.perm perm1⟩) (by show (madeAt g.hd.x).args.length - (i + 1) < (madeAt g.hd.x).args.length - i; omega)
  refine Ce (Xe (Xe (Xh (Xn (Cs (Csr (Za rfl (Nn ?_))))))))
  refine WC.meetI (fun (z : Option Addr × Nat × List Ts) => [(1, .pointer (some ⟨b1, 0, none⟩)), (2, .pointer (some ⟨b2, 0, none⟩)), (3, .pointer (some ⟨b3, 0, none⟩)), (5, .slice la (((g.cl.bd.take 8).map madeAt).flatMap plc).length lc)]) (fun (z : Option Addr × Nat × List Ts) => fun w' => (z.2.2 = (g.cl.ts.take 8).map (madeTs (((g.cl.bd.take 8).map madeAt).flatMap plc))) ∧ Sat0 w (own b3 (.cells (cgC ⟨⟨⟨nvB (madeAt g.hd.x).b, (madeAt g.hd.x).name, (madeAt g.hd.x).args.map (safeT (((g.cl.bd.take 8).map madeAt).flatMap plc))⟩, ha, hac⟩, ba, bc, ys, z.1, z.2.1, z.2.2⟩).toArray 30 (0, 0)) :: rowS z.1 z.2.1 z.2.2 :: rowT ha hac ((madeAt g.hd.x).args.map (safeT (((g.cl.bd.take 8).map madeAt).flatMap plc))) :: rowT la lc (((g.cl.bd.take 8).map madeAt).flatMap plc) :: own b2 (.cells (cgC ⟨⟨⟨T0, E0, []⟩, none, 0⟩, none, 0, [], none, 0, []⟩).toArray 30 (0, 0)) :: own b1 (.cells (cgC g).toArray 30 (0, 0)) :: rowAt ba bc ys :: argsA ys) w') ?_ ?_
  · refine Cb ?_
    have hcm : (((madeAt g.hd.x).args.take i).map (safeT (((g.cl.bd.take 8).map madeAt).flatMap plc)) ++ (madeAt g.hd.x).args.drop i) = (madeAt g.hd.x).args.map (safeT (((g.cl.bd.take 8).map madeAt).flatMap plc)) := by
      have e1 : (madeAt g.hd.x).args.take i = (madeAt g.hd.x).args := List.take_of_length_le (by omega)
      have e2 : (madeAt g.hd.x).args.drop i = [] := List.drop_eq_nil_of_le (by omega)
      rw [e1, e2, List.append_nil]
    rw [hcm]
    refine WC.weak (S' := Sat0 w (own b3 (.cells (cgC ⟨⟨⟨nvB (madeAt g.hd.x).b, (madeAt g.hd.x).name, (madeAt g.hd.x).args.map (safeT (((g.cl.bd.take 8).map madeAt).flatMap plc))⟩, ha, hac⟩, ba, bc, ys, none, 0, []⟩).toArray 30 (0, 0)) :: row 45 7 none 0 0 [] :: rowT ha hac ((madeAt g.hd.x).args.map (safeT (((g.cl.bd.take 8).map madeAt).flatMap plc))) :: rowT la lc (((g.cl.bd.take 8).map madeAt).flatMap plc) :: own b2 (.cells (cgC ⟨⟨⟨T0, E0, []⟩, none, 0⟩, none, 0, [], none, 0, []⟩).toArray 30 (0, 0)) :: own b1 (.cells (cgC g).toArray 30 (0, 0)) :: rowAt ba bc ys :: argsA ys)) (fun w' hw => (hw.rowNil 45 7).perm (perm_pick [_, _, _, _, _, _] [1, 0, 2, 3, 4, 5] (by decide) rfl)) ?_
    clear hi
    refine WC.loop4 (fun (i : Nat) (ta : Option Addr) (tc : Nat) (us : List Ts) => [(1, .pointer (some ⟨b1, 0, none⟩)), (2, .pointer (some ⟨b2, 0, none⟩)), (3, .pointer (some ⟨b3, 0, none⟩)), (5, .slice la (((g.cl.bd.take 8).map madeAt).flatMap plc).length lc), (7, .int .i64 (i : Int))])
        (fun i ta tc us w' => (i ≤ g.ts.length ∧ i ≤ 8 ∧ us.length = i ∧ us = (g.ts.take i).map (madeTs (((g.cl.bd.take 8).map madeAt).flatMap plc))) ∧ Sat0 w (own b3 (.cells (cgC ⟨⟨⟨nvB (madeAt g.hd.x).b, (madeAt g.hd.x).name, (madeAt g.hd.x).args.map (safeT (((g.cl.bd.take 8).map madeAt).flatMap plc))⟩, ha, hac⟩, ba, bc, ys, ta, tc, us⟩).toArray 30 (0, 0)) :: rowS ta tc us :: rowT ha hac ((madeAt g.hd.x).args.map (safeT (((g.cl.bd.take 8).map madeAt).flatMap plc))) :: rowT la lc (((g.cl.bd.take 8).map madeAt).flatMap plc) :: own b2 (.cells (cgC ⟨⟨⟨T0, E0, []⟩, none, 0⟩, none, 0, [], none, 0, []⟩).toArray 30 (0, 0)) :: own b1 (.cells (cgC g).toArray 30 (0, 0)) :: rowAt ba bc ys :: argsA ys) w')
        (fun i _ _ _ => g.ts.length - i) 0 none 0 [] ⟨rfl, rfl, rfl, rfl, rfl, trivial⟩ (fun w' hw => ⟨⟨by omega, by omega, rfl, rfl⟩, hw⟩) ?_
    intro i ta tc us
    refine WC.pure (fun hi => ?_)
    obtain ⟨hi, hi8, hul, hue⟩ := hi
    refine Cs (Csr (Zm rfl (Zv (OV.fieldAddr0 (off := 6) rfl T.u30 rfl) (Zv (OV.load1 (v := .slice g.ta g.ts.length g.tc) rfl T.u28 rfl (fun _ hw => (cell_at (hw.it _ (.tail _ (.tail _ (.tail _ (.tail _ (.tail _ (.head _))))))) (o := 6) rfl).1)) (Zv (OV.lenSlice rfl T.u28) (Zv (OV.lss rfl rfl) (Zm rfl ?_)))))))
    refine Zp (t := 70) rfl (fun g70 => ?_) (fun g70 => ?_)
    · refine Zg rfl rfl rfl (Zm rfl (Zg rfl rfl rfl (Zv (OV.lss rfl rfl) (Zv (OV.pickT rfl rfl) (Nn ?_)))))
      refine Cc rfl (fun c73 => ?_) (fun c73 => ?_)
      · refine Ck (Xn (Cs (Cb (Hd (fun w' => w'.heap[b3]? = some (.cells (cgC ⟨⟨⟨nvB (madeAt g.hd.x).b, (madeAt g.hd.x).name, (madeAt g.hd.x).args.map (safeT (((g.cl.bd.take 8).map madeAt).flatMap plc))⟩, ha, hac⟩, ba, bc, ys, ta, tc, us⟩).toArray 30 (0, 0)) ∧ w'.heap[b1]? = some (.cells (cgC g).toArray 30 (0, 0)) ∧ Keeps w w') [12] (fun _ hw => ⟨hw.it (own b3 (.cells (cgC ⟨⟨⟨nvB (madeAt g.hd.x).b, (madeAt g.hd.x).name, (madeAt g.hd.x).args.map (safeT (((g.cl.bd.take 8).map madeAt).flatMap plc))⟩, ha, hac⟩, ba, bc, ys, ta, tc, us⟩).toArray 30 (0, 0))) (by simp), hw.it (own b1 (.cells (cgC g).toArray 30 (0, 0))) (by simp), hw.keeps⟩) (m := 13) rfl ?_))))
        refine Hf 0 rfl (OV.fieldAddr0 (off := 6) rfl T.u30 rfl) (Ht 1 rfl (OV.load1 (v := .slice ta us.length tc) rfl T.u28 rfl (fun _ hw => (cell_at hw.1 (o := 6) rfl).1)) (Hf 2 rfl (OV.fieldAddr0 (off := 6) rfl T.u30 rfl) (Ht 3 rfl (OV.load1 (v := .slice g.ta g.ts.length g.tc) rfl T.u28 rfl (fun _ hw => (cell_at hw.2.1 (o := 6) rfl).1)) (Hf 4 rfl (OV.move rfl) ?_))))
        obtain ⟨q1, t, hq, ht, htm, hc⟩ := hr.ts.get (i := i) (by omega)
        refine Hf 5 rfl ((OV.indexSlice (show _ = some (Value.slice (some q1) g.ts.length g.tc) by rw [← hq]; rfl) rfl T.u28 T.z45 (by omega)).cast (u := .pointer (some (q1.add (i * 7)))) (by rw [Int.toNat_natCast])) (Ht 6 rfl (OV.loadN (cs := tsC t) rfl T.u45 rfl T.z45 (fun _ hw j v hj => hw.2.2 _ _ (hc j v hj))) (Hf 7 rfl (OV.move rfl) (Ho 8 rfl (fl' := false) rfl ?_)))
        refine WL.call0 (v := tsV (madeTs (((g.cl.bd.take 8).map madeAt).flatMap plc) t)) (by kernel_rfl) rfl rfl (fun w' hw' => madeTest_calls t (((g.cl.bd.take 8).map madeAt).flatMap plc) la lc (by omega) w' (RT.of_row (c := lc) rfl hw' (.tail _ (.tail _ (.tail _ (.head _)))))) ?_
        refine Hc (fun _ => (fun _ hw => ⟨hw.it (own b3 (.cells (cgC ⟨⟨⟨nvB (madeAt g.hd.x).b, (madeAt g.hd.x).name, (madeAt g.hd.x).args.map (safeT (((g.cl.bd.take 8).map madeAt).flatMap plc))⟩, ha, hac⟩, ba, bc, ys, ta, tc, us⟩).toArray 30 (0, 0))) (by simp), hw.it (own b1 (.cells (cgC g).toArray 30 (0, 0))) (by simp), hw.keeps⟩)) ?_
        refine Ho 9 rfl (fl' := false) rfl ?_
        refine WL.buildSliceA (cs := tsC (madeTs (((g.cl.bd.take 8).map madeAt).flatMap plc) t)) T.u28 T.z45 T.zr45 rfl rfl (by omega) (by omega) rfl ?_
        intro b85
        refine Hc (fun _ => (fun _ hw => ⟨hw.it (own b3 (.cells (cgC ⟨⟨⟨nvB (madeAt g.hd.x).b, (madeAt g.hd.x).name, (madeAt g.hd.x).args.map (safeT (((g.cl.bd.take 8).map madeAt).flatMap plc))⟩, ha, hac⟩, ba, bc, ys, ta, tc, us⟩).toArray 30 (0, 0))) (by simp), hw.it (own b1 (.cells (cgC g).toArray 30 (0, 0))) (by simp), hw.keeps⟩)) ?_
        refine Ho 10 rfl (fl' := false) rfl ?_
        refine WL.focus (ow' := rowS ta tc us :: own b85 (.cells (tsC (madeTs (((g.cl.bd.take 8).map madeAt).flatMap plc) t)).toArray 45 (0, 0)) :: own b3 (.cells (cgC ⟨⟨⟨nvB (madeAt g.hd.x).b, (madeAt g.hd.x).name, (madeAt g.hd.x).args.map (safeT (((g.cl.bd.take 8).map madeAt).flatMap plc))⟩, ha, hac⟩, ba, bc, ys, ta, tc, us⟩).toArray 30 (0, 0)) :: rowT ha hac ((madeAt g.hd.x).args.map (safeT (((g.cl.bd.take 8).map madeAt).flatMap plc))) :: rowT la lc (((g.cl.bd.take 8).map madeAt).flatMap plc) :: own b2 (.cells (cgC ⟨⟨⟨T0, E0, []⟩, none, 0⟩, none, 0, [], none, 0, []⟩).toArray 30 (0, 0)) :: own b1 (.cells (cgC g).toArray 30 (0, 0)) :: rowAt ba bc ys :: argsA ys) (perm_pick [_, _, _, _, _, _, _] [2, 0, 1, 3, 4, 5, 6] (by decide) rfl) ?_
        refine WL.append (news := tsC (madeTs (((g.cl.bd.take 8).map madeAt).flatMap plc) t)) rfl rfl T.apS (fun _ _ => own_srcN (.tail _ (.head _)) rfl) (tsC_one _) ⟨by omega, by unfold maxLen; omega⟩ rfl ?_
        intro a86 c86
        refine Hc (fun _ => (fun _ hw => ⟨hw.it (own b3 (.cells (cgC ⟨⟨⟨nvB (madeAt g.hd.x).b, (madeAt g.hd.x).name, (madeAt g.hd.x).args.map (safeT (((g.cl.bd.take 8).map madeAt).flatMap plc))⟩, ha, hac⟩, ba, bc, ys, ta, tc, us⟩).toArray 30 (0, 0))) (by simp), hw.it (own b1 (.cells (cgC g).toArray 30 (0, 0))) (by simp), hw.keeps⟩)) ?_
        refine Hf 11 rfl (OV.fieldAddr0 (off := 6) rfl T.u30 rfl) (Ho 12 rfl (fl' := true) rfl ?_)
        refine WL.focus perm2 (WL.store1 (o := 6) rfl rfl rfl T.z28 (by show 6 < 7; omega) ?_)
        refine Hc (fun h => by cases h) ?_
        refine He (Xb (Xn (Cr (Zm rfl (Zv (OV.addN (j := 1) rfl rfl (by omega)) (Za rfl (Nl ?_)))))))
        have el : us.length + 1 = (us ++ [(madeTs (((g.cl.bd.take 8).map madeAt).flatMap plc) t)]).length := by simp
        have ef : us.flatMap tsC ++ tsC (madeTs (((g.cl.bd.take 8).map madeAt).flatMap plc) t) = (us ++ [(madeTs (((g.cl.bd.take 8).map madeAt).flatMap plc) t)]).flatMap tsC := by simp
        exact WX.round4 (i + 1) a86 c86 (us ++ [(madeTs (((g.cl.bd.take 8).map madeAt).flatMap plc) t)]) ⟨rfl, rfl, rfl, rfl, rfl, trivial⟩ (fun w' hw => ⟨⟨by omega, by omega, by simp [hul], by rw [tk_snoc ht, List.map_append, hue]; rfl⟩, by
          rw [el, ef] at hw
          exact hw.pick [[own b3 (.cells (cgC ⟨⟨⟨nvB (madeAt g.hd.x).b, (madeAt g.hd.x).name, (madeAt g.hd.x).args.map (safeT (((g.cl.bd.take 8).map madeAt).flatMap plc))⟩, ha, hac⟩, ba, bc, ys, a86, c86, us ++ [(madeTs (((g.cl.bd.take 8).map madeAt).flatMap plc) t)]⟩).toArray 30 (0, 0))], [rowS a86 c86 (us ++ [(madeTs (((g.cl.bd.take 8).map madeAt).flatMap plc) t)])], [own b85 (.cells (tsC (madeTs (((g.cl.bd.take 8).map madeAt).flatMap plc) t)).toArray 45 (0, 0))], [rowT ha hac ((madeAt g.hd.x).args.map (safeT (((g.cl.bd.take 8).map madeAt).flatMap plc)))], [rowT la lc (((g.cl.bd.take 8).map madeAt).flatMap plc)], [own b2 (.cells (cgC ⟨⟨⟨T0, E0, []⟩, none, 0⟩, none, 0, [], none, 0, []⟩).toArray 30 (0, 0))], [own b1 (.cells (cgC g).toArray 30 (0, 0))], rowAt ba bc ys :: argsA ys] [0, 1, 3, 4, 5, 6, 7] 8 rfl (by decide) (by decide)⟩) (by show g.ts.length - (i + 1) < g.ts.length - i; omega)
      refine Ce (Xe (Xe (Xh ?_)))
      have e8 : g.cl.ts.take 8 = g.ts.take i := by
        show g.ts.take 8 = g.ts.take i
        rcases Nat.lt_or_ge i 8 with h | h
        · rw [List.take_of_length_le (by omega), List.take_of_length_le (by omega)]
        · rw [show i = 8 by omega]
      exact WX.meetI (ta, tc, us) ⟨rfl, rfl, rfl, rfl, trivial⟩ (fun w' hw => ⟨by rw [e8]; exact hue, hw⟩)
    refine Zs rfl rfl rfl (Zs rfl rfl rfl (Zv (OV.pickF rfl rfl) (Nn (WC.condF (show _ = some (Value.bool false) from by rfl) ?_))))
    refine Ce (Xe (Xe (Xh ?_)))
    have e8 : g.cl.ts.take 8 = g.ts.take i := by
      show g.ts.take 8 = g.ts.take i
      rcases Nat.lt_or_ge i 8 with h | h
      · rw [List.take_of_length_le (by omega), List.take_of_length_le (by omega)]
      · rw [show i = 8 by omega]
    exact WX.meetI (ta, tc, us) ⟨rfl, rfl, rfl, rfl, trivial⟩ (fun w' hw => ⟨by rw [e8]; exact hue, hw⟩)
  rintro ⟨ta, tc, us⟩
  refine WC.pure (fun hue8 => ?_)
  replace hue8 : us = (g.cl.ts.take 8).map (madeTs (((g.cl.bd.take 8).map madeAt).flatMap plc)) := hue8
  refine Csr (Zv (OV.loadN (cs := cgC ⟨⟨⟨nvB (madeAt g.hd.x).b, (madeAt g.hd.x).name, (madeAt g.hd.x).args.map (safeT (((g.cl.bd.take 8).map madeAt).flatMap plc))⟩, ha, hac⟩, ba, bc, ys, ta, tc, us⟩) rfl T.u30 rfl T.z30 (fun _ hw j v hj => by rw [add_off, Nat.zero_add]; exact own_cells hw (.head _) j v hj)) ?_)
  have hgc : CG.cl ⟨⟨⟨nvB (madeAt g.hd.x).b, (madeAt g.hd.x).name, (madeAt g.hd.x).args.map (safeT (((g.cl.bd.take 8).map madeAt).flatMap plc))⟩, ha, hac⟩, ba, bc, ys, ta, tc, us⟩ = made0 g.cl := by
    unfold CG.cl made0
    simp only [hyx, hue8]
    rfl
  refine WL.callTA (ι := CG) (vs := [cgV ⟨⟨⟨nvB (madeAt g.hd.x).b, (madeAt g.hd.x).name, (madeAt g.hd.x).args.map (safeT (((g.cl.bd.take 8).map madeAt).flatMap plc))⟩, ha, hac⟩, ba, bc, ys, ta, tc, us⟩]) (vv := fun g' => cgV g') (pp := fun g' => g'.cl = madeC g.cl) [] (AA := fun g' => cgA g') rfl (by kernel_rfl) rfl rfl (fun w' hw' _ => ?_) ?_
  · have h97 := made0_len g.cl
    have h9 := normal_calls ⟨⟨⟨nvB (madeAt g.hd.x).b, (madeAt g.hd.x).name, (madeAt g.hd.x).args.map (safeT (((g.cl.bd.take 8).map madeAt).flatMap plc))⟩, ha, hac⟩, ba, bc, ys, ta, tc, us⟩ (by rw [hgc]; omega) (by show ys.length ≤ _; omega) w' ⟨RT.of_row (c := hac) (m := ((madeAt g.hd.x).args.map (safeT (((g.cl.bd.take 8).map madeAt).flatMap plc))).length) rfl hw' (.tail _ (.tail _ (.head _))), RA.of_row hw' (fun i hi => .tail _ (.tail _ (.tail _ (.tail _ (.tail _ (.tail _ hi)))))), RS.of_row hw' (.tail _ (.head _))⟩
    rw [hgc] at h9
    exact h9.mono (fun en w'' ⟨g', h1, h2, h3⟩ => ⟨g', h1, h2, h3⟩)
  intro g' hg'
  refine WL.focus (ow' := own b2 (.cells (cgC ⟨⟨⟨T0, E0, []⟩, none, 0⟩, none, 0, [], none, 0, []⟩).toArray 30 (0, 0)) :: (cgA g' ++ (own b3 (.cells (cgC ⟨⟨⟨nvB (madeAt g.hd.x).b, (madeAt g.hd.x).name, (madeAt g.hd.x).args.map (safeT (((g.cl.bd.take 8).map madeAt).flatMap plc))⟩, ha, hac⟩, ba, bc, ys, ta, tc, us⟩).toArray 30 (0, 0)) :: rowS ta tc us :: rowT ha hac ((madeAt g.hd.x).args.map (safeT (((g.cl.bd.take 8).map madeAt).flatMap plc))) :: rowT la lc (((g.cl.bd.take 8).map madeAt).flatMap plc) :: own b1 (.cells (cgC g).toArray 30 (0, 0)) :: rowAt ba bc ys :: argsA ys))) (perm_cat [cgA g', [own b3 (.cells (cgC ⟨⟨⟨nvB (madeAt g.hd.x).b, (madeAt g.hd.x).name, (madeAt g.hd.x).args.map (safeT (((g.cl.bd.take 8).map madeAt).flatMap plc))⟩, ha, hac⟩, ba, bc, ys, ta, tc, us⟩).toArray 30 (0, 0))], [rowS ta tc us], [rowT ha hac ((madeAt g.hd.x).args.map (safeT (((g.cl.bd.take 8).map madeAt).flatMap plc)))], [rowT la lc (((g.cl.bd.take 8).map madeAt).flatMap plc)], [own b2 (.cells (cgC ⟨⟨⟨T0, E0, []⟩, none, 0⟩, none, 0, [], none, 0, []⟩).toArray 30 (0, 0))], [own b1 (.cells (cgC g).toArray 30 (0, 0))], rowAt ba bc ys :: argsA ys] [5, 0, 1, 2, 3, 4, 6, 7] (by decide) rfl) ?_
  refine WL.storeAll (vs := cgC g') rfl rfl rfl T.z30 rfl ?_
  refine Nn (WC.ret ?_)
  refine WX.retC (cs := cgC g') rfl rfl rfl T.u30 rfl T.z30 (fun w' hw j v hj => own_cells hw (.head _) j v hj) (fun w' hw => ⟨g', rfl, hg', ?_⟩)
  exact (hw.pick [[own b2 (.cells (cgC g').toArray 30 (0, 0))], cgA g', [own b3 (.cells (cgC ⟨⟨⟨nvB (madeAt g.hd.x).b, (madeAt g.hd.x).name, (madeAt g.hd.x).args.map (safeT (((g.cl.bd.take 8).map madeAt).flatMap plc))⟩, ha, hac⟩, ba, bc, ys, ta, tc, us⟩).toArray 30 (0, 0))], [rowS ta tc us], [rowT ha hac ((madeAt g.hd.x).args.map (safeT (((g.cl.bd.take 8).map madeAt).flatMap plc)))], [rowT la lc (((g.cl.bd.take 8).map madeAt).flatMap plc)], [own b1 (.cells (cgC g).toArray 30 (0, 0))], rowAt ba bc ys :: argsA ys] [1] 8 rfl (by decide) (by decide)).turned0

end Go.Proofs.YtpgpkjbahlmgeaaGreatDoor

set_option maxRecDepth 10000
namespace Go.Proofs.YtpgpkjbahlmgeaaGreatDoor
open Go Go.Hw
set_option linter.unusedSimpArgs false
set_option linter.unusedVariables false
def Str {α : Type} (f : α → α → Int) (L : List α) : Prop := L.Pairwise fun a b => f a b < 0
theorem Str.ext {α : Type} {f : α → α → Int} (hf : CmpOK f) : ∀ {L M : List α}, Str f L → Str f M → (∀ x, x ∈ L ↔ x ∈ M) → L = M
  | [], [], _, _, _ => rfl
  | [], y :: M, _, _, h => by have := (h y).2 (by simp); cases this
  | x :: L, [], _, _, h => by have := (h x).1 (by simp); cases this
  | x :: L, y :: M, hl, hm, h => by
    obtain ⟨h1, h2⟩ := List.pairwise_cons.1 hl
    obtain ⟨m1, m2⟩ := List.pairwise_cons.1 hm
    have e : x = y := by
      rcases List.mem_cons.1 ((h x).1 (by simp)) with hh | hh
      · exact hh
      · rcases List.mem_cons.1 ((h y).2 (by simp)) with kk | kk
        · exact kk.symm
        · have a := m1 x hh
          have b := h1 y kk
          have := hf.anti x y
          omega
    subst e
    refine congrArg (x :: ·) (Str.ext hf h2 m2 fun z => ⟨fun hz => ?_, fun hz => ?_⟩)
    · rcases List.mem_cons.1 ((h z).1 (by simp [hz])) with rfl | hh
      · have := h1 z hz; rw [hf.refl] at this; omega
      · exact hh
    · rcases List.mem_cons.1 ((h z).2 (by simp [hz])) with rfl | hh
      · have := m1 z hz; rw [hf.refl] at this; omega
      · exact hh
theorem Sol.mono {F G : Nat → At → Prop} (h : ∀ i x, F i x → G i x) {c : Cl} {n : Nat} {r : List Tm} (k : Sol F c n r) : Sol G c n r :=
  ⟨k.len, k.ts, fun i a hi => ⟨h _ _ (k.bd i a hi).1, (k.bd i a hi).2⟩⟩
theorem Sol.congr {F G : Nat → At → Prop} (h : ∀ i x, F i x ↔ G i x) {c : Cl} {n : Nat} {r : List Tm} : Sol F c n r ↔ Sol G c n r :=
  ⟨Sol.mono fun i x => (h i x).1, Sol.mono fun i x => (h i x).2⟩

end Go.Proofs.YtpgpkjbahlmgeaaGreatDoor

set_option maxRecDepth 10000
namespace Go.Proofs.YtpgpkjbahlmgeaaGreatDoor
open Go Go.Hw
set_option linter.unusedSimpArgs false
set_option linter.unusedVariables false
structure Jn where
  a : Nat
  kn : List Nat
  ts : List Nat
def knB (V : List Int) (t : Tm) : Bool := !varB t || decide (t.n ∈ V)
def knownL (V : List Int) (x : At) : List Nat := (List.range (plc x).length).filter fun i => knB V ((plc x).getD i T0)
def btr (V : List Int) (x y : At) : Bool :=
  if (knownL V x).length ≠ (knownL V y).length then decide ((knownL V y).length < (knownL V x).length) else decide (x.args.length + 1 - (knownL V x).length < y.args.length + 1 - (knownL V y).length)
def nxF (c : Cl) (jo : List Nat) (V : List Int) (b : Option Nat) (i : Nat) : Option Nat :=
  if i ∈ jo then b else match b with
    | none => some i
    | some y => if btr V (clA c i) (clA c y) = true then some i else some y
def nextP (c : Cl) (jo : List Nat) (V : List Int) : Option Nat := (List.range c.bd.length).foldl (nxF c jo V) none
def readyB (V : List Int) (t : Ts) : Bool := knB V t.l && knB V t.r
def pick1 (c : Cl) (lead : Option Nat) (jo : List Nat) (V : List Int) : Nat := if jo = [] ∧ lead.isSome = true then lead.getD 0 else (nextP c jo V).getD 0
def testsP (c : Cl) (V : List Int) (A : List Nat) : List Nat := (List.range c.ts.length).filter fun i => readyB V (clT c i) && decide (i ∉ A)
def mkR (c : Cl) (lead : Option Nat) : Nat → List Nat → List Int → List Nat → List Jn
  | 0, _, _, _ => []
  | n + 1, jo, V, A =>
    ⟨pick1 c lead jo V, knownL V (clA c (pick1 c lead jo V)), testsP c (V ++ varsOf (clA c (pick1 c lead jo V))) A⟩ ::
      mkR c lead n (jo ++ [pick1 c lead jo V]) (V ++ varsOf (clA c (pick1 c lead jo V))) (A ++ testsP c (V ++ varsOf (clA c (pick1 c lead jo V))) A)
def aheadP (c : Cl) : List Nat := (List.range c.ts.length).filter fun i => !varB (clT c i).l && !varB (clT c i).r
def makeP (c : Cl) (lead : Option Nat) : List Jn := mkR c lead c.bd.length [] [] (aheadP c)
theorem perm_range {l : List Nat} {n : Nat} (hn : l.Nodup) (hb : ∀ i ∈ l, i < n) (hl : l.length = n) : l.Perm (List.range n) := by
  have h1 : l.Perm ((List.range n).filter fun i => decide (i ∈ l)) := (List.perm_ext_iff_of_nodup hn (List.nodup_range.filter _)).2 fun i => by
    simp only [List.mem_filter, List.mem_range, decide_eq_true_eq]
    exact ⟨fun hi => ⟨hb i hi, hi⟩, fun hi => hi.2⟩
  have h2 : ((List.range n).filter fun i => decide (i ∈ l)) = List.range n := List.filter_sublist.eq_of_length (by rw [← h1.length_eq, hl]; simp)
  rw [h2] at h1
  exact h1
theorem nx_fold (c : Cl) (jo : List Nat) (V : List Int) : ∀ (l : List Nat) (b : Option Nat), (∀ y, b = some y → y ∉ jo) →
    (∀ y, l.foldl (nxF c jo V) b = some y → y ∉ jo ∧ (b = some y ∨ y ∈ l)) ∧ ((∃ i ∈ l, i ∉ jo) ∨ b.isSome = true → (l.foldl (nxF c jo V) b).isSome = true)
  | [], b, hb => ⟨fun y hy => ⟨hb y hy, Or.inl hy⟩, fun h => by
    rcases h with ⟨i, hi, _⟩ | h
    · cases hi
    · exact h⟩
  | i :: l, b, hb => by
    have hb2 : ∀ y, nxF c jo V b i = some y → y ∉ jo ∧ (b = some y ∨ y = i) := fun y hy => by
      unfold nxF at hy
      split at hy
      · exact ⟨hb y hy, Or.inl hy⟩
      · rename_i hi
        cases b with
        | none => simp only [Option.some.injEq] at hy; subst hy; exact ⟨hi, Or.inr rfl⟩
        | some z =>
          simp only at hy
          split at hy
          · simp only [Option.some.injEq] at hy; subst hy; exact ⟨hi, Or.inr rfl⟩
          · exact ⟨hb y hy, Or.inl hy⟩
    obtain ⟨h1, h2⟩ := nx_fold c jo V l (nxF c jo V b i) (fun y hy => (hb2 y hy).1)
    refine ⟨fun y hy => ?_, fun h => ?_⟩
    · obtain ⟨k1, k2⟩ := h1 y hy
      refine ⟨k1, ?_⟩
      rcases k2 with k2 | k2
      · rcases (hb2 y k2).2 with h | rfl
        · exact Or.inl h
        · exact Or.inr (by simp)
      · exact Or.inr (List.mem_cons_of_mem _ k2)
    · refine h2 ?_
      have hs : b.isSome = true → (nxF c jo V b i).isSome = true := fun hh => by
        obtain ⟨z, rfl⟩ := Option.isSome_iff_exists.1 hh
        unfold nxF
        split
        · rfl
        · simp only
          split <;> rfl
      rcases h with ⟨j, hj, hn⟩ | h
      · rcases List.mem_cons.1 hj with rfl | hj
        · right
          by_cases hb0 : b.isSome = true
          · exact hs hb0
          · have : b = none := by simpa using hb0
            subst this
            unfold nxF; rw [if_neg hn]; rfl
        · exact Or.inl ⟨j, hj, hn⟩
      · exact Or.inr (hs h)
theorem next_ok {c : Cl} {jo : List Nat} {V : List Int} (hn : jo.Nodup) (hb : ∀ i ∈ jo, i < c.bd.length) (hl : jo.length < c.bd.length) : ∃ y, nextP c jo V = some y ∧ y ∉ jo ∧ y < c.bd.length := by
  obtain ⟨h1, h2⟩ := nx_fold c jo V (List.range c.bd.length) none (fun y hy => by cases hy)
  have h3 : ∃ i ∈ List.range c.bd.length, i ∉ jo := by
    refine Classical.byContradiction fun h => ?_
    have h4 : ∀ i, i < c.bd.length → i ∈ jo := fun i hi => Classical.byContradiction fun k => h ⟨i, List.mem_range.2 hi, k⟩
    have h5 : jo.Perm (List.range c.bd.length) := (List.perm_ext_iff_of_nodup hn List.nodup_range).2 fun i => ⟨fun hi => List.mem_range.2 (hb i hi), fun hi => h4 i (List.mem_range.1 hi)⟩
    have := h5.length_eq
    rw [List.length_range] at this
    omega
  obtain ⟨y, hy⟩ := Option.isSome_iff_exists.1 (h2 (Or.inl h3))
  obtain ⟨k1, k2⟩ := h1 y hy
  refine ⟨y, hy, k1, ?_⟩
  rcases k2 with h | h
  · cases h
  · exact List.mem_range.1 h
theorem knB_iff {V : List Int} {t : Tm} : knB V t = true ↔ (varB t = true → t.n ∈ V) := by
  unfold knB
  cases varB t <;> simp
theorem ready_iff {V : List Int} {t : Ts} : readyB V t = true ↔ ∀ v ∈ varsT t, v ∈ V := by
  unfold readyB
  rw [Bool.and_eq_true, knB_iff, knB_iff]
  unfold varsT
  constructor
  · rintro ⟨h1, h2⟩ v hv
    obtain ⟨x, hx, rfl⟩ := List.mem_map.1 hv
    obtain ⟨hx1, hx2⟩ := List.mem_filter.1 hx
    simp only [List.mem_cons, List.not_mem_nil, or_false] at hx1
    rcases hx1 with rfl | rfl
    · exact h1 hx2
    · exact h2 hx2
  · intro h
    exact ⟨fun hv => h _ (List.mem_map.2 ⟨t.l, List.mem_filter.2 ⟨by simp, hv⟩, rfl⟩), fun hv => h _ (List.mem_map.2 ⟨t.r, List.mem_filter.2 ⟨by simp, hv⟩, rfl⟩)⟩
theorem mem_aheadP {c : Cl} {i : Nat} : i ∈ aheadP c ↔ i < c.ts.length ∧ varsT (clT c i) = [] := by
  unfold aheadP varsT
  rw [List.mem_filter, List.mem_range]
  refine and_congr_right fun _ => ?_
  cases h1 : varB (clT c i).l <;> cases h2 : varB (clT c i).r <;> simp [h1, h2]
end Go.Proofs.YtpgpkjbahlmgeaaGreatDoor

set_option maxRecDepth 10000
namespace Go.Proofs.YtpgpkjbahlmgeaaGreatDoor
open Go Go.Hw
set_option linter.unusedSimpArgs false
set_option linter.unusedVariables false
end Go.Proofs.YtpgpkjbahlmgeaaGreatDoor

set_option maxRecDepth 10000
namespace Go.Proofs.YtpgpkjbahlmgeaaGreatDoor
open Go Go.Hw
set_option linter.unusedSimpArgs false
set_option linter.unusedVariables false
/-! ### Instances -/
def instT (r : List Tm) (t : Tm) : Tm := if varB t = true ∧ t.n < (r.length : Int) then r.getD t.n.toNat T0 else t
end Go.Proofs.YtpgpkjbahlmgeaaGreatDoor
