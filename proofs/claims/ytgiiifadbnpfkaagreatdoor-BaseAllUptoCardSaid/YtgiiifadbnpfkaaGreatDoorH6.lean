/- Contracts of functions of the program: what each returns and leaves in memory. Printed by gen.py and walk.py. -/
import Derived.Test.YtgiiifadbnpfkaaGreatDoorH5
set_option maxRecDepth 10000
namespace Go.Proofs.YtgiiifadbnpfkaaGreatDoor
open Go Go.Hw
set_option linter.unusedSimpArgs false
set_option linter.unusedVariables false
set_option maxHeartbeats 2000000 in
theorem plays_calls (os : List OpB) (a : Option Addr) (c : Nat) (fr to : Int) (hO : os.length ≤ 1048576 ∧ ∀ o ∈ os, AtS o.y.x) (w : World) (hN : NoneAt w) (hB : BehindAt w) (hR : ROp w a os) : Calls Tryz.prog 33 #[.slice a os.length c, .int .i64 fr, .int .i64 to] w fun e w' => e = .returned (.bool true) ∧ Fr0 w w' := by
  refine enterS (args := [.slice a os.length c, .int .i64 fr, .int .i64 to]) (fun _ => False) Tryz.func33 rfl Tryz.ntmps33 rfl rfl ?_
  refine Csr (Za rfl (Nn (Csr (WL.callTA (ι := Nat × Nat) (vs := []) (vv := fun z => ptr z.1) (pp := fun _ => True) [] (AA := fun z => baseA ⟨z.1, none, none, 0, [], z.2, []⟩) rfl (by kernel_rfl) rfl rfl (fun w' hw' _ => (bnew_calls w').mono (fun en w'' ⟨p, rb, h1, h2⟩ => ⟨(p, rb), h1, trivial, h2⟩)) ?_))))
  rintro ⟨pg1, rbg1⟩ _
  obtain ⟨g1, eg1⟩ : ∃ g : BaseG, g = ⟨pg1, none, none, 0, [], rbg1, []⟩ := ⟨_, rfl⟩
  have bsg1 : BS g1 0 [] := by rw [eg1]; exact new_bs _ _
  have hpg1 : g1.p = pg1 := by rw [eg1]
  refine Za rfl (Nn (Csr (WL.callTA (ι := Nat × Nat) (vs := []) (vv := fun z => ptr z.1) (pp := fun _ => True) [] (AA := fun z => baseA ⟨z.1, none, none, 0, [], z.2, []⟩) rfl (by kernel_rfl) rfl rfl (fun w' hw' _ => (bnew_calls w').mono (fun en w'' ⟨p, rb, h1, h2⟩ => ⟨(p, rb), h1, trivial, h2⟩)) ?_)))
  rintro ⟨pg2, rbg2⟩ _
  obtain ⟨g2, eg2⟩ : ∃ g : BaseG, g = ⟨pg2, none, none, 0, [], rbg2, []⟩ := ⟨_, rfl⟩
  have bsg2 : BS g2 0 [] := by rw [eg2]; exact new_bs _ _
  have hpg2 : g2.p = pg2 := by rw [eg2]
  refine Za rfl (Nn (Cs (Csr (Zm rfl (Zv ((OV.eqlPN T.u23 rfl rfl).cast (u := .bool false) rfl) (Zm rfl (WL.known (t := 16) (b := false) rfl (by rfl) ?_)))))))
  refine Zg rfl rfl rfl (Zm rfl (Zg rfl rfl rfl (Zv (OV.eqlPN T.u23 rfl rfl) (Zv (OV.pickF rfl rfl) (Nn (WC.condF (show _ = some (Value.bool false) from by rfl) ?_))))))
  refine Ck (Xn (Csr (WL.callTA (ι := Nat) (vs := []) (vv := fun z => ptr z) (pp := fun _ => True) [] (AA := fun z => docA ⟨z, none, 0, []⟩) rfl (by kernel_rfl) rfl rfl (fun w' hw' _ => (docnew_calls w').mono (fun en w'' ⟨p, h1, h2⟩ => ⟨p, h1, trivial, h2⟩)) ?_)))
  rintro pd1 _
  obtain ⟨d1, ed1⟩ : ∃ d : DG, d = ⟨pd1, none, 0, []⟩ := ⟨_, rfl⟩
  have dsd1 : DOK d1 0 [] := by rw [ed1]; exact ⟨rfl, List.Pairwise.nil, (fun i hi => by cases hi), (fun i hi => by cases hi), Nat.le_refl _⟩
  have hpd1 : d1.p = pd1 := by rw [ed1]
  refine Za rfl (Nn (Csr (WL.callTA (ι := Nat) (vs := []) (vv := fun z => ptr z) (pp := fun _ => True) [] (AA := fun z => docA ⟨z, none, 0, []⟩) rfl (by kernel_rfl) rfl rfl (fun w' hw' _ => (docnew_calls w').mono (fun en w'' ⟨p, h1, h2⟩ => ⟨p, h1, trivial, h2⟩)) ?_)))
  rintro pd2 _
  obtain ⟨d2, ed2⟩ : ∃ d : DG, d = ⟨pd2, none, 0, []⟩ := ⟨_, rfl⟩
  have dsd2 : DOK d2 0 [] := by rw [ed2]; exact ⟨rfl, List.Pairwise.nil, (fun i hi => by cases hi), (fun i hi => by cases hi), Nat.le_refl _⟩
  have hpd2 : d2.p = pd2 := by rw [ed2]
  refine Za rfl (Nn (Cs (Csr (Za rfl (Nn (Cb ?_))))))
  refine WC.focus (ow' := (baseA g1 ++ docA d1) ++ (baseA g2 ++ docA d2)) ?_ ?_
  · rw [eg1, eg2, ed1, ed2]
    exact (List.Perm.of_eq (by simp [cat])).trans (perm_cat [docA ⟨pd2, none, 0, []⟩, docA ⟨pd1, none, 0, []⟩, baseA ⟨pg2, none, none, 0, [], rbg2, []⟩, baseA ⟨pg1, none, none, 0, [], rbg1, []⟩] [3, 1, 2, 0] (by decide) rfl)
  refine WC.loop3 (fun (i : Nat) (z1 z2 : DO) => [(0, .slice a os.length c), (1, .int .i64 fr), (2, .int .i64 to), (7, ptr pg1), (8, ptr pg2), (9, ptr pd1), (10, ptr pd2), (11, .int .i64 (i : Int))])
      (fun i z1 z2 w' => (i ≤ os.length ∧ (BS z1.g i z1.F ∧ DOK z1.d i z1.L ∧ z1.F.Perm z1.L ∧ z1.g.p = pg1 ∧ z1.d.p = pd1) ∧ (BS z2.g i z2.F ∧ DOK z2.d i z2.L ∧ z2.F.Perm z2.L ∧ z2.g.p = pg2 ∧ z2.d.p = pd2)) ∧ Sat0 w ((baseA z1.g ++ docA z1.d) ++ (baseA z2.g ++ docA z2.d)) w')
      (fun i _ _ => os.length - i) 0 ⟨g1, d1, [], []⟩ ⟨g2, d2, [], []⟩ ⟨rfl, rfl, rfl, rfl, rfl, rfl, rfl, rfl, trivial⟩ (fun w' hw => ⟨⟨by omega, ⟨bsg1, dsd1, .refl _, hpg1, hpd1⟩, ⟨bsg2, dsd2, .refl _, hpg2, hpd2⟩⟩, hw⟩) ?_
  intro i z1 z2
  refine WC.pure (fun hi => ?_)
  obtain ⟨hi, ⟨hbz1, hDz1, hPz1, hgz1, hdz1⟩, ⟨hbz2, hDz2, hPz2, hgz2, hdz2⟩⟩ := hi
  have hol := hO.1
  refine Cs (Csr (Zm rfl (Zm rfl (Zv (OV.lenSlice rfl T.u22) (Zv (OV.lss rfl rfl) (Nn ?_))))))
  refine Cc rfl (fun c25 => ?_) (fun c25 => ?_)
  · refine Ck (Xn (Cs (Cb (Cs (Csr (Zm rfl (Zm rfl ?_)))))))
    obtain ⟨q0, o, hq0, hoi, hom, hra, hrc⟩ := hR.get (i := i) (by omega)
    refine Zv ((OV.indexSlice (show _ = some (Value.slice (some q0) os.length c) by rw [← hq0]; rfl) rfl T.u22 T.z65 (by omega)).cast (u := .pointer (some (q0.add (i * 8)))) (by rw [Int.toNat_natCast])) (Zv ((OV.fieldAddrA (off := 7) rfl T.u65 rfl).cast (u := .pointer (some ((q0.add (i * 8)).add 7))) rfl) (Zv (OV.load1 (v := .bool o.other) rfl T.u4 rfl (fun _ hw => hw.keeps _ _ (hrc 7 _ rfl))) (Zv (OV.not rfl) (Zm rfl ?_))))
    refine Zp (t := 34) rfl (fun g34 => ?_) (fun g34 => ?_)
    · refine Zg rfl rfl rfl (Zm rfl (Zg rfl rfl rfl (Zm rfl (Zg rfl rfl rfl (Zm rfl (Zg rfl rfl rfl (Zm rfl (Zg rfl rfl rfl (Zv ((OV.indexSlice (show _ = some (Value.slice (some q0) os.length c) by rw [← hq0]; rfl) rfl T.u22 T.z65 (by omega)).cast (u := .pointer (some (q0.add (i * 8)))) (by rw [Int.toNat_natCast])) (Zg rfl rfl rfl (Zv (OV.loadN (cs := opB o) rfl T.u65 rfl T.z65 (fun _ hw j v hj => hw.keeps _ _ (hrc j v hj))) (Zg rfl rfl rfl (Zm rfl (Zg rfl rfl rfl (Zm rfl (Zg rfl rfl rfl (WL.callTA (ι := DO) (vs := [ptr z1.g.p, ptr z1.d.p, .agg (opB o).toArray, .int .i64 fr, .int .i64 to]) (vv := fun _ => .bool true) (pp := fun y => BS y.g (i + 1) y.F ∧ DOK y.d (i + 1) y.L ∧ y.F.Perm y.L ∧ y.g.p = z1.g.p ∧ y.d.p = z1.d.p) (baseA z1.g ++ docA z1.d) (AA := fun y => baseA y.g ++ docA y.d) rfl (by kernel_rfl) (by rw [hgz1, hdz1]; rfl) rfl (fun w' hw' hH => does_calls z1.g z1.d i z1.F z1.L hbz1 hDz1 hPz1 (by omega) o fr to (hO.2 o hom) w' (hN.keeps hw'.keeps) (hB.keeps hw'.keeps) (Sat.sepI hw' hN.lt) (Sat.sepI hw' hB.lt) (hra.keeps hw'.keeps) (fun q hq hl => Sat.sepI hw' (hra.lt hq hl)) hH) ?_)))))))))))))))))
      rintro y1 ⟨hby1, hDy1, hPy1, hgy1, hdy1⟩
      have hgy1 : y1.g.p = pg1 := by rw [hgy1, hgz1]
      have hdy1 : y1.d.p = pd1 := by rw [hdy1, hdz1]
      refine Zg rfl rfl rfl (Zv (OV.not rfl) (Zv (OV.pickT rfl rfl) (Nn (WC.condF (show _ = some (Value.bool false) from by rfl) ?_))))
      refine Ck (Xn (Csr (Zm rfl (Zm rfl (Zv ((OV.indexSlice (show _ = some (Value.slice (some q0) os.length c) by rw [← hq0]; rfl) rfl T.u22 T.z65 (by omega)).cast (u := .pointer (some (q0.add (i * 8)))) (by rw [Int.toNat_natCast])) (Zv ((OV.fieldAddrA (off := 7) rfl T.u65 rfl).cast (u := .pointer (some ((q0.add (i * 8)).add 7))) rfl) (Zv (OV.load1 (v := .bool o.other) rfl T.u4 rfl (fun _ hw => hw.keeps _ _ (hrc 7 _ rfl))) (Zm rfl (WL.known (t := 51) (b := false) rfl (by simpa using g34) ?_)))))))))
      refine Zs rfl rfl rfl (Zs rfl rfl rfl (Zs rfl rfl rfl (Zs rfl rfl rfl (Zs rfl rfl rfl (Zs rfl rfl rfl (Zs rfl rfl rfl (Zs rfl rfl rfl (Zs rfl rfl rfl (Zs rfl rfl rfl (Zv (OV.pickF rfl rfl) (Nn (WC.condF (show _ = some (Value.bool false) from by rfl) ?_))))))))))))
      refine Ck (Xb (Xn (Cr (Zm rfl (Zv (OV.addN (j := 1) rfl rfl (by omega)) (Za rfl (Nl ?_)))))))
      exact WX.round3 (i + 1) y1 z2 ⟨rfl, rfl, rfl, rfl, rfl, rfl, rfl, rfl, trivial⟩ (fun w' hw => ⟨⟨by omega, ⟨hby1, hDy1, hPy1, hgy1, hdy1⟩, ⟨hbz2.mono (by omega), hDz2.mono (by omega), hPz2, hgz2, hdz2⟩⟩, hw⟩) (by show os.length - (i + 1) < os.length - i; omega)
    refine Zs rfl rfl rfl (Zs rfl rfl rfl (Zs rfl rfl rfl (Zs rfl rfl rfl (Zs rfl rfl rfl (Zs rfl rfl rfl (Zs rfl rfl rfl (Zs rfl rfl rfl (Zs rfl rfl rfl (Zs rfl rfl rfl (Zv (OV.pickF rfl rfl) (Nn (WC.condF (show _ = some (Value.bool false) from by rfl) ?_))))))))))))
    refine Ck (Xn (Csr (Zm rfl (Zm rfl (Zv ((OV.indexSlice (show _ = some (Value.slice (some q0) os.length c) by rw [← hq0]; rfl) rfl T.u22 T.z65 (by omega)).cast (u := .pointer (some (q0.add (i * 8)))) (by rw [Int.toNat_natCast])) (Zv ((OV.fieldAddrA (off := 7) rfl T.u65 rfl).cast (u := .pointer (some ((q0.add (i * 8)).add 7))) rfl) (Zv (OV.load1 (v := .bool o.other) rfl T.u4 rfl (fun _ hw => hw.keeps _ _ (hrc 7 _ rfl))) (Zm rfl (WL.known (t := 51) (b := true) rfl (by simpa using g34) ?_)))))))))
    refine Zg rfl rfl rfl (Zm rfl (Zg rfl rfl rfl (Zm rfl (Zg rfl rfl rfl (Zm rfl (Zg rfl rfl rfl (Zm rfl (Zg rfl rfl rfl (Zv ((OV.indexSlice (show _ = some (Value.slice (some q0) os.length c) by rw [← hq0]; rfl) rfl T.u22 T.z65 (by omega)).cast (u := .pointer (some (q0.add (i * 8)))) (by rw [Int.toNat_natCast])) (Zg rfl rfl rfl (Zv (OV.loadN (cs := opB o) rfl T.u65 rfl T.z65 (fun _ hw j v hj => hw.keeps _ _ (hrc j v hj))) (Zg rfl rfl rfl (Zm rfl (Zg rfl rfl rfl (Zm rfl (Zg rfl rfl rfl (WL.focus (ow' := (baseA z2.g ++ docA z2.d) ++ (baseA z1.g ++ docA z1.d)) List.perm_append_comm ?_)))))))))))))))))
    refine WL.callTA (ι := DO) (vs := [ptr z2.g.p, ptr z2.d.p, .agg (opB o).toArray, .int .i64 fr, .int .i64 to]) (vv := fun _ => .bool true) (pp := fun y => BS y.g (i + 1) y.F ∧ DOK y.d (i + 1) y.L ∧ y.F.Perm y.L ∧ y.g.p = z2.g.p ∧ y.d.p = z2.d.p) (baseA z2.g ++ docA z2.d) (AA := fun y => baseA y.g ++ docA y.d) rfl (by kernel_rfl) (by rw [hgz2, hdz2]; rfl) rfl (fun w' hw' hH => does_calls z2.g z2.d i z2.F z2.L hbz2 hDz2 hPz2 (by omega) o fr to (hO.2 o hom) w' (hN.keeps hw'.keeps) (hB.keeps hw'.keeps) (Sat.sepI hw' hN.lt) (Sat.sepI hw' hB.lt) (hra.keeps hw'.keeps) (fun q hq hl => Sat.sepI hw' (hra.lt hq hl)) hH) ?_
    rintro y2 ⟨hby2, hDy2, hPy2, hgy2, hdy2⟩
    have hgy2 : y2.g.p = pg2 := by rw [hgy2, hgz2]
    have hdy2 : y2.d.p = pd2 := by rw [hdy2, hdz2]
    refine Zg rfl rfl rfl (Zv (OV.not rfl) (Zv (OV.pickT rfl rfl) (Nn (WC.condF (show _ = some (Value.bool false) from by rfl) ?_))))
    refine Ck (Xb (Xn (Cr (Zm rfl (Zv (OV.addN (j := 1) rfl rfl (by omega)) (Za rfl (Nl ?_)))))))
    exact WX.round3 (i + 1) z1 y2 ⟨rfl, rfl, rfl, rfl, rfl, rfl, rfl, rfl, trivial⟩ (fun w' hw => ⟨⟨by omega, ⟨hbz1.mono (by omega), hDz1.mono (by omega), hPz1, hgz1, hdz1⟩, ⟨hby2, hDy2, hPy2, hgy2, hdy2⟩⟩, hw.perm List.perm_append_comm⟩) (by show os.length - (i + 1) < os.length - i; omega)
  refine Ce (Xe (Xe (Xh (Xn (Csr (WL.call0 (v := .bool true) (vs := []) (by kernel_rfl) rfl rfl (fun w' hw' => first_calls w' (hN.keeps hw'.keeps)) ?_))))))
  refine Za rfl (Nn (WC.ret ?_))
  exact WX.ret1 rfl rfl rfl (fun w' hw => ⟨rfl, hw.fr⟩)

theorem baseAdds_calls (os : List OpB) (a : Option Addr) (c : Nat) (hO : os.length ≤ 1048576 ∧ ∀ o ∈ os, AtS o.y.x) (w : World) (hN : NoneAt w) (hB : BehindAt w) (hR : ROp w a os) : Calls Tryz.prog 8 #[.slice a os.length c] w fun e w' => e = .returned (.bool true) ∧ Fr0 w w' := by
  refine enterS (args := [.slice a os.length c]) (fun _ => False) Tryz.func8 rfl Tryz.ntmps8 rfl rfl ?_
  refine Csr (Za rfl (Nn (Csr (Zm rfl (WL.call0 (v := .bool true) (vs := [.slice a os.length c, .int .i64 1, .int .i64 2]) (by kernel_rfl) rfl rfl (fun w' hw' => plays_calls os a c 1 2 hO w' (hN.keeps hw'.keeps) (hB.keeps hw'.keeps) (hR.keeps hw'.keeps)) ?_)))))
  refine Za rfl (Nn (WC.ret ?_))
  exact WX.ret1 rfl rfl rfl (fun w' hw => ⟨rfl, hw.fr⟩)

theorem baseLooks_calls (os : List OpB) (a : Option Addr) (c : Nat) (hO : os.length ≤ 1048576 ∧ ∀ o ∈ os, AtS o.y.x) (w : World) (hN : NoneAt w) (hB : BehindAt w) (hR : ROp w a os) : Calls Tryz.prog 9 #[.slice a os.length c] w fun e w' => e = .returned (.bool true) ∧ Fr0 w w' := by
  refine enterS (args := [.slice a os.length c]) (fun _ => False) Tryz.func9 rfl Tryz.ntmps9 rfl rfl ?_
  refine Csr (Za rfl (Nn (Csr (Zm rfl (WL.call0 (v := .bool true) (vs := [.slice a os.length c, .int .i64 3, .int .i64 6]) (by kernel_rfl) rfl rfl (fun w' hw' => plays_calls os a c 3 6 hO w' (hN.keeps hw'.keeps) (hB.keeps hw'.keeps) (hR.keeps hw'.keeps)) ?_)))))
  refine Za rfl (Nn (WC.ret ?_))
  exact WX.ret1 rfl rfl rfl (fun w' hw => ⟨rfl, hw.fr⟩)

theorem baseAll_calls (os : List OpB) (a : Option Addr) (c : Nat) (hO : os.length ≤ 1048576 ∧ ∀ o ∈ os, AtS o.y.x) (w : World) (hN : NoneAt w) (hB : BehindAt w) (hR : ROp w a os) : Calls Tryz.prog 10 #[.slice a os.length c] w fun e w' => e = .returned (.bool true) ∧ Fr0 w w' := by
  refine enterS (args := [.slice a os.length c]) (fun _ => False) Tryz.func10 rfl Tryz.ntmps10 rfl rfl ?_
  refine Csr (Za rfl (Nn (Csr (Zm rfl (WL.call0 (v := .bool true) (vs := [.slice a os.length c, .int .i64 1, .int .i64 7]) (by kernel_rfl) rfl rfl (fun w' hw' => plays_calls os a c 1 7 hO w' (hN.keeps hw'.keeps) (hB.keeps hw'.keeps) (hR.keeps hw'.keeps)) ?_)))))
  refine Za rfl (Nn (WC.ret ?_))
  exact WX.ret1 rfl rfl rfl (fun w' hw => ⟨rfl, hw.fr⟩)

end Go.Proofs.YtgiiifadbnpfkaaGreatDoor
