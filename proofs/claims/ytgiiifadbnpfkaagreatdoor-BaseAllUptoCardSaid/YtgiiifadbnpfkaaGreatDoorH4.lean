/- Contracts of functions of the program: what each returns and leaves in memory. Printed by gen.py and walk.py. -/
import Derived.Test.YtgiiifadbnpfkaaGreatDoorMg20
set_option maxRecDepth 10000
namespace Go.Proofs.YtgiiifadbnpfkaaGreatDoor
open Go Go.Hw
set_option linter.unusedSimpArgs false
set_option linter.unusedVariables false
theorem last_at {α : Type} {l : List α} {q : α} (h : l[l.length - 1]? = some q) : l.getLast? = some q := by rw [List.getLast?_eq_getElem?]; exact h
theorem last_none {α : Type} {l : List α} (h : l.length = 0) : l.getLast? = none := by rw [List.length_eq_zero_iff.1 h]; rfl

set_option maxHeartbeats 1000000 in
theorem docpreds_calls (d : DG) (k : Nat) (L : List (At × Nat)) (hd : DOK d k L) (hk : k ≤ 100000000000) (w : World) (hA : Holds (docA d) w) :
  Calls Tryz.prog 86 #[ptr d.p] w fun e w' => ∃ z : Option Addr × Nat × List Pd, e = .returned (.slice z.1 z.2.2.length z.2.1) ∧ z.2.2 = prD (L.map (·.1)) ∧ Turns (docA d) (docA d ++ [rowPd z.1 z.2.1 z.2.2]) w w' := by
  refine enterA hA (args := [ptr d.p]) Tryz.func86 rfl Tryz.ntmps86 rfl rfl ?_
  refine Csr (Za rfl (Nn (Csr (Za rfl (Nn (Cs (Csr (Za rfl (Nn (Cb ?_))))))))))
  have hdl := hd.len
  refine WC.know (fun w' hw => (fun hp => row_addrK (hw.it (rowE d.a d.c d.is) (.tail _ (.head _))) hp : 0 < d.is.length → ∃ q, d.a = some ⟨q, 0, none⟩)) (fun hza => ?_)
  refine WC.weak (S' := SatA w (docA d) (rowPd none 0 [] :: boxD d :: rowE d.a d.c d.is :: argsA (d.is.map IG.y))) (fun w' hw => hw.rowNil 43 2) ?_
  refine WC.loop4 (fun (i : Nat) (la : Option Addr) (lc : Nat) (ys : List Pd) => [(0, ptr d.p), (3, .slice la ys.length lc), (4, .int .i64 (i : Int))])
      (fun i la lc ys w' => (i ≤ d.is.length ∧ ys.length ≤ i ∧ ys = prD ((L.map (·.1)).take i) ∧ (0 < ys.length → ∃ q, la = some ⟨q, 0, none⟩)) ∧ SatA w (docA d) (rowPd la lc ys :: boxD d :: rowE d.a d.c d.is :: argsA (d.is.map IG.y)) w')
      (fun i _ _ _ => d.is.length - i) 0 none 0 [] ⟨rfl, rfl, rfl, trivial⟩ (fun w' hw => ⟨⟨by omega, Nat.le_refl _, rfl, fun h => by simp at h⟩, hw⟩) ?_
  intro i la lc ys
  refine WC.pure (fun hi => ?_)
  obtain ⟨hi, hyl, hys, hya⟩ := hi
  refine Cs (Csr (Zm rfl (Zm rfl (Zv (OV.nilCheck rfl) (Zv (OV.fieldAddr0 (off := 0) rfl T.u158 rfl) (Zv (OV.load1 (v := .slice d.a d.is.length d.c) rfl T.u156 rfl (fun _ hw => own_box hw (show boxD d ∈ _ by simp))) (Zv (OV.lenSlice rfl T.u156) (Zv (OV.lss rfl rfl) (Nn ?_)))))))))
  refine Cc rfl (fun c12 => ?_) (fun c12 => ?_)
  · refine Ck (Xn (Cs (Cb (Cs (Hd (fun w' => w'.heap[d.p]? = some (.cells [Value.slice d.a d.is.length d.c].toArray 158 (0, 0)) ∧ (rowE d.a d.c d.is).φ w') [] (fun _ hw => ⟨hw.it (boxD d) (by simp), hw.it (rowE d.a d.c d.is) (by simp)⟩) (m := 22) rfl ?_)))))
    refine Hf 0 rfl (OV.move rfl) (Hf 1 rfl (OV.nilCheck rfl) (Hf 2 rfl (OV.fieldAddr0 (off := 0) rfl T.u158 rfl) (Ht 3 rfl (OV.load1 (v := .slice d.a d.is.length d.c) rfl T.u156 rfl (fun _ hw => (cell_at hw.1 (o := 0) rfl).1)) (Hf 4 rfl (OV.move rfl) ?_))))
    obtain ⟨z, hz⟩ : ∃ z, d.is[i]? = some z := ⟨_, List.getElem?_eq_getElem (by omega)⟩
    have hmz := List.mem_of_getElem? hz
    obtain ⟨qb, hqb⟩ := hza (by omega)
    refine Hf 5 rfl ((OV.indexSlice (show _ = some (Value.slice (some ⟨qb, 0, none⟩) d.is.length d.c) by rw [← hqb]; rfl) rfl T.u156 T.z190 (by omega)).cast (u := .pointer (some ⟨qb, i * 6, none⟩)) (by rw [Int.toNat_natCast, add_off, Nat.zero_add])) (Hf 6 rfl ((OV.fieldAddrA (off := 0) rfl T.u190 rfl).cast (u := .pointer (some ⟨qb, i * 6, none⟩)) (by rw [addr_add0])) (Hf 7 rfl ((OV.fieldAddrA (off := 3) rfl T.u34 rfl).cast (u := .pointer (some ⟨qb, i * 6 + 3, none⟩)) (by rw [add_off])) (Ht 8 rfl (OV.load1 (v := .string z.y.x.name) rfl T.u9 rfl (fun _ hw => by have h := row_cellsφE hqb hw.2 (i * 6 + 3) (.string z.y.x.name) (ig_at hz rfl); rw [add_off, Nat.zero_add] at h; exact h)) (Hf 9 rfl (OV.move rfl) (Hf 10 rfl (OV.nilCheck rfl) (Hf 11 rfl (OV.fieldAddr0 (off := 0) rfl T.u158 rfl) (Ht 12 rfl (OV.load1 (v := .slice d.a d.is.length d.c) rfl T.u156 rfl (fun _ hw => (cell_at hw.1 (o := 0) rfl).1)) (Hf 13 rfl (OV.move rfl) (Hf 14 rfl ((OV.indexSlice (show _ = some (Value.slice (some ⟨qb, 0, none⟩) d.is.length d.c) by rw [← hqb]; rfl) rfl T.u156 T.z190 (by omega)).cast (u := .pointer (some ⟨qb, i * 6, none⟩)) (by rw [Int.toNat_natCast, add_off, Nat.zero_add])) (Hf 15 rfl ((OV.fieldAddrA (off := 0) rfl T.u190 rfl).cast (u := .pointer (some ⟨qb, i * 6, none⟩)) (by rw [addr_add0])) (Hf 16 rfl ((OV.fieldAddrA (off := 4) rfl T.u34 rfl).cast (u := .pointer (some ⟨qb, i * 6 + 4, none⟩)) (by rw [add_off])) (Ht 17 rfl (OV.load1 (v := .slice z.y.a z.y.x.args.length z.y.c) rfl T.u32 rfl (fun _ hw => by have h := row_cellsφE hqb hw.2 (i * 6 + 4) (.slice z.y.a z.y.x.args.length z.y.c) (ig_at hz rfl); rw [add_off, Nat.zero_add] at h; exact h)) (Hf 18 rfl (OV.lenSlice rfl T.u32) (Hf 19 rfl (OV.buildStruct (xs := [(0, .tmp 23), (1, .tmp 33)]) (pl := [(0, 1), (1, 1)]) (cs := pdC (predOf z.y.x)) T.u43 T.zr43 (by kernel_rfl) rfl (fill_cons (us := [_]) rfl rfl (Nat.le_of_ble_eq_true rfl) (fill_cons (us := [_]) rfl rfl (Nat.le_of_ble_eq_true rfl) rfl))) (Ho 20 rfl (fl' := false) rfl ?_)))))))))))))))
    refine WL.alloc T.zr43 rfl ?_
    intro b5
    refine Hc (fun _ => (fun _ hw => ⟨hw.it (boxD d) (by simp), hw.it (rowE d.a d.c d.is) (by simp)⟩)) ?_
    refine Ho 21 rfl (fl' := false) rfl ?_
    refine WL.storeAll (vs := pdC (predOf z.y.x)) rfl rfl rfl T.z43 rfl ?_
    refine Hc (fun _ => (fun _ hw => ⟨hw.it (boxD d) (by simp), hw.it (rowE d.a d.c d.is) (by simp)⟩)) ?_
    refine He (Xn (Cs (Hq [] (m := 13) rfl ?_)))
    refine Hf 0 rfl (OV.move rfl) (Hf 1 rfl (OV.lenSlice rfl T.u40) (Hf 2 rfl (OV.eql rfl rfl) (Hf 3 rfl (OV.move rfl) ?_)))
    refine Hp (t := 38) rfl (fun g38 => ?_) (fun g38 => ?_)
    · refine Hs 4 rfl rfl rfl rfl (Hs 5 rfl rfl rfl rfl (Hs 6 rfl rfl rfl rfl (Hs 7 rfl rfl rfl rfl (Hs 8 rfl rfl rfl rfl (Hs 9 rfl rfl rfl rfl (Hs 10 rfl rfl rfl rfl (Hs 11 rfl rfl rfl rfl (Hf 12 rfl (OV.pickT rfl rfl) (He (Xn (WC.condT rfl ?_)))))))))))
      refine Cr (Zm rfl (Zv (OV.loadN (cs := pdC (predOf z.y.x)) rfl T.u43 rfl T.z43 (fun _ hw j v hj => by rw [add_off, Nat.zero_add]; exact own_cells hw (.head _) j v hj)) (WL.buildSliceA (cs := pdC (predOf z.y.x)) T.u40 T.z43 T.zr43 rfl rfl (by omega) (by omega) rfl ?_)))
      intro b50
      refine WL.focus (ow' := rowPd la lc ys :: own b50 (.cells (pdC (predOf z.y.x)).toArray 43 (0, 0)) :: own b5 (.cells (pdC (predOf z.y.x)).toArray 43 (0, 0)) :: boxD d :: rowE d.a d.c d.is :: argsA (d.is.map IG.y)) (perm_pick [_, _, _] [2, 0, 1] (by decide) rfl) ?_
      refine WL.append (news := pdC (predOf z.y.x)) rfl rfl T.apPd (fun _ _ => own_srcN (.tail _ (.head _)) rfl) (pdC_one' _) ⟨by omega, by unfold maxLen; omega⟩ rfl ?_
      intro a51 c51
      refine Za rfl (Nl (Xb (Xn (Cr (Zm rfl (Zv (OV.addN (j := 1) rfl rfl (by omega)) (Za rfl (Nl ?_))))))))
      have hprd := prD_take (l := L.map (·.1)) (i := i) (x := z.y.x) (by rw [← hd.ls, Fis_fst]; show (xsI d.is)[i]? = some z.y.x; simp [xsI, hz])
      have el : ys.length + 1 = (ys ++ [(predOf z.y.x)]).length := by simp
      have ef : ys.flatMap pdC ++ pdC (predOf z.y.x) = (ys ++ [(predOf z.y.x)]).flatMap pdC := by simp
      rw [el, ef]
      refine WX.know (fun w' hw => (show ∃ b, a51 = some ⟨b, 0, none⟩ from row_addrK (hw.it (rowPd a51 c51 (ys ++ [(predOf z.y.x)])) (.head _)) (by simp))) (fun hq51 => ?_)
      exact WX.round4 (i + 1) a51 c51 (ys ++ [(predOf z.y.x)]) ⟨rfl, rfl, rfl, trivial⟩ (fun w' hw => ⟨⟨by omega, by simp; omega, by
        rw [hprd, ← hys, if_neg (by first | (rw [last_none (by omega)]; simp) | (rw [last_at hq]; intro e; exact c47 (Option.some.inj e)) | (rw [last_at hq]; intro e; rw [Option.some.inj e] at c47; simp at c47))], fun _ => hq51⟩, hw.pick [[rowPd a51 c51 (ys ++ [(predOf z.y.x)])], [own b50 (.cells (pdC (predOf z.y.x)).toArray 43 (0, 0))], [own b5 (.cells (pdC (predOf z.y.x)).toArray 43 (0, 0))], [boxD d, rowE d.a d.c d.is], argsA (d.is.map IG.y)] [0, 3, 4] 5 rfl (by decide) (by decide)⟩) (by show d.is.length - (i + 1) < d.is.length - i; omega)
    refine Hfg 4 rfl rfl rfl rfl (OV.move rfl) (Hfg 5 rfl rfl rfl rfl (OV.move rfl) (Hfg 6 rfl rfl rfl rfl (OV.lenSlice rfl T.u40) (Hfg 7 rfl rfl rfl rfl (OV.subN (j := 1) rfl rfl (wrap_i64 (by omega)) (by omega)) ?_)))
    obtain ⟨q, hq⟩ : ∃ q, ys[ys.length - 1]? = some q := ⟨_, List.getElem?_eq_getElem (by omega)⟩
    obtain ⟨yb, hyb⟩ := hya (by omega)
    refine Hfg 8 rfl rfl rfl rfl ((OV.indexSlice (ix := ((ys.length - 1 : Nat) : Int)) (show _ = some (Value.slice (some ⟨yb, 0, none⟩) ys.length lc) by rw [← hyb]; rfl) rfl T.u40 T.z43 (by omega)).cast (u := .pointer (some ⟨yb, (ys.length - 1) * 2, none⟩)) (by rw [Int.toNat_natCast, add_off, Nat.zero_add])) ?_
    refine Htg 9 rfl rfl rfl rfl (OV.loadN (cs := pdC q) rfl T.u43 rfl T.z43 (fun _ hw j v hj => by have hj2 : j < 2 := (List.getElem?_eq_some_iff.1 hj).1; have h := row_cellsφE hyb (hw.it (rowPd la lc ys) (by simp)) ((ys.length - 1) * 2 + j) v (by rw [flat_get pdC_len' ys (ys.length - 1) j q hq (by omega)]; exact hj); rw [add_off, Nat.zero_add] at h; rw [add_off]; exact h)) ?_
    refine Htg 10 rfl rfl rfl rfl (OV.loadN (cs := pdC (predOf z.y.x)) rfl T.u43 rfl T.z43 (fun _ hw j v hj => by rw [add_off, Nat.zero_add]; exact own_cells hw (.head _) j v hj)) (Hfg 11 rfl rfl rfl rfl (OV.neqPd (a := q) (b := (predOf z.y.x)) rfl rfl) (Hf 12 rfl (OV.pickF rfl rfl) (He (Xn ?_))))
    refine Cc rfl (fun c47 => ?_) (fun c47 => ?_)
    · refine Cr (Zm rfl (Zv (OV.loadN (cs := pdC (predOf z.y.x)) rfl T.u43 rfl T.z43 (fun _ hw j v hj => by rw [add_off, Nat.zero_add]; exact own_cells hw (.head _) j v hj)) (WL.buildSliceA (cs := pdC (predOf z.y.x)) T.u40 T.z43 T.zr43 rfl rfl (by omega) (by omega) rfl ?_)))
      intro b50
      refine WL.focus (ow' := rowPd la lc ys :: own b50 (.cells (pdC (predOf z.y.x)).toArray 43 (0, 0)) :: own b5 (.cells (pdC (predOf z.y.x)).toArray 43 (0, 0)) :: boxD d :: rowE d.a d.c d.is :: argsA (d.is.map IG.y)) (perm_pick [_, _, _] [2, 0, 1] (by decide) rfl) ?_
      refine WL.append (news := pdC (predOf z.y.x)) rfl rfl T.apPd (fun _ _ => own_srcN (.tail _ (.head _)) rfl) (pdC_one' _) ⟨by omega, by unfold maxLen; omega⟩ rfl ?_
      intro a51 c51
      refine Za rfl (Nl (Xb (Xn (Cr (Zm rfl (Zv (OV.addN (j := 1) rfl rfl (by omega)) (Za rfl (Nl ?_))))))))
      have hprd := prD_take (l := L.map (·.1)) (i := i) (x := z.y.x) (by rw [← hd.ls, Fis_fst]; show (xsI d.is)[i]? = some z.y.x; simp [xsI, hz])
      have el : ys.length + 1 = (ys ++ [(predOf z.y.x)]).length := by simp
      have ef : ys.flatMap pdC ++ pdC (predOf z.y.x) = (ys ++ [(predOf z.y.x)]).flatMap pdC := by simp
      rw [el, ef]
      refine WX.know (fun w' hw => (show ∃ b, a51 = some ⟨b, 0, none⟩ from row_addrK (hw.it (rowPd a51 c51 (ys ++ [(predOf z.y.x)])) (.head _)) (by simp))) (fun hq51 => ?_)
      exact WX.round4 (i + 1) a51 c51 (ys ++ [(predOf z.y.x)]) ⟨rfl, rfl, rfl, trivial⟩ (fun w' hw => ⟨⟨by omega, by simp; omega, by
        rw [hprd, ← hys, if_neg (by first | (rw [last_none (by omega)]; simp) | (rw [last_at hq]; intro e; exact c47 (Option.some.inj e)) | (rw [last_at hq]; intro e; rw [Option.some.inj e] at c47; simp at c47))], fun _ => hq51⟩, hw.pick [[rowPd a51 c51 (ys ++ [(predOf z.y.x)])], [own b50 (.cells (pdC (predOf z.y.x)).toArray 43 (0, 0))], [own b5 (.cells (pdC (predOf z.y.x)).toArray 43 (0, 0))], [boxD d, rowE d.a d.c d.is], argsA (d.is.map IG.y)] [0, 3, 4] 5 rfl (by decide) (by decide)⟩) (by show d.is.length - (i + 1) < d.is.length - i; omega)
    refine Ck (Xb (Xn (Cr (Zm rfl (Zv (OV.addN (j := 1) rfl rfl (by omega)) (Za rfl (Nl ?_)))))))
    have hprd := prD_take (l := L.map (·.1)) (i := i) (x := z.y.x) (by rw [← hd.ls, Fis_fst]; show (xsI d.is)[i]? = some z.y.x; simp [xsI, hz])
    exact WX.round4 (i + 1) la lc ys ⟨rfl, rfl, rfl, trivial⟩ (fun w' hw => ⟨⟨by omega, by omega, by rw [hprd, ← hys, if_pos (by rw [last_at hq]; exact congrArg Option.some (by simpa using c47))], hya⟩, hw.drop⟩) (by show d.is.length - (i + 1) < d.is.length - i; omega)
  refine Ce (Xe (Xe (Xh (Xn (Csr (Zm rfl (Za rfl (Nn (WC.ret ?_)))))))))
  have hLl : (L.map (·.1)).length = d.is.length := by rw [← hd.ls, List.length_map, Fis_len]
  rw [List.take_of_length_le (by omega)] at hys
  refine WX.ret1 rfl rfl rfl (fun w' hw => ⟨(la, lc, ys), rfl, hys, ?_⟩)
  exact Hw.Sat.turned ((hw.pick [[rowPd la lc ys], [boxD d, rowE d.a d.c d.is], argsA (d.is.map IG.y)] [1, 2, 0] 3 rfl (by decide) (by decide)).perm (List.Perm.of_eq (by simp [cat, docA])))

set_option maxHeartbeats 1000000 in
theorem docfind_calls (d : DG) (k : Nat) (L : List (At × Nat)) (hd : DOK d k L) (hk : k ≤ 100000000000) (parts : Int) (p : At) (a : Option Addr) (c : Nat) (hp : AtS p) (w : World) (hr : RT w a p.args) (hne : ∀ q, a = some q → 0 < p.args.length → ¬ DD (docA d) q.block) (hA : Holds (docA d) w) :
  Calls Tryz.prog 87 #[ptr d.p, .int .i64 parts, atV p a c] w fun e w' => ∃ z : Option Addr × Nat × List AG, e = .returned (.slice z.1 z.2.2.length z.2.1) ∧ (z.2.2.map AG.x = (selF L parts).filter (matchB p) ∧ z.2.2.length ≤ k) ∧ Turns (docA d) (docA d ++ atsA z.1 z.2.1 z.2.2) w w' := by
  refine enterA hA (args := [ptr d.p, .int .i64 parts, atV p a c]) Tryz.func87 rfl Tryz.ntmps87 rfl rfl ?_
  refine Csr (WL.box rfl rfl rfl ?_)
  intro b5
  refine Za rfl (Nn (Csr (Za rfl (Nn (Csr (Zm rfl (Zm rfl (WL.focus (ow' := docA d ++ [own b5 (.cells (atC p a c).toArray 34 (0, 0))]) (perm_cat [[own b5 (.cells (atC p a c).toArray 34 (0, 0))], docA d] [1, 0] (by decide) rfl) ?_))))))))
  refine WL.callTA (ι := Option Addr × Nat × List AG) (vs := [ptr d.p, .int .i64 parts]) (vv := fun z => .slice z.1 z.2.2.length z.2.1) (pp := fun z => z.2.2.map AG.x = selF L parts ∧ z.2.2.length ≤ k) (docA d) (AA := fun z => docA d ++ atsA z.1 z.2.1 z.2.2) rfl (by kernel_rfl) rfl rfl (fun w' hw' hH => docfacts_calls d k L hd hk parts w' hH) ?_
  rintro ⟨la, lc, ys⟩ ⟨hys, hyl⟩
  have hys : ys.map AG.x = selF L parts := hys
  have hyl : ys.length ≤ k := hyl
  refine Za rfl (Nn (Cs (Csr (Za rfl (Nn (Cb ?_))))))
  refine WC.know (fun w' hw => (fun hp => row_addrK (hw.it (rowAt la lc ys) (by simp [atsA])) hp : 0 < ys.length → ∃ q, la = some ⟨q, 0, none⟩)) (fun hla => ?_)
  refine WC.weak (S' := SatA w (docA d) (rowAt none 0 [] :: rowAt la lc ys :: own b5 (.cells (atC p a c).toArray 34 (0, 0)) :: (docA d ++ argsA ys))) (fun w' hw => (((hw.perm (List.Perm.of_eq (by simp [atsA, cat]))).pick [docA d, [rowAt la lc ys], argsA ys, [own b5 (.cells (atC p a c).toArray 34 (0, 0))]] [1, 3, 0, 2] 4 rfl (by decide) (by decide)).rowNil 34 5).perm (List.Perm.of_eq (by simp [cat, rowAt]))) ?_
  refine WC.loop4 (fun (i : Nat) (fa : Option Addr) (fc : Nat) (zs : List AG) => [(5, .pointer (some ⟨b5, 0, none⟩)), (7, .slice fa zs.length fc), (8, .slice la ys.length lc), (9, .int .i64 (i : Int))])
      (fun i fa fc zs w' => (i ≤ ys.length ∧ zs.length ≤ i ∧ zs = (ys.take i).filter (fun y => matchB p y.x)) ∧ SatA w (docA d) (rowAt fa fc zs :: rowAt la lc ys :: own b5 (.cells (atC p a c).toArray 34 (0, 0)) :: (docA d ++ argsA ys)) w')
      (fun i _ _ _ => ys.length - i) 0 none 0 [] ⟨rfl, rfl, rfl, rfl, trivial⟩ (fun w' hw => ⟨⟨by omega, Nat.le_refl _, rfl⟩, hw⟩) ?_
  intro i fa fc zs
  refine WC.pure (fun hi => ?_)
  obtain ⟨hi, hzl, hzs⟩ := hi
  refine Cs (Csr (Zm rfl (Zm rfl (Zv (OV.lenSlice rfl T.u27) (Zv (OV.lss rfl rfl) (Nn ?_))))))
  refine Cc rfl (fun c18 => ?_) (fun c18 => ?_)
  · refine Ck (Xn (Cs (Cb (Cs (Hq [5] (m := 11) rfl ?_)))))
    refine Ht 0 rfl (OV.loadN (cs := atC p a c) rfl T.u34 rfl T.z34 (fun _ hw j v hj => by rw [add_off, Nat.zero_add]; exact own_cells hw (.tail _ (.tail _ (.head _))) j v hj)) (Hf 1 rfl (OV.move rfl) (Hf 2 rfl (OV.move rfl) ?_))
    obtain ⟨y, hy⟩ : ∃ y, ys[i]? = some y := ⟨_, List.getElem?_eq_getElem (by omega)⟩
    have hym := List.mem_of_getElem? hy
    obtain ⟨qb, hqb⟩ := hla (by omega)
    refine Hf 3 rfl ((OV.indexSlice (show _ = some (Value.slice (some ⟨qb, 0, none⟩) ys.length lc) by rw [← hqb]; rfl) rfl T.u27 T.z34 (by omega)).cast (u := .pointer (some ⟨qb, i * 5, none⟩)) (by rw [Int.toNat_natCast, add_off, Nat.zero_add])) ?_
    refine Ht 4 rfl (OV.loadN (cs := agC y) rfl T.u34 rfl T.z34 (fun _ hw j v hj => by have hj5 : j < 5 := (List.getElem?_eq_some_iff.1 hj).1; have h := row_cellsφE hqb (hw.it (rowAt la lc ys) (by simp)) (i * 5 + j) v (by rw [flat_get agC_len ys i j y hy (by omega)]; exact hj); rw [add_off, Nat.zero_add] at h; rw [add_off]; exact h)) ?_
    refine Ho 5 rfl (fl' := true) rfl ?_
    have hyf : AtS y.x := by
      have h1 : y.x ∈ selF L parts := by rw [← hys]; exact List.mem_map.2 ⟨y, hym, rfl⟩
      obtain ⟨q, hq, he⟩ := List.mem_map.1 h1
      have h2 := (List.mem_filter.1 hq).1
      rw [← hd.ls] at h2
      obtain ⟨z, hz, hze⟩ := List.mem_map.1 h2
      rw [← he, ← hze]
      exact fact_AtS (hd.fct z hz)
    refine WL.callTA (ι := Option Addr × Nat × List Bd) (vs := [atV p a c, agV y, .slice none 0 0]) (vv := fun q => .tuple #[.slice q.1 q.2.2.length q.2.1, .bool (matchB p y.x)]) (pp := fun _ => True) [] (AA := fun q => [rowB q.1 q.2.1 q.2.2]) rfl (by kernel_rfl) rfl rfl (fun w' hw' _ => (rmatch_calls p y.x [] a y.a none c y.c 0 hp hyf ⟨by simp, fun z hz => by cases hz⟩ w' (hr.satA hne hw') (RT.of_row (c := y.c) rfl hw' (by simp only [List.nil_append]; exact List.mem_cons_of_mem _ (List.mem_cons_of_mem _ (List.mem_cons_of_mem _ (List.mem_append_right _ (List.mem_map.2 ⟨y, hym, rfl⟩)))))) (RBd.nil0 _)).mono (fun en w'' ⟨qa, qc, zs, q1, q2⟩ => ⟨(qa, qc, zs), by rw [q1, show sb [] = [] from rfl, matchD_nil], trivial, q2⟩)) ?_
    rintro ⟨ma, mc, mz⟩ _
    refine Hc (fun h => by cases h) ?_
    refine Hf 6 rfl (OV.move rfl) (Hf 7 rfl (OV.extract rfl rfl) (Hf 8 rfl (OV.extract rfl rfl) (Hf 9 rfl (OV.assign rfl) (Hf 10 rfl (OV.assign rfl) (He (Xn (Csr (Zm rfl (Nn ?_)))))))))
    refine Cc rfl (fun c30 => ?_) (fun c30 => ?_)
    · refine Cr (Zm rfl (Zm rfl (Zm rfl (Zv ((OV.indexSlice (show _ = some (Value.slice (some ⟨qb, 0, none⟩) ys.length lc) by rw [← hqb]; rfl) rfl T.u27 T.z34 (by omega)).cast (u := .pointer (some ⟨qb, i * 5, none⟩)) (by rw [Int.toNat_natCast, add_off, Nat.zero_add])) ?_))))
      refine WL.val (OV.loadN (cs := agC y) rfl T.u34 rfl T.z34 (fun _ hw j v hj => by have hj5 : j < 5 := (List.getElem?_eq_some_iff.1 hj).1; have h := row_cellsφE hqb (hw.it (rowAt la lc ys) (by simp)) (i * 5 + j) v (by rw [flat_get agC_len ys i j y hy (by omega)]; exact hj); rw [add_off, Nat.zero_add] at h; rw [add_off]; exact h)) rfl ?_
      refine WL.buildSliceA (cs := agC y) T.u27 T.z34 T.zr34 rfl rfl (by omega) (by omega) rfl ?_
      intro b36
      refine WL.focus (ow' := rowAt fa fc zs :: own b36 (.cells (agC y).toArray 34 (0, 0)) :: rowB ma mc mz :: rowAt la lc ys :: own b5 (.cells (atC p a c).toArray 34 (0, 0)) :: (docA d ++ argsA ys)) (perm_pick [_, _, _] [2, 0, 1] (by decide) rfl) ?_
      refine WL.append (news := agC y) rfl rfl T.apA (fun _ _ => own_srcN (.tail _ (.head _)) rfl) (agC_one _) ⟨by omega, by unfold maxLen; omega⟩ rfl ?_
      intro a37 c37
      refine Za rfl (Nl (Xb (Xn (Cr (Zm rfl (Zv (OV.addN (j := 1) rfl rfl (by omega)) (Za rfl (Nl ?_))))))))
      have el : zs.length + 1 = (zs ++ [y]).length := by simp
      have ef : zs.flatMap agC ++ agC y = (zs ++ [y]).flatMap agC := by simp
      exact WX.round4 (i + 1) a37 c37 (zs ++ [y]) ⟨rfl, by rw [← el]; rfl, rfl, rfl, trivial⟩ (fun w' hw => ⟨⟨by omega, by simp; omega, by
        rw [List.take_add_one, hy, List.filter_append, ← hzs]
        show _ = zs ++ List.filter _ [y]
        simp [c30]⟩, by
        rw [el, ef] at hw
        exact (hw.pick [[rowAt a37 c37 (zs ++ [y])], [own b36 (.cells (agC y).toArray 34 (0, 0))], [rowB ma mc mz], [rowAt la lc ys, own b5 (.cells (atC p a c).toArray 34 (0, 0))], (docA d ++ argsA ys)] [0, 3, 4] 5 rfl (by decide) (by decide)).perm (List.Perm.of_eq (by simp [cat]))⟩) (by show ys.length - (i + 1) < ys.length - i; omega)
    refine Ck (Xb (Xn (Cr (Zm rfl (Zv (OV.addN (j := 1) rfl rfl (by omega)) (Za rfl (Nl ?_)))))))
    exact WX.round4 (i + 1) fa fc zs ⟨rfl, rfl, rfl, rfl, trivial⟩ (fun w' hw => ⟨⟨by omega, by omega, by
      rw [List.take_add_one, hy, List.filter_append, ← hzs]
      show _ = zs ++ List.filter _ [y]
      simp [c30]⟩, hw.drop⟩) (by show ys.length - (i + 1) < ys.length - i; omega)
  refine Ce (Xe (Xe (Xh (Xn (Csr (Zm rfl (Za rfl (Nn (WC.ret ?_)))))))))
  rw [List.take_of_length_le (by omega)] at hzs
  have hzx : zs.map AG.x = (selF L parts).filter (matchB p) := by
    rw [hzs, ← hys, List.filter_map]; rfl
  refine WX.ret1 rfl rfl rfl (fun w' hw => ⟨(fa, fc, zs), rfl, ⟨hzx, by show zs.length ≤ k; omega⟩, ?_⟩)
  have h2 := hw.pick [[rowAt fa fc zs], [rowAt la lc ys], [own b5 (.cells (atC p a c).toArray 34 (0, 0))], docA d ++ argsA ys] [0, 3] 4 rfl (by decide) (by decide)
  have h3 : Sat w (DD (docA d)) (fun b => b < w.heap.size ∧ ¬ DD (docA d) b) w (rowAt fa fc zs :: (docA d ++ argsA zs)) w' := by
    refine Hw.Sat.part ?_ (h2.perm (ow' := rowAt fa fc zs :: (docA d ++ argsA ys)) (List.Perm.of_eq (by simp [cat])))
    refine List.Sublist.cons_cons _ (List.Sublist.append (List.Sublist.refl _) (List.Sublist.map _ ?_))
    rw [hzs]; exact List.filter_sublist
  exact Hw.Sat.turned ((h3.perm (List.Perm.of_eq (by simp [cat]))).pick [[rowAt fa fc zs], docA d, argsA zs] [1, 0, 2] 3 rfl (by decide) (by decide) |>.perm (List.Perm.of_eq (by simp [cat, atsA])))

end Go.Proofs.YtgiiifadbnpfkaaGreatDoor
