/- Contracts of functions of the program: what each returns and leaves in memory. Printed by gen.py and walk.py. -/
import Derived.Test.YtgiiifadbnpfkaaGreatDoorMg16
import Derived.Test.YtgiiifadbnpfkaaGreatDoorMg15
set_option maxRecDepth 10000
namespace Go.Proofs.YtgiiifadbnpfkaaGreatDoor
open Go Go.Hw
set_option linter.unusedSimpArgs false
set_option linter.unusedVariables false
end Go.Proofs.YtgiiifadbnpfkaaGreatDoor
namespace Go.Hw
open Go Go.RowKit Go.Proofs Go.Shelf
section
variable {P : Program} {ρ : Ren} {w : World} {T : TypeId} {b c : Nat}
/-- slices.pdqsortCmpFunc, on a row of the call's own: structs of k cells; cmp reads, and may lay blocks. -/
theorem pdqK_calls (L : SlLaysF0.n14 P ρ) {α : Type} [Inhabited α] (k : Nat) (hag : (P.underlying (ρ.t 24)).map aggD = some true) (hz : P.sz (ρ.t 24) = some k) (enc : α → List Value) (hk : ∀ x, (enc x).length = k) (h1 : ∀ x, ∀ v ∈ enc x, v.oneCell' = true) (cf : α → α → Int) (hO : Go.Sort.SWO (ltOf cf)) (g : Nat) (hg : bodied P g = true) (b : Nat) (xs : List α) (limit : Nat) (hlim : limit < 4611686018427387904) (w : World)
    (hA : Holds [row T k (some ⟨b, 0, none⟩) xs.length c (xs.flatMap enc)] w) (hcmp : ∀ w', Fr (fun i => i = b) w w' → ∀ x y, Calls P g #[.agg (enc x).toArray, .agg (enc y).toArray] w' fun e w'' => e = .returned (.int .i64 (cf x y)) ∧ Fr0 w' w'') (hsz : xs.length < 4611686018427387904) :
    Calls P (ρ.f 14) #[.slice (some ⟨b, 0, none⟩) xs.length c, .int .i64 0, .int .i64 (xs.length : Int), .int .i64 (limit : Int), .func (.func g) #[] #[]] w fun e w' => e = .returned (.tuple #[]) ∧ ∃ ys : List α, ys.Perm xs ∧ ys.Pairwise (fun x y => ltOf cf y x = false) ∧
      Turns [row T k (some ⟨b, 0, none⟩) xs.length c (xs.flatMap enc)] [row T k (some ⟨b, 0, none⟩) ys.length c (ys.flatMap enc)] w w' := by
  have hφ := hA.φ _ (.head _)
  have hlt : b < w.heap.size := hA.lt _ (.head _) b ⟨_, rfl, rfl⟩
  obtain ⟨d, hu, hd⟩ := Option.map_eq_some_iff.1 hag
  have hflat : Go.Sort.flatK enc k xs.toArray = (xs.flatMap enc).toArray := by
    apply Array.toList_inj.1
    rw [flat_flatK hk]
  have e0 : xs.toArray.size = xs.length := by simp
  have hcon := AnyQ.pdqsortCmpFunc_all (P := P) (ρ := ρ) L k (fun w => by rw [run_isAgg hu, hd]) (fun w => Hw.run_sizeOf hz w) enc cf g #[] hO b 0 c xs.toArray w (fun args w => enters_bodied hg args w)
    (fun m os dk hs x y => (hcmp _ (sort_frK (F := Go.Sort.flatK enc k dk) (n := m) (os := os)) x y).mono fun e w' ⟨he, hw⟩ => ⟨he, Fr.grown hw⟩)
    ⟨hk, h1, (show Go.Sort.Holds id w b 0 (Go.Sort.flatK enc k xs.toArray) by rw [hflat]; exact row_holdsK hφ), hlt⟩
    (xs.toArray.size + 1) 0 xs.toArray.size limit xs.toArray w (by omega) rfl (SWK.start (show Go.Sort.Holds id w b 0 (Go.Sort.flatK enc k xs.toArray) by rw [hflat]; exact row_holdsK hφ)) (Nat.zero_le _) (Nat.le_refl _) (by simpa using hsz) hlim (Or.inl rfl)
  rw [e0] at hcon
  refine hcon.mono ?_
  rintro e w' ⟨rfl, n, os, rfl⟩
  have hso := Go.Sort.pdq_sorts (ltOf cf) hO xs.toArray 0 xs.length limit true true (Nat.zero_le _) (by simp) (Or.inl rfl)
  obtain ⟨d', hd'⟩ : ∃ d', d' = Go.Sort.pdq (ltOf cf) xs.toArray 0 xs.length limit true true := ⟨_, rfl⟩
  rw [← hd'] at hso
  rw [← hd']
  obtain ⟨hp1, hp2⟩ := permIn_perm (d := xs.toArray) (by rw [e0]; exact hso.1)
  have hl : d'.toList.length = xs.length := by rw [Array.length_toList, hp2, e0]
  refine ⟨rfl, d'.toList, by simpa using hp1, sortedIn_pairwise (by rw [hp2, e0]) hso.2, ?_⟩
  have ht := sort_turnsK (T := T) (c := c) (F := Go.Sort.flatK enc k d') (n := n) (os := os) hA (by rw [Go.Sort.size_flatK, hp2, e0])
  rw [flat_flatK hk] at ht
  rw [hl]
  exact ht
end
end Go.Hw
namespace Go.Proofs.YtgiiifadbnpfkaaGreatDoor
open Go Go.Hw

theorem bitsLen_calls (n : Nat) (hn : n < 4611686018427387904) (w : World) : Calls Tryz.prog 68 #[.int .u64 (n : Int)] w fun e w' => e = .returned (.int .i64 ((Lib.bitLen n : Nat) : Int)) ∧ w' = w := by
  have h := Any.bits_Len (SlLaysF0.n15.bits Go.Proofs.Tryz.bitsLen) (n : Int) w (by omega) (by omega)
  rwa [Int.toNat_natCast] at h
/-- A bind, as it lies. -/
structure Bd where
  v : Int
  t : Tm
instance : Inhabited Bd := ⟨⟨0, T0⟩⟩
def bdC (x : Bd) : List Value := .int .i64 x.v :: tmC x.t
theorem bdC_len (x : Bd) : (bdC x).length = 4 := rfl
theorem bdC_one (x : Bd) : ∀ v ∈ bdC x, v.oneCell' = true := by simp [bdC, tmC, Value.oneCell']
abbrev rowB (a : Option Addr) (c : Nat) (ys : List Bd) : Hw.Item := row 103 4 a ys.length c (ys.flatMap bdC)
def cmpB (x y : Bd) : Int := cmpN x.v y.v
theorem cmpB_swo : Go.Sort.SWO (Go.Proofs.ltOf cmpB) := ⟨fun a => cmpN_ok.swo.irrefl a.v, fun a b c => cmpN_ok.swo.trans a.v b.v c.v, fun a b c => cmpN_ok.swo.ntrans a.v b.v c.v⟩
theorem Fr0.of_eq {w w' : World} (h : w' = w) : Fr0 w w' := by subst h; exact Fr.refl _ _

theorem cmpB_calls (x y : Bd) (w : World) : Calls Tryz.prog 77 #[.agg (bdC x).toArray, .agg (bdC y).toArray] w fun e w' => e = .returned (.int .i64 (cmpB x y)) ∧ Fr0 w w' := by
  refine enterS (args := [.agg (bdC x).toArray, .agg (bdC y).toArray]) (fun _ => False) Tryz.func77 rfl Tryz.ntmps77 rfl rfl ?_
  refine Csr (WL.box rfl rfl rfl ?_)
  intro b2
  refine WL.box rfl rfl rfl ?_
  intro b3
  refine Za rfl (Nn (Csr (Zv (OV.fieldAddr0 (off := 0) rfl T.u103 rfl) (Zv (OV.load1 (v := .int .i64 x.v) rfl T.u3 rfl (fun _ hw => (cell_at (hw.it _ (.tail _ (.head _))) (o := 0) rfl).1)) (Zv (OV.fieldAddr0 (off := 0) rfl T.u103 rfl) (Zv (OV.load1 (v := .int .i64 y.v) rfl T.u3 rfl (fun _ hw => (cell_at (hw.it _ (.head _)) (o := 0) rfl).1)) (WL.call0 (v := .int .i64 (cmpN x.v y.v)) (by kernel_rfl) rfl rfl (fun w' hw' => cmpN_calls _ _ w') ?_)))))))
  refine Za rfl (Nn (WC.ret ?_))
  exact WX.ret1 rfl rfl rfl (fun w' hw => ⟨rfl, hw.fr⟩)

theorem sortB_calls (b : Nat) (c : Nat) (xs : List Bd) (hl : xs.length ≤ 1099511627776) (w : World) (hA : Holds [rowB (some ⟨b, 0, none⟩) c xs] w) : Calls Tryz.prog 76 #[.slice (some ⟨b, 0, none⟩) xs.length c, .func (.func 77) #[] #[]] w fun e w' => e = .returned (.tuple #[]) ∧ ∃ ys : List Bd, ys.Perm xs ∧ Turns [rowB (some ⟨b, 0, none⟩) c xs] [rowB (some ⟨b, 0, none⟩) c ys] w w' := by
  refine enterA hA (args := [.slice (some ⟨b, 0, none⟩) xs.length c, .func (.func 77) #[] #[]]) Tryz.func76 rfl Tryz.ntmps76 rfl rfl ?_
  refine Csr (Zm rfl (Zv (OV.lenSlice rfl T.u48) (Za rfl (Nn (Cr (Zm rfl (Zm rfl (Zm rfl (Zv (OV.convU64 T.u3 T.u125 rfl (by omega)) (WL.call0 (v := .int .i64 ((Lib.bitLen xs.length : Nat) : Int)) (by kernel_rfl) rfl rfl (fun w' hw' => (bitsLen_calls xs.length (by omega) w').mono (fun en w'' ⟨h1, h2⟩ => ⟨h1, Fr0.of_eq h2⟩)) ?_))))))))))
  refine Zm rfl ?_
  have hlim : Lib.bitLen xs.length < 4611686018427387904 := Nat.lt_of_le_of_lt (Lib.bitLen_le xs.length 62 (by omega) (by omega)) (by omega)
  refine WL.callTA (ι := List Bd) (vs := [.slice (some ⟨b, 0, none⟩) xs.length c, .int .i64 0, .int .i64 (xs.length : Int), .int .i64 ((Lib.bitLen xs.length : Nat) : Int), .func (.func 77) #[] #[]]) (vv := fun _ => .tuple #[]) (pp := fun ys => ys.Perm xs) [rowB (some ⟨b, 0, none⟩) c xs] (AA := fun ys => [rowB (some ⟨b, 0, none⟩) c ys]) rfl (by kernel_rfl) rfl rfl (fun w' hw' hH => (pdqK_calls (P := Tryz.prog) Go.Proofs.Tryz.sortB (T := 103) (c := c) 4 (by kernel_rfl) T.z103 bdC bdC_len bdC_one cmpB cmpB_swo 77 (by kernel_rfl) b xs (Lib.bitLen xs.length) hlim w' hH (fun w2 _ x y => cmpB_calls x y w2) (by omega)).mono (fun en w'' ⟨h1, ys, h2, h3, h4⟩ => ⟨ys, h1, h2, h4⟩)) ?_
  rintro ys hys
  refine Nl ?_
  exact WX.ret0 rfl rfl (fun w' hw => ⟨rfl, ys, hys, hw.turned⟩)

end Go.Proofs.YtgiiifadbnpfkaaGreatDoor

set_option maxRecDepth 10000
namespace Go.Proofs.YtgiiifadbnpfkaaGreatDoor
open Go Go.Hw
set_option linter.unusedSimpArgs false
set_option linter.unusedVariables false
end Go.Proofs.YtgiiifadbnpfkaaGreatDoor
namespace Go.Hw
open Go Go.RowKit Go.Proofs
section
variable {P : Program} {w0 ws : World} {M I : Nat → Prop} {ow : List Item} {ops : Array Oper} {Q : Post} {n : Nat} {ds : DS} {e : Env} {rest : List Oper}
/-- make([]T, 0, m): an empty row with room for m. -/
theorem WL.makeRow0 {t lt T : TypeId} {p : String} {af : Array Edge} {k m s : Nat} {x y : Operand} {zs : Array Value} {bytes : Nat}
    (hx : ev e x = some (.int .i64 0)) (hy : ev e y = some (.int .i64 (m : Int))) (hu : P.underlying lt = some (.slice T)) (hz : P.sz T = some s) (hzr : P.zr T = some zs) (hb : (P.info? T).map (·.bytes) = some bytes) (hm : bytes * m ≤ 281474976710656 ∧ m ≤ 9223372036854775807 ∧ m ≤ maxLen) (hk : Nat.blt k n = true)
    (h : ∀ b, WL P ops Q n ds ((k, .slice (some ⟨b, 0, none⟩) 0 m) :: e) (Sat w0 M I ws (row T s (some ⟨b, 0, none⟩) 0 m [] :: ow)) rest) :
    WL P ops Q n ds e (Sat w0 M I ws ow) (⟨some k, .makeSlice lt x y, t, p, af, none⟩ :: rest) := by
  refine WL.runX (ι := Nat) (vv := fun b => .slice (some ⟨b, 0, none⟩) 0 m) (SS := fun b => Sat w0 M I ws (row T s (some ⟨b, 0, none⟩) 0 m [] :: ow)) ?_ hk h
  intro a w ha hw
  unfold Program.sz at hz
  unfold Program.zr at hzr
  obtain ⟨i, hi, hsz⟩ := Option.map_eq_some_iff.1 hz
  obtain ⟨i2, hi2, h2⟩ := Option.bind_eq_some_iff.1 hzr
  obtain ⟨zv, hzv, hzc⟩ := Option.map_eq_some_iff.1 h2
  obtain ⟨i3, hi3, hby⟩ := Option.map_eq_some_iff.1 hb
  obtain rfl := Option.some.inj (hi.symm.trans hi2)
  obtain rfl := Option.some.inj (hi.symm.trans hi3)
  have hr := run_make (P := P) w lt T i zv hu hi hzv .i64 .i64 0 (m : Int) (by omega) (by omega) (by
    have h' : ((bytes * m : Nat) : Int) ≤ ((281474976710656 : Nat) : Int) := Int.ofNat_le.2 hm.1
    rw [Int.natCast_mul] at h'
    rw [hby]
    exact h') (by omega)
  have hrow : (row T s (some ⟨w.heap.size, 0, none⟩) 0 m []).φ (w.alloc (.cells (madeCells zv.cells ((m : Int).toNat * i.size)) T)) := by
    refine ⟨by simp, .inr ⟨w.heap.size, m, madeCells zv.cells ((m : Int).toNat * i.size), rfl, Nat.zero_le _, own_alloc _ _, Nat.zero_le _, hm.2.2, ?_, by simp⟩⟩
    rw [Int.toNat_natCast, hsz]; simp [madeCells]
  refine ⟨w.heap.size, w.alloc (.cells (madeCells zv.cells ((m : Int).toNat * i.size)) T), ?_, hw.fresh (Fr.alloc _ _) hrow (fun b hb => ?_)⟩
  · simp [execOp, ha.eval hx, ha.eval hy, hr]
  · obtain ⟨q, hq, rfl⟩ := hb
    cases hq
    simp
end
end Go.Hw
namespace Go.Proofs.YtgiiifadbnpfkaaGreatDoor
open Go Go.Hw

def kvT (l : List (Int × Tm)) : List (Int × Value) := l.map fun q => (q.1, tmV q.2)
abbrev iV (k : Int) : Value := .int .i64 k
theorem kvT_len (l : List (Int × Tm)) : (kvT l).length = l.length := by simp [kvT]
theorem kvT_get {l : List (Int × Tm)} {i : Nat} {q : Int × Value} (h : (kvT l)[i]? = some q) : ∃ x, l[i]? = some x ∧ x ∈ l ∧ q = (x.1, tmV x.2) ∧ i < l.length := by
  unfold kvT at h
  rw [List.getElem?_map] at h
  obtain ⟨x, hx, rfl⟩ := Option.map_eq_some_iff.1 h
  exact ⟨x, hx, List.mem_of_getElem? hx, rfl, (List.getElem?_eq_some_iff.1 hx).1⟩
theorem Vs.count {α : Type} {rs : List α} {vis : List Nat} (h : Vs rs vis) : vis.length ≤ rs.length := by
  have h2 : vis.Perm ((List.range rs.length).filter fun i => decide (i ∈ vis)) := (List.perm_ext_iff_of_nodup h.nd (List.nodup_range.filter _)).2 fun i => by
    simp only [List.mem_filter, List.mem_range, decide_eq_true_eq]
    exact ⟨fun hi => ⟨h.lt i hi, hi⟩, fun hi => hi.2⟩
  rw [h2.length_eq]
  exact Nat.le_trans (List.length_filter_le _ _) (by simp)
theorem T.apBd : appB Tryz.prog 48 103 4 40 = true := by kernel_rfl

theorem sorted_calls (mb : Nat) (l : List (Int × Tm)) (hl : l.length ≤ 1048576) (w : World) (hM : w.heap[mb]? = some (mapK iV (kvT l))) : Calls Tryz.prog 50 #[.map (some mb)] w fun e w' => ∃ b c ys, e = .returned (.slice (some ⟨b, 0, none⟩) ys.length c) ∧ Turns [] [rowB (some ⟨b, 0, none⟩) c ys] w w' := by
  refine enterS (args := [.map (some mb)]) (fun _ => False) Tryz.func50 rfl Tryz.ntmps50 rfl rfl ?_
  refine Csr (Za rfl (Nn (Csr (Zm rfl ?_))))
  refine WL.val (OV.lenMap T.u101 rfl (fun _ hw => ((hw.snap mb (Array.getElem?_eq_some_iff.1 hM).1).2.trans hM))) rfl ?_
  refine WL.makeRow0 (m := l.length) (bytes := 40) rfl (by rw [kvT_len]; rfl) T.u48 T.z103 T.zr103 (by kernel_rfl) ⟨by omega, by omega, by unfold maxLen; omega⟩ rfl ?_
  intro b8
  refine Za rfl (Nn (Cs (Csr (Zm rfl ?_))))
  refine WL.range T.u101 rfl (fun _ hw => ((hw.snap mb (Array.getElem?_eq_some_iff.1 hM).1).2.trans hM)) rfl ?_
  intro it10
  refine Nn (Cb ?_)
  refine WC.loop4 (fun (vis : List Nat) (la : Option Addr) (lc : Nat) (ys : List Bd) => [(0, .map (some mb)), (3, .slice la ys.length lc), (10, .pointer (some ⟨it10, 0, none⟩))])
      (fun vis la lc ys w' => (Vs l vis ∧ ys.length = vis.length ∧ ((∃ b, la = some ⟨b, 0, none⟩) ∨ 0 < ys.length)) ∧ Sat0 w (own it10 (iterK mb (kvT l).length vis) :: rowB la lc ys :: []) w') (fun vis _ _ _ => unseen (kvT l).length vis) [] (some ⟨b8, 0, none⟩) l.length [] ⟨rfl, rfl, rfl, trivial⟩ (fun w' hw => ⟨⟨Vs.start _, rfl, .inl ⟨_, rfl⟩⟩, hw.perm (List.Perm.of_eq (by first | rfl | (simp; rfl)))⟩) ?_
  intro vis la lc ys
  refine WC.pure (fun hi => ?_)
  obtain ⟨hvs, hyl, hla⟩ := hi
  have hvc0 := hvs.count
  refine Csr ?_
  refine WL.next (enc := iV) (kv := kvT l) rfl rfl (fun _ hw => ((hw.snap mb (Array.getElem?_eq_some_iff.1 hM).1).2.trans hM)) ?_ ?_
  · intro hall
    refine Zv (OV.extract rfl rfl) (Nn (Cs (WC.condF rfl ?_)))
    refine Ce (Xe (Xe (Xh (Xn (Cs ?_)))))
    refine WC.know (fun w' hw => (show ∃ b, la = some ⟨b, 0, none⟩ from by
      rcases hla with h | h
      · exact h
      · exact row_addrK (hw.it (rowB la lc ys) (.tail _ (.head _))) (by omega))) (fun hla2 => ?_)
    obtain ⟨bq, rfl⟩ := hla2
    refine Cr (Zm rfl (WL.focus (ow' := rowB (some ⟨bq, 0, none⟩) lc ys :: own it10 (iterK mb (kvT l).length vis) :: []) perm1 ?_))
    refine WL.callTA (ι := List Bd) (vs := [.slice (some ⟨bq, 0, none⟩) ys.length lc, .func (.func 77) #[] #[]]) (vv := fun _ => .tuple #[]) (pp := fun zs => zs.Perm ys) [rowB (some ⟨bq, 0, none⟩) lc ys] (AA := fun zs => [rowB (some ⟨bq, 0, none⟩) lc zs]) rfl (by kernel_rfl) rfl rfl (fun w' hw' hH => (sortB_calls bq lc ys (by omega) w' hH).mono (fun en w'' ⟨h1, zs, h2, h3⟩ => ⟨zs, h1, h2, h3⟩)) ?_
    rintro zs hzs
    have hzl : zs.length = ys.length := hzs.length_eq
    refine Nn (Csr (Zm rfl (Za rfl (Nn (WC.ret ?_)))))
    refine WX.ret1 rfl rfl (by rw [← hzl]; rfl) (fun w' hw => ⟨bq, lc, zs, rfl, ?_⟩)
    exact (hw.pick [[rowB (some ⟨bq, 0, none⟩) lc zs], [own it10 (iterK mb (kvT l).length vis)]] [0] 2 rfl (by decide) (by decide)).turned0
  intro i q hi2 hv
  obtain ⟨x, hx, hxm, rfl, hil⟩ := kvT_get hi2
  refine Zv (OV.extract rfl rfl) (Nn (Cs (WC.condT rfl ?_)))
  refine Ck (Xn (Cb (Csr ?_)))
  refine WL.val (OV.entry (enc := iV) (kv := kvT l) (i := i) rfl (fun _ hw => hw.it _ (.head _)) (fun _ hw => ((hw.snap mb (Array.getElem?_eq_some_iff.1 hM).1).2.trans hM)) hi2) rfl ?_
  refine Zv (OV.extract rfl rfl) (Zv (OV.extract rfl rfl) (WL.alloc T.zr31 rfl ?_))
  intro b5
  refine Za rfl (WL.storeAll (vs := tmC x.2) rfl rfl rfl T.z31 rfl ?_)
  refine Nn (Cr (Zm rfl (Zm rfl (Zv (OV.loadN (cs := tmC x.2) rfl T.u31 rfl T.z31 (fun _ hw j v hj => by rw [add_off, Nat.zero_add]; exact own_cells hw (.head _) j v hj)) (Zv (OV.buildStruct (xs := [(0, .tmp 17), (1, .tmp 18)]) (pl := [(0, 1), (1, 3)]) (cs := bdC ⟨x.1, x.2⟩) T.u103 T.zr103 (by kernel_rfl) rfl (fill_cons (us := [_]) rfl rfl (Nat.le_of_ble_eq_true rfl) (fill_cons (us := tmC x.2) rfl rfl (Nat.le_of_ble_eq_true rfl) rfl))) (WL.buildSliceA (cs := bdC ⟨x.1, x.2⟩) T.u48 T.z103 T.zr103 rfl rfl (by omega) (by omega) rfl ?_))))))
  intro b20
  have hvc := hvs.count
  refine WL.focus (ow' := rowB la lc ys :: own b20 (.cells (bdC ⟨x.1, x.2⟩).toArray 103 (0, 0)) :: own b5 (.cells (tmC x.2).toArray 31 (0, 0)) :: own it10 (iterK mb (kvT l).length (vis ++ [i])) :: []) (perm_pick [_, _, _, _] [3, 0, 1, 2] (by decide) rfl) ?_
  refine WL.append (news := bdC ⟨x.1, x.2⟩) rfl rfl T.apBd (fun _ _ => own_srcN (.tail _ (.head _)) rfl) (bdC_one _) ⟨by omega, by unfold maxLen; omega⟩ rfl ?_
  intro a21 c21
  refine Za rfl (Nl (Xb ?_))
  have el : ys.length + 1 = (ys ++ [(⟨x.1, x.2⟩ : Bd)]).length := by simp
  have ef : ys.flatMap bdC ++ bdC ⟨x.1, x.2⟩ = (ys ++ [(⟨x.1, x.2⟩ : Bd)]).flatMap bdC := by simp
  exact WX.round4 (vis ++ [i]) a21 c21 (ys ++ [⟨x.1, x.2⟩]) ⟨rfl, by rw [← el]; rfl, rfl, trivial⟩ (fun w' hw => ⟨⟨hvs.step hil hv, by simp [hyl], .inr (by simp)⟩, by
    rw [el, ef] at hw
    exact hw.pick [[rowB a21 c21 (ys ++ [⟨x.1, x.2⟩])], [own b20 (.cells (bdC ⟨x.1, x.2⟩).toArray 103 (0, 0))], [own b5 (.cells (tmC x.2).toArray 31 (0, 0))], [own it10 (iterK mb (kvT l).length (vis ++ [i]))]] [3, 0] 4 rfl (by decide) (by decide)⟩) (unseen_lt (by rw [kvT_len]; exact hil) hv)

end Go.Proofs.YtgiiifadbnpfkaaGreatDoor

set_option maxRecDepth 10000
namespace Go.Proofs.YtgiiifadbnpfkaaGreatDoor
open Go Go.Hw
set_option linter.unusedSimpArgs false
set_option linter.unusedVariables false
def gotT : List (Int × Tm) → Int → Option Tm
  | [], _ => none
  | q :: l, a => if a = q.1 then some q.2 else gotT l a
def upsT : List (Int × Tm) → Int → Tm → List (Int × Tm)
  | [], a, t => [(a, t)]
  | q :: l, a, t => if a = q.1 then (a, t) :: l else q :: upsT l a t
theorem got_kvT (l : List (Int × Tm)) (a : Int) : got (kvT l) a = (gotT l a).map tmV := by
  have key : ∀ (l : List (Int × Tm)) (i : Nat), (spot (kvT l) a i).map (·.2) = (gotT l a).map tmV := by
    intro l
    induction l with
    | nil => intro i; rfl
    | cons q l ih =>
      intro i
      show (if a = q.1 then some (i, tmV q.2) else spot (kvT l) a (i + 1)).map (·.2) = (if a = q.1 then some q.2 else gotT l a).map tmV
      by_cases h : a = q.1
      · rw [if_pos h, if_pos h]; rfl
      · rw [if_neg h, if_neg h]; exact ih (i + 1)
  exact key l 0
theorem ups_kvT (a : Int) (t : Tm) : ∀ l : List (Int × Tm), ups (kvT l) a (tmV t) = kvT (upsT l a t)
  | [] => rfl
  | q :: l => by
    show (if a = q.1 then (a, tmV t) :: kvT l else (q.1, tmV q.2) :: ups (kvT l) a (tmV t)) = kvT (if a = q.1 then (a, t) :: l else q :: upsT l a t)
    by_cases h : a = q.1
    · rw [if_pos h, if_pos h]; rfl
    · rw [if_neg h, if_neg h, ups_kvT a t l]; rfl
theorem upsT_len (a : Int) (t : Tm) : ∀ l : List (Int × Tm), (upsT l a t).length ≤ l.length + 1
  | [] => by simp [upsT]
  | q :: l => by
    have := upsT_len a t l
    unfold upsT
    split <;> simp <;> omega
/-- What makes the pattern's places into the atom's. -/
def matchGo : List (Int × Tm) → List Tm → List Tm → Bool
  | _, [], _ => true
  | _, _ :: _, [] => true
  | m, t :: ts, u :: us => if varB t = false then (if t = u then matchGo m ts us else false) else if (gotT m t.n).isSome ∧ (gotT m t.n).getD T0 ≠ u then false else matchGo (upsT m t.n u) ts us
def plc (x : At) : List Tm := x.b :: x.args
def matchB (p x : At) : Bool := decide (p.name = x.name ∧ p.args.length = x.args.length ∧ ¬ (varB p.b = true ∧ x.b.kind = 0)) && matchGo [] (plc p) (plc x)
theorem go_drop {m : List (Int × Tm)} {ts us : List Tm} {i : Nat} {t u : Tm} (h1 : ts[i]? = some t) (h2 : us[i]? = some u) : matchGo m (ts.drop i) (us.drop i) = if varB t = false then (if t = u then matchGo m (ts.drop (i + 1)) (us.drop (i + 1)) else false) else if (gotT m t.n).isSome ∧ (gotT m t.n).getD T0 ≠ u then false else matchGo (upsT m t.n u) (ts.drop (i + 1)) (us.drop (i + 1)) := by
  rw [drop_cons h1, drop_cons h2]; rfl
theorem intKey : KeyLaw Tryz.prog 3 iV := KeyLaw.int T.u3

theorem places_calls (x : At) (a : Option Addr) (c : Nat) (hl : x.args.length ≤ 1048576) (w : World) (hr : RT w a x.args) : Calls Tryz.prog 49 #[atV x a c] w fun e w' => ∃ b lc, e = .returned (.slice (some ⟨b, 0, none⟩) (plc x).length lc) ∧ Turns [] [rowT (some ⟨b, 0, none⟩) lc (plc x)] w w' := by
  refine enterS (args := [atV x a c]) (fun _ => False) Tryz.func49 rfl Tryz.ntmps49 rfl rfl ?_
  refine Csr (WL.box rfl rfl rfl ?_)
  intro b1
  refine Za rfl (Nn (Csr (Zv (OV.fieldAddr0 (off := 0) rfl T.u34 rfl) (Zv (OV.loadN (cs := tmC x.b) rfl T.u31 rfl T.z31 (fun _ hw j v hj => by rw [add_off]; exact own_part hw (.head _) (o := 0) (cs' := tmC x.b) rfl j v hj)) (WL.buildSliceA (cs := tmC x.b) T.u32 T.z31 T.zr31 rfl rfl (by omega) (by omega) rfl ?_)))))
  intro b5
  refine WL.weak (S' := Sat0 w (row 31 3 (some ⟨b5, 0, none⟩) 1 1 (tmC x.b) :: own b1 (.cells (atC x a c).toArray 34 (0, 0)) :: [])) (fun w' hw => hw.asRow (m := 1) rfl (by decide)) ?_
  refine Zv (OV.fieldAddr0 (off := 4) rfl T.u34 rfl) (Zv (OV.load1 (v := .slice a x.args.length c) rfl T.u32 rfl (fun _ hw => (cell_at (hw.it _ (.tail _ (.head _))) (o := 4) rfl).1)) (WL.append (news := x.args.flatMap tmC) rfl rfl T.apT (fun _ _ => Src.of_rt hr.nil (fun _ hw => hr.keeps hw.keeps)) (tms_one _) ⟨by omega, by unfold maxLen; omega⟩ rfl ?_))
  intro a8 c8
  refine Za rfl (Nn (WC.ret ?_))
  have el : 1 + x.args.length = (plc x).length := by simp [plc]; omega
  have ef : tmC x.b ++ x.args.flatMap tmC = (plc x).flatMap tmC := rfl
  rw [el, ef]
  refine WX.know (fun w' hw => (show ∃ b, a8 = some ⟨b, 0, none⟩ from row_addrK (hw.it (rowT a8 c8 (plc x)) (.head _)) (by simp [plc]))) (fun hq => ?_)
  obtain ⟨bq, rfl⟩ := hq
  exact WX.ret1 rfl rfl rfl (fun w' hw => ⟨bq, c8, rfl, (hw.pick [[rowT (some ⟨bq, 0, none⟩) c8 (plc x)], [own b1 (.cells (atC x a c).toArray 34 (0, 0))]] [0] 2 rfl (by decide) (by decide)).turned0⟩)

end Go.Proofs.YtgiiifadbnpfkaaGreatDoor

set_option maxRecDepth 10000
namespace Go.Proofs.YtgiiifadbnpfkaaGreatDoor
open Go Go.Hw
set_option linter.unusedSimpArgs false
set_option linter.unusedVariables false
theorem match_a1 (p x : At) (a1 a2 : Option Addr) (c1 c2 : Nat) (h1 : p.args.length ≤ 1048575) (h2 : x.args.length ≤ 1048575) (w : World) (hr1 : RT w a1 p.args) (hr2 : RT w a2 x.args) (hn : p.name ≠ x.name) : Calls Tryz.prog 20 #[atV p a1 c1, atV x a2 c2, .slice none 0 0] w fun e w' => ∃ v, e = .returned (.tuple #[v, .bool (matchB p x)]) ∧ Fr0 w w' := by
  refine enterS (args := [atV p a1 c1, atV x a2 c2, .slice none 0 0]) (fun _ => False) Tryz.func20 rfl Tryz.ntmps20 rfl rfl ?_
  refine Csr (WL.box rfl rfl rfl ?_)
  intro b3
  refine WL.box rfl rfl rfl ?_
  intro b4
  refine Za rfl (Za rfl (Nn (Cs (Csr (Zv (OV.fieldAddr0 (off := 3) rfl T.u34 rfl) (Zv (OV.load1 (v := .string p.name) rfl T.u9 rfl (fun _ hw => (cell_at (hw.it _ (.tail _ (.head _))) (o := 3) rfl).1)) (Zv (OV.fieldAddr0 (off := 3) rfl T.u34 rfl) (Zv (OV.load1 (v := .string x.name) rfl T.u9 rfl (fun _ hw => (cell_at (hw.it _ (.head _)) (o := 3) rfl).1)) (Zv ((OV.neqS rfl rfl).cast (u := .bool true) (by simp [hn])) (Zm rfl (WL.known (t := 23) (b := true) rfl (by rfl) ?_)))))))))))
  refine Zs rfl rfl rfl (Zs rfl rfl rfl (Zs rfl rfl rfl (Zs rfl rfl rfl (Zs rfl rfl rfl (Zs rfl rfl rfl (Zs rfl rfl rfl (Zv (OV.pickT rfl rfl) (Zm rfl (Zs rfl rfl rfl (Zs rfl rfl rfl (Zs rfl rfl rfl (Zs rfl rfl rfl (Zu rfl rfl (Zu rfl rfl (Zu rfl rfl (Zu rfl rfl (Zs rfl rfl rfl (Zv (OV.pickT rfl rfl) (Nn (WC.condT (show _ = some (Value.bool true) from by rfl) ?_))))))))))))))))))))
  refine Csr (Za rfl (Za rfl (Nn (WC.ret ?_))))
  refine Xr ?_
  exact WX.ret2 rfl rfl rfl rfl (fun w' hw => ⟨_, by rw [matchB, decide_eq_false (fun h => hn h.1), Bool.false_and], hw.fr⟩)

theorem match_a2 (p x : At) (a1 a2 : Option Addr) (c1 c2 : Nat) (h1 : p.args.length ≤ 1048575) (h2 : x.args.length ≤ 1048575) (w : World) (hr1 : RT w a1 p.args) (hr2 : RT w a2 x.args) (hn : p.name = x.name) (hl : p.args.length ≠ x.args.length) : Calls Tryz.prog 20 #[atV p a1 c1, atV x a2 c2, .slice none 0 0] w fun e w' => ∃ v, e = .returned (.tuple #[v, .bool (matchB p x)]) ∧ Fr0 w w' := by
  refine enterS (args := [atV p a1 c1, atV x a2 c2, .slice none 0 0]) (fun _ => False) Tryz.func20 rfl Tryz.ntmps20 rfl rfl ?_
  refine Csr (WL.box rfl rfl rfl ?_)
  intro b3
  refine WL.box rfl rfl rfl ?_
  intro b4
  refine Za rfl (Za rfl (Nn (Cs (Csr (Zv (OV.fieldAddr0 (off := 3) rfl T.u34 rfl) (Zv (OV.load1 (v := .string p.name) rfl T.u9 rfl (fun _ hw => (cell_at (hw.it _ (.tail _ (.head _))) (o := 3) rfl).1)) (Zv (OV.fieldAddr0 (off := 3) rfl T.u34 rfl) (Zv (OV.load1 (v := .string x.name) rfl T.u9 rfl (fun _ hw => (cell_at (hw.it _ (.head _)) (o := 3) rfl).1)) (Zv ((OV.neqS rfl rfl).cast (u := .bool false) (by simp [hn])) (Zm rfl (WL.known (t := 23) (b := false) rfl (by rfl) ?_)))))))))))
  refine Zg rfl rfl rfl (Zv (OV.fieldAddr0 (off := 4) rfl T.u34 rfl) (Zg rfl rfl rfl (Zv (OV.load1 (v := .slice a1 p.args.length c1) rfl T.u32 rfl (fun _ hw => (cell_at (hw.it _ (.tail _ (.head _))) (o := 4) rfl).1)) (Zg rfl rfl rfl (Zv (OV.lenSlice rfl T.u32) (Zg rfl rfl rfl (Zv (OV.fieldAddr0 (off := 4) rfl T.u34 rfl) (Zg rfl rfl rfl (Zv (OV.load1 (v := .slice a2 x.args.length c2) rfl T.u32 rfl (fun _ hw => (cell_at (hw.it _ (.head _)) (o := 4) rfl).1)) (Zg rfl rfl rfl (Zv (OV.lenSlice rfl T.u32) (Zg rfl rfl rfl (Zv ((OV.neq rfl rfl).cast (u := .bool true) (by rw [decide_eq_false (by omega)]; rfl)) (Zv (OV.pickF rfl rfl) (Zm rfl (WL.known (t := 32) (b := true) rfl (by rfl) ?_))))))))))))))))
  refine Zs rfl rfl rfl (Zs rfl rfl rfl (Zs rfl rfl rfl (Zs rfl rfl rfl (Zu rfl rfl (Zu rfl rfl (Zu rfl rfl (Zu rfl rfl (Zs rfl rfl rfl (Zv (OV.pickT rfl rfl) (Nn (WC.condT (show _ = some (Value.bool true) from by rfl) ?_)))))))))))
  refine Csr (Za rfl (Za rfl (Nn (WC.ret ?_))))
  refine Xr ?_
  exact WX.ret2 rfl rfl rfl rfl (fun w' hw => ⟨_, by rw [matchB, decide_eq_false (fun h => hl h.2.1), Bool.false_and], hw.fr⟩)

theorem match_a3 (p x : At) (a1 a2 : Option Addr) (c1 c2 : Nat) (h1 : p.args.length ≤ 1048575) (h2 : x.args.length ≤ 1048575) (w : World) (hr1 : RT w a1 p.args) (hr2 : RT w a2 x.args) (hn : p.name = x.name) (hl : p.args.length = x.args.length) (hv : varB p.b = true) (hk : x.b.kind = 0) : Calls Tryz.prog 20 #[atV p a1 c1, atV x a2 c2, .slice none 0 0] w fun e w' => ∃ v, e = .returned (.tuple #[v, .bool (matchB p x)]) ∧ Fr0 w w' := by
  refine enterS (args := [atV p a1 c1, atV x a2 c2, .slice none 0 0]) (fun _ => False) Tryz.func20 rfl Tryz.ntmps20 rfl rfl ?_
  refine Csr (WL.box rfl rfl rfl ?_)
  intro b3
  refine WL.box rfl rfl rfl ?_
  intro b4
  refine Za rfl (Za rfl (Nn (Cs (Csr (Zv (OV.fieldAddr0 (off := 3) rfl T.u34 rfl) (Zv (OV.load1 (v := .string p.name) rfl T.u9 rfl (fun _ hw => (cell_at (hw.it _ (.tail _ (.head _))) (o := 3) rfl).1)) (Zv (OV.fieldAddr0 (off := 3) rfl T.u34 rfl) (Zv (OV.load1 (v := .string x.name) rfl T.u9 rfl (fun _ hw => (cell_at (hw.it _ (.head _)) (o := 3) rfl).1)) (Zv ((OV.neqS rfl rfl).cast (u := .bool false) (by simp [hn])) (Zm rfl (WL.known (t := 23) (b := false) rfl (by rfl) ?_)))))))))))
  refine Zg rfl rfl rfl (Zv (OV.fieldAddr0 (off := 4) rfl T.u34 rfl) (Zg rfl rfl rfl (Zv (OV.load1 (v := .slice a1 p.args.length c1) rfl T.u32 rfl (fun _ hw => (cell_at (hw.it _ (.tail _ (.head _))) (o := 4) rfl).1)) (Zg rfl rfl rfl (Zv (OV.lenSlice rfl T.u32) (Zg rfl rfl rfl (Zv (OV.fieldAddr0 (off := 4) rfl T.u34 rfl) (Zg rfl rfl rfl (Zv (OV.load1 (v := .slice a2 x.args.length c2) rfl T.u32 rfl (fun _ hw => (cell_at (hw.it _ (.head _)) (o := 4) rfl).1)) (Zg rfl rfl rfl (Zv (OV.lenSlice rfl T.u32) (Zg rfl rfl rfl (Zv ((OV.neq rfl rfl).cast (u := .bool false) (by rw [decide_eq_true (by omega)]; rfl)) (Zv (OV.pickF rfl rfl) (Zm rfl (WL.known (t := 32) (b := false) rfl (by rfl) ?_))))))))))))))))
  refine Zg rfl rfl rfl (Zv (OV.fieldAddr0 (off := 0) rfl T.u34 rfl) (Zg rfl rfl rfl (Zv (OV.loadN (cs := tmC p.b) rfl T.u31 rfl T.z31 (fun _ hw j v hj => by rw [add_off]; exact own_part hw (.tail _ (.head _)) (o := 0) (cs' := tmC p.b) rfl j v hj)) (Zg rfl rfl rfl (WL.call0 (v := .bool true) (vs := [tmV p.b]) (by kernel_rfl) rfl rfl (fun w' hw' => (var_calls p.b w').mono (fun en w'' ⟨q1, q2⟩ => ⟨by rw [q1, hv], q2⟩)) ?_)))))
  refine Zg rfl rfl rfl (Zm rfl (WL.known (t := 36) (b := true) rfl (by rfl) ?_))
  refine Zg rfl rfl rfl (Zv (OV.fieldAddr0 (off := 0) rfl T.u34 rfl) (Zg rfl rfl rfl (Zv (OV.fieldAddr0 (off := 0) rfl T.u31 rfl) (Zg rfl rfl rfl (Zv (OV.load1 (v := .int .i64 x.b.kind) rfl T.u3 rfl (fun _ hw => (cell_at (hw.it _ (.head _)) (o := 0) rfl).1)) (Zg rfl rfl rfl (Zv ((OV.eql rfl rfl).cast (u := .bool true) (by rw [hk]; rfl)) (Zg rfl rfl rfl (Zv (OV.pickT rfl rfl) (Zv (OV.pickF rfl rfl) (Nn (WC.condT (show _ = some (Value.bool true) from by rfl) ?_))))))))))))
  refine Csr (Za rfl (Za rfl (Nn (WC.ret ?_))))
  refine Xr ?_
  exact WX.ret2 rfl rfl rfl rfl (fun w' hw => ⟨_, by rw [matchB, decide_eq_false (fun h => h.2.2 ⟨hv, hk⟩), Bool.false_and], hw.fr⟩)

set_option maxHeartbeats 2000000 in
theorem match_b (p x : At) (a1 a2 : Option Addr) (c1 c2 : Nat) (h1 : p.args.length ≤ 1048575) (h2 : x.args.length ≤ 1048575) (w : World) (hr1 : RT w a1 p.args) (hr2 : RT w a2 x.args) (hn : p.name = x.name) (hl : p.args.length = x.args.length) (hvk : ¬ (varB p.b = true ∧ x.b.kind = 0)) : Calls Tryz.prog 20 #[atV p a1 c1, atV x a2 c2, .slice none 0 0] w fun e w' => ∃ v, e = .returned (.tuple #[v, .bool (matchB p x)]) ∧ Fr0 w w' := by
  refine enterS (args := [atV p a1 c1, atV x a2 c2, .slice none 0 0]) (fun _ => False) Tryz.func20 rfl Tryz.ntmps20 rfl rfl ?_
  refine Csr (WL.box rfl rfl rfl ?_)
  intro b3
  refine WL.box rfl rfl rfl ?_
  intro b4
  refine Za rfl (Za rfl (Nn (Cs (Csr (Zv (OV.fieldAddr0 (off := 3) rfl T.u34 rfl) (Zv (OV.load1 (v := .string p.name) rfl T.u9 rfl (fun _ hw => (cell_at (hw.it _ (.tail _ (.head _))) (o := 3) rfl).1)) (Zv (OV.fieldAddr0 (off := 3) rfl T.u34 rfl) (Zv (OV.load1 (v := .string x.name) rfl T.u9 rfl (fun _ hw => (cell_at (hw.it _ (.head _)) (o := 3) rfl).1)) (Zv ((OV.neqS rfl rfl).cast (u := .bool false) (by simp [hn])) (Zm rfl (WL.known (t := 23) (b := false) rfl (by rfl) ?_)))))))))))
  refine Zg rfl rfl rfl (Zv (OV.fieldAddr0 (off := 4) rfl T.u34 rfl) (Zg rfl rfl rfl (Zv (OV.load1 (v := .slice a1 p.args.length c1) rfl T.u32 rfl (fun _ hw => (cell_at (hw.it _ (.tail _ (.head _))) (o := 4) rfl).1)) (Zg rfl rfl rfl (Zv (OV.lenSlice rfl T.u32) (Zg rfl rfl rfl (Zv (OV.fieldAddr0 (off := 4) rfl T.u34 rfl) (Zg rfl rfl rfl (Zv (OV.load1 (v := .slice a2 x.args.length c2) rfl T.u32 rfl (fun _ hw => (cell_at (hw.it _ (.head _)) (o := 4) rfl).1)) (Zg rfl rfl rfl (Zv (OV.lenSlice rfl T.u32) (Zg rfl rfl rfl (Zv ((OV.neq rfl rfl).cast (u := .bool false) (by rw [decide_eq_true (by omega)]; rfl)) (Zv (OV.pickF rfl rfl) (Zm rfl (WL.known (t := 32) (b := false) rfl (by rfl) ?_))))))))))))))))
  refine Zg rfl rfl rfl (Zv (OV.fieldAddr0 (off := 0) rfl T.u34 rfl) (Zg rfl rfl rfl (Zv (OV.loadN (cs := tmC p.b) rfl T.u31 rfl T.z31 (fun _ hw j v hj => by rw [add_off]; exact own_part hw (.tail _ (.head _)) (o := 0) (cs' := tmC p.b) rfl j v hj)) (Zg rfl rfl rfl (WL.call0 (v := .bool (varB p.b)) (by kernel_rfl) rfl rfl (fun w' hw' => var_calls p.b w') ?_)))))
  refine Zg rfl rfl rfl (Zm rfl ?_)
  refine Zp (t := 36) rfl (fun g36 => ?_) (fun g36 => ?_)
  · refine Zg rfl rfl rfl (Zv (OV.fieldAddr0 (off := 0) rfl T.u34 rfl) (Zg rfl rfl rfl (Zv (OV.fieldAddr0 (off := 0) rfl T.u31 rfl) (Zg rfl rfl rfl (Zv (OV.load1 (v := .int .i64 x.b.kind) rfl T.u3 rfl (fun _ hw => (cell_at (hw.it _ (.head _)) (o := 0) rfl).1)) (Zg rfl rfl rfl (Zv ((OV.eql rfl rfl).cast (u := .bool false) (by rw [decide_eq_false (fun hk => hvk ⟨by simpa using g36, hk⟩)])) (Zg rfl rfl rfl (Zv (OV.pickT rfl rfl) (Zv (OV.pickF rfl rfl) (Nn (WC.condF (show _ = some (Value.bool false) from by rfl) ?_))))))))))))
    refine Ck (Xn (Csr (WL.makeMap (iV) rfl ?_)))
    intro m43
    refine Za rfl (Nn (Cs (Csr (Zm rfl (Zv (OV.lenSlice rfl T.u48) (Zm rfl (Nn (Cb ?_))))))))
    refine WC.loop1 (fun (i : Nat) => [(3, .pointer (some ⟨b3, 0, none⟩)), (4, .pointer (some ⟨b4, 0, none⟩)), (8, .map (some m43)), (45, .int .i64 0), (46, .int .i64 0)])
        (fun i w' => Sat0 w (own m43 (mapK iV []) :: own b4 (.cells (atC x a2 c2).toArray 34 (0, 0)) :: own b3 (.cells (atC p a1 c1).toArray 34 (0, 0)) :: []) w') (fun _ => 0) 0 ⟨rfl, rfl, rfl, rfl, rfl, trivial⟩ (fun w' hw => hw) ?_
    intro i0
    refine Csr (Zv (OV.lss rfl rfl) (Nn (Cs (WC.condF (show _ = some (Value.bool false) from by rfl) ?_))))
    refine Ce (Xe (Xe (Xh (Xn (Csr (Zv (OV.loadN (cs := atC x a2 c2) rfl T.u34 rfl T.z34 (fun _ hw j v hj => by rw [add_off, Nat.zero_add]; exact own_cells hw (.tail _ (.head _)) j v hj)) (WL.callTA (ι := Nat × Nat) (vs := [atV x a2 c2]) (vv := fun q => .slice (some ⟨q.1, 0, none⟩) (plc x).length q.2) (pp := fun _ => True) [] (AA := fun q => [rowT (some ⟨q.1, 0, none⟩) q.2 (plc x)]) rfl (by kernel_rfl) rfl rfl (fun w' hw' _ => (places_calls x a2 c2 (by omega) w' (hr2.keeps hw'.keeps)).mono (fun en w'' ⟨b, lc, q1, q2⟩ => ⟨(b, lc), q1, trivial, q2⟩)) ?_)))))))
    rintro ⟨qx, xc⟩ _
    refine Za rfl (Nn (Cs (Csr (Zv (OV.loadN (cs := atC p a1 c1) rfl T.u34 rfl T.z34 (fun _ hw j v hj => by rw [add_off, Nat.zero_add]; exact own_cells hw (.tail _ (.tail _ (.tail _ (.head _)))) j v hj)) (WL.callTA (ι := Nat × Nat) (vs := [atV p a1 c1]) (vv := fun q => .slice (some ⟨q.1, 0, none⟩) (plc p).length q.2) (pp := fun _ => True) [] (AA := fun q => [rowT (some ⟨q.1, 0, none⟩) q.2 (plc p)]) rfl (by kernel_rfl) rfl rfl (fun w' hw' _ => (places_calls p a1 c1 (by omega) w' (hr1.keeps hw'.keeps)).mono (fun en w'' ⟨b, lc, q1, q2⟩ => ⟨(b, lc), q1, trivial, q2⟩)) ?_)))))
    rintro ⟨qp, pc⟩ _
    refine Zv (OV.lenSlice rfl T.u32) (Zm rfl (Nn (Cb ?_)))
    have hnp : (plc p).length = p.args.length + 1 := rfl
    have hnx : (plc x).length = x.args.length + 1 := rfl
    refine WC.focus (ow' := own m43 (mapK iV (kvT [])) :: rowT (some ⟨qp, 0, none⟩) pc (plc p) :: rowT (some ⟨qx, 0, none⟩) xc (plc x) :: own b4 (.cells (atC x a2 c2).toArray 34 (0, 0)) :: own b3 (.cells (atC p a1 c1).toArray 34 (0, 0)) :: []) (List.Perm.trans (List.Perm.of_eq rfl) (perm_pick [_, _, _, _, _] [2, 0, 1, 3, 4] (by decide) rfl)) ?_
    refine WC.loop2 (fun (i : Nat) (l : List (Int × Tm)) => [(8, .map (some m43)), (13, .slice (some ⟨qx, 0, none⟩) (plc x).length xc), (68, .slice (some ⟨qp, 0, none⟩) (plc p).length pc), (69, .int .i64 ((plc p).length : Int)), (70, .int .i64 (i : Int))])
        (fun i l w' => (i ≤ (plc p).length ∧ l.length ≤ i ∧ matchGo [] (plc p) (plc x) = matchGo l ((plc p).drop i) ((plc x).drop i)) ∧ Sat0 w (own m43 (mapK iV (kvT l)) :: rowT (some ⟨qp, 0, none⟩) pc (plc p) :: rowT (some ⟨qx, 0, none⟩) xc (plc x) :: own b4 (.cells (atC x a2 c2).toArray 34 (0, 0)) :: own b3 (.cells (atC p a1 c1).toArray 34 (0, 0)) :: []) w')
        (fun i _ => (plc p).length - i) 0 [] ⟨rfl, rfl, rfl, rfl, rfl, trivial⟩ (fun w' hw => ⟨⟨by omega, Nat.le_refl _, rfl⟩, hw⟩) ?_
    intro i l
    refine WC.pure (fun hi => ?_)
    obtain ⟨hi, hll, hgo⟩ := hi
    refine Csr (Zv (OV.lss rfl rfl) (Nn (Cs ?_)))
    refine Cc rfl (fun c71 => ?_) (fun c71 => ?_)
    · refine Ck (Xn (Cs (Cb (Csr (Zm rfl ?_)))))
      obtain ⟨t, htp⟩ : ∃ t, (plc p)[i]? = some t := ⟨_, List.getElem?_eq_getElem (by omega)⟩
      obtain ⟨u, htx⟩ : ∃ u, (plc x)[i]? = some u := ⟨_, List.getElem?_eq_getElem (by omega)⟩
      have hstep := go_drop (m := l) htp htx
      refine Zv ((OV.indexSlice rfl rfl T.u32 T.z31 (by omega)).cast (u := .pointer (some ((⟨qp, 0, none⟩ : Addr).add (i * 3)))) (by rw [Int.toNat_natCast])) ?_
      refine WL.val (OV.loadN (cs := tmC t) rfl T.u31 rfl T.z31 (fun _ hw j v hj => by have hj3 : j < 3 := (List.getElem?_eq_some_iff.1 hj).1; have h := row_cellsφE rfl (hw.it (rowT (some ⟨qp, 0, none⟩) pc (plc p)) (.tail _ (.head _))) (i * 3 + j) v (by rw [flat_get tmC_len _ i j t htp (by omega)]; exact hj); rwa [add_add] at h)) rfl ?_
      refine WL.alloc T.zr31 rfl ?_
      intro b15
      refine Za rfl (WL.storeAll (vs := tmC t) rfl rfl rfl T.z31 rfl ?_)
      refine Nn (Cs (Csr (Zv (OV.loadN (cs := tmC t) rfl T.u31 rfl T.z31 (fun _ hw j v hj => by rw [add_off, Nat.zero_add]; exact own_cells hw (.head _) j v hj)) (WL.call0 (v := .bool (varB t)) (by kernel_rfl) rfl rfl (fun w' hw' => var_calls t w') ?_))))
      refine Zv (OV.not rfl) (Nn ?_)
      refine Cc rfl (fun c77 => ?_) (fun c77 => ?_)
      · refine Cs (Cs (Hd (fun w' => w'.heap[b15]? = some (.cells (tmC t).toArray 31 (0, 0)) ∧ (rowT (some ⟨qx, 0, none⟩) xc (plc x)).φ w') [] (fun _ hw => ⟨hw.it (own b15 (.cells (tmC t).toArray 31 (0, 0))) (by simp), hw.it (rowT (some ⟨qx, 0, none⟩) xc (plc x)) (by simp)⟩) (m := 6) rfl ?_))
        refine Ht 0 rfl (OV.loadN (cs := tmC t) rfl T.u31 rfl T.z31 (fun _ hw j v hj => by rw [add_off]; exact heap_part hw.1 (o := 0) (cs' := tmC t) rfl j v hj)) (Hf 1 rfl (OV.move rfl) (Hf 2 rfl (OV.move rfl) (Hf 3 rfl ((OV.indexSlice rfl rfl T.u32 T.z31 (by omega)).cast (u := .pointer (some ((⟨qx, 0, none⟩ : Addr).add (i * 3)))) (by rw [Int.toNat_natCast])) ?_)))
        refine Ht 4 rfl (OV.loadN (cs := tmC u) rfl T.u31 rfl T.z31 (fun _ hw j v hj => by have hj3 : j < 3 := (List.getElem?_eq_some_iff.1 hj).1; have h := row_cellsφE rfl hw.2 (i * 3 + j) v (by rw [flat_get tmC_len _ i j u htx (by omega)]; exact hj); rwa [add_add] at h)) ?_
        refine Hf 5 rfl (OV.neqTm (a := t) (b := u) rfl rfl) (He (Xn ?_))
        refine Cc rfl (fun c83 => ?_) (fun c83 => ?_)
        · refine Csr (Za rfl (Za rfl (Nn (WC.ret ?_))))
          refine Xr (Xr (Xq (Xr (Xr (Xq (Xr ?_))))))
          have hv : varB t = false := by simpa using c77
          have hu : ¬ t = u := by simpa using c83
          exact WX.ret2 rfl rfl rfl rfl (fun w' hw => ⟨_, by rw [matchB, hgo, hstep, if_pos hv, if_neg hu, Bool.and_false], hw.fr⟩)
        refine Ck (Xn (Ce (Xe (Xh (Xn (Cr (Zv (OV.addN (j := 1) rfl rfl (by omega)) (Zm rfl (Nl ?_)))))))))
        have hv : varB t = false := by simpa using c77
        have hu : t = u := by simpa using c83
        exact WX.round2 (i + 1) l ⟨rfl, rfl, rfl, rfl, rfl, trivial⟩ (fun w' hw => ⟨⟨by omega, by omega, by rw [hgo, hstep, if_pos hv, if_pos hu]⟩, hw.drop⟩) (by show (plc p).length - (i + 1) < (plc p).length - i; omega)
      refine Ck (Xn (Cs (Csr (Zm rfl (Zv (OV.fieldAddr0 (off := 1) rfl T.u31 rfl) (Zv (OV.load1 (v := .int .i64 t.n) rfl T.u3 rfl (fun _ hw => (cell_at (hw.it _ (.head _)) (o := 1) rfl).1)) (Zv ((OV.lookupOk intKey T.u101 (show Program.zv Tryz.prog 31 = some (tmV T0) by kernel_rfl) rfl rfl (fun _ hw => hw.it (own m43 (mapK iV (kvT l))) (by simp))).cast (u := .tuple #[tmV ((gotT l t.n).getD T0), .bool (gotT l t.n).isSome]) (by rw [got_kvT]; cases gotT l t.n <;> rfl)) (Zm rfl (Zv (OV.extract rfl rfl) (Zv (OV.extract rfl rfl) (WL.alloc T.zr31 rfl ?_)))))))))))
      intro b16
      refine WL.storeAll (vs := tmC ((gotT l t.n).getD T0)) rfl rfl rfl T.z31 rfl ?_
      refine Za rfl (Nn (Cs (Hd (fun w' => w'.heap[b16]? = some (.cells (tmC ((gotT l t.n).getD T0)).toArray 31 (0, 0)) ∧ (rowT (some ⟨qx, 0, none⟩) xc (plc x)).φ w') [] (fun _ hw => ⟨hw.it (own b16 (.cells (tmC ((gotT l t.n).getD T0)).toArray 31 (0, 0))) (by simp), hw.it (rowT (some ⟨qx, 0, none⟩) xc (plc x)) (by simp)⟩) (m := 9) rfl ?_)))
      refine Hf 0 rfl (OV.move rfl) (Hf 1 rfl (OV.move rfl) ?_)
      refine Hp (t := 92) rfl (fun g92 => ?_) (fun g92 => ?_)
      · refine Htg 2 rfl rfl rfl rfl (OV.loadN (cs := tmC ((gotT l t.n).getD T0)) rfl T.u31 rfl T.z31 (fun _ hw j v hj => by rw [add_off]; exact heap_part hw.1 (o := 0) (cs' := tmC ((gotT l t.n).getD T0)) rfl j v hj)) (Hfg 3 rfl rfl rfl rfl (OV.move rfl) (Hfg 4 rfl rfl rfl rfl (OV.move rfl) (Hfg 5 rfl rfl rfl rfl ((OV.indexSlice rfl rfl T.u32 T.z31 (by omega)).cast (u := .pointer (some ((⟨qx, 0, none⟩ : Addr).add (i * 3)))) (by rw [Int.toNat_natCast])) ?_)))
        refine Htg 6 rfl rfl rfl rfl (OV.loadN (cs := tmC u) rfl T.u31 rfl T.z31 (fun _ hw j v hj => by have hj3 : j < 3 := (List.getElem?_eq_some_iff.1 hj).1; have h := row_cellsφE rfl hw.2 (i * 3 + j) v (by rw [flat_get tmC_len _ i j u htx (by omega)]; exact hj); rwa [add_add] at h)) ?_
        refine Hfg 7 rfl rfl rfl rfl (OV.neqTm (a := (gotT l t.n).getD T0) (b := u) rfl rfl) (Hf 8 rfl (OV.pickT rfl rfl) (He (Xn ?_)))
        refine Cc rfl (fun c99 => ?_) (fun c99 => ?_)
        · refine Csr (Za rfl (Za rfl (Nn (WC.ret ?_))))
          refine Xr (Xq (Xr (Xr (Xq (Xr ?_)))))
          have hv : ¬ varB t = false := by simpa using c77
          have hsm : (gotT l t.n).isSome = true ∧ (gotT l t.n).getD T0 ≠ u := ⟨by simpa using g92, by simpa using c99⟩
          exact WX.ret2 rfl rfl rfl rfl (fun w' hw => ⟨_, by rw [matchB, hgo, hstep, if_neg hv, if_pos hsm, Bool.and_false], hw.fr⟩)
        refine Ck (Xn (Hd (fun w' => w'.heap[b15]? = some (.cells (tmC t).toArray 31 (0, 0)) ∧ (rowT (some ⟨qx, 0, none⟩) xc (plc x)).φ w') [] (fun _ hw => ⟨hw.it (own b15 (.cells (tmC t).toArray 31 (0, 0))) (by simp), hw.it (rowT (some ⟨qx, 0, none⟩) xc (plc x)) (by simp)⟩) (m := 8) rfl ?_))
        refine Hf 0 rfl (OV.move rfl) (Hf 1 rfl (OV.fieldAddr0 (off := 1) rfl T.u31 rfl) (Ht 2 rfl (OV.load1 (v := .int .i64 t.n) rfl T.u3 rfl (fun _ hw => (cell_at hw.1 (o := 1) rfl).1)) (Hf 3 rfl (OV.move rfl) (Hf 4 rfl (OV.move rfl) (Hf 5 rfl ((OV.indexSlice rfl rfl T.u32 T.z31 (by omega)).cast (u := .pointer (some ((⟨qx, 0, none⟩ : Addr).add (i * 3)))) (by rw [Int.toNat_natCast])) ?_)))))
        refine Ht 6 rfl (OV.loadN (cs := tmC u) rfl T.u31 rfl T.z31 (fun _ hw j v hj => by have hj3 : j < 3 := (List.getElem?_eq_some_iff.1 hj).1; have h := row_cellsφE rfl hw.2 (i * 3 + j) v (by rw [flat_get tmC_len _ i j u htx (by omega)]; exact hj); rwa [add_add] at h)) ?_
        refine Ho 7 rfl (fl' := false) rfl ?_
        refine WL.focus perm2 (WL.mapUpdate intKey T.u101 rfl rfl rfl ?_)
        refine Hc (fun _ => (fun _ hw => ⟨hw.it (own b15 (.cells (tmC t).toArray 31 (0, 0))) (by simp), hw.it (rowT (some ⟨qx, 0, none⟩) xc (plc x)) (by simp)⟩)) ?_
        refine He (Xb (Xn (Cr (Zv (OV.addN (j := 1) rfl rfl (by omega)) (Zm rfl (Nl ?_))))))
        have hv : ¬ varB t = false := by simpa using c77
        have hsm : ¬ ((gotT l t.n).isSome = true ∧ (gotT l t.n).getD T0 ≠ u) := fun h => h.2 (by simpa using c99)
        refine WX.round2 (i + 1) (upsT l t.n u) ⟨rfl, rfl, rfl, rfl, rfl, trivial⟩ (fun w' hw => ⟨⟨by omega, by have := upsT_len t.n u l; omega, by rw [hgo, hstep, if_neg hv, if_neg hsm]⟩, ?_⟩) (by show (plc p).length - (i + 1) < (plc p).length - i; omega)
        rw [ups_kvT] at hw
        exact hw.pick [[own m43 (mapK iV (kvT (upsT l t.n u)))], [own b16 (.cells (tmC ((gotT l t.n).getD T0)).toArray 31 (0, 0))], [own b15 (.cells (tmC t).toArray 31 (0, 0))], [rowT (some ⟨qp, 0, none⟩) pc (plc p)], [rowT (some ⟨qx, 0, none⟩) xc (plc x)], [own b4 (.cells (atC x a2 c2).toArray 34 (0, 0))], [own b3 (.cells (atC p a1 c1).toArray 34 (0, 0))]] [0, 3, 4, 5, 6] 7 rfl (by decide) (by decide)
      refine Hs 2 rfl rfl rfl rfl (Hs 3 rfl rfl rfl rfl (Hs 4 rfl rfl rfl rfl (Hs 5 rfl rfl rfl rfl (Hs 6 rfl rfl rfl rfl (Hs 7 rfl rfl rfl rfl (Hf 8 rfl (OV.pickF rfl rfl) (He (Xn (WC.condF (show _ = some (Value.bool false) from by rfl) ?_)))))))))
      refine Ck (Xn (Hd (fun w' => w'.heap[b15]? = some (.cells (tmC t).toArray 31 (0, 0)) ∧ (rowT (some ⟨qx, 0, none⟩) xc (plc x)).φ w') [] (fun _ hw => ⟨hw.it (own b15 (.cells (tmC t).toArray 31 (0, 0))) (by simp), hw.it (rowT (some ⟨qx, 0, none⟩) xc (plc x)) (by simp)⟩) (m := 8) rfl ?_))
      refine Hf 0 rfl (OV.move rfl) (Hf 1 rfl (OV.fieldAddr0 (off := 1) rfl T.u31 rfl) (Ht 2 rfl (OV.load1 (v := .int .i64 t.n) rfl T.u3 rfl (fun _ hw => (cell_at hw.1 (o := 1) rfl).1)) (Hf 3 rfl (OV.move rfl) (Hf 4 rfl (OV.move rfl) (Hf 5 rfl ((OV.indexSlice rfl rfl T.u32 T.z31 (by omega)).cast (u := .pointer (some ((⟨qx, 0, none⟩ : Addr).add (i * 3)))) (by rw [Int.toNat_natCast])) ?_)))))
      refine Ht 6 rfl (OV.loadN (cs := tmC u) rfl T.u31 rfl T.z31 (fun _ hw j v hj => by have hj3 : j < 3 := (List.getElem?_eq_some_iff.1 hj).1; have h := row_cellsφE rfl hw.2 (i * 3 + j) v (by rw [flat_get tmC_len _ i j u htx (by omega)]; exact hj); rwa [add_add] at h)) ?_
      refine Ho 7 rfl (fl' := false) rfl ?_
      refine WL.focus perm2 (WL.mapUpdate intKey T.u101 rfl rfl rfl ?_)
      refine Hc (fun _ => (fun _ hw => ⟨hw.it (own b15 (.cells (tmC t).toArray 31 (0, 0))) (by simp), hw.it (rowT (some ⟨qx, 0, none⟩) xc (plc x)) (by simp)⟩)) ?_
      refine He (Xb (Xn (Cr (Zv (OV.addN (j := 1) rfl rfl (by omega)) (Zm rfl (Nl ?_))))))
      have hv : ¬ varB t = false := by simpa using c77
      have hsm : ¬ ((gotT l t.n).isSome = true ∧ (gotT l t.n).getD T0 ≠ u) := fun h => by simp [h.1] at g92
      refine WX.round2 (i + 1) (upsT l t.n u) ⟨rfl, rfl, rfl, rfl, rfl, trivial⟩ (fun w' hw => ⟨⟨by omega, by have := upsT_len t.n u l; omega, by rw [hgo, hstep, if_neg hv, if_neg hsm]⟩, ?_⟩) (by show (plc p).length - (i + 1) < (plc p).length - i; omega)
      rw [ups_kvT] at hw
      exact hw.pick [[own m43 (mapK iV (kvT (upsT l t.n u)))], [own b16 (.cells (tmC ((gotT l t.n).getD T0)).toArray 31 (0, 0))], [own b15 (.cells (tmC t).toArray 31 (0, 0))], [rowT (some ⟨qp, 0, none⟩) pc (plc p)], [rowT (some ⟨qx, 0, none⟩) xc (plc x)], [own b4 (.cells (atC x a2 c2).toArray 34 (0, 0))], [own b3 (.cells (atC p a1 c1).toArray 34 (0, 0))]] [0, 3, 4, 5, 6] 7 rfl (by decide) (by decide)
    refine Ce (Xe (Xe (Xh (Xn (Csr (Zm rfl (WL.focus (ow' := [] ++ (own m43 (mapK iV (kvT l)) :: rowT (some ⟨qp, 0, none⟩) pc (plc p) :: rowT (some ⟨qx, 0, none⟩) xc (plc x) :: own b4 (.cells (atC x a2 c2).toArray 34 (0, 0)) :: own b3 (.cells (atC p a1 c1).toArray 34 (0, 0)) :: [])) (List.Perm.refl _) ?_)))))))
    refine WL.callTA (ι := Nat × Nat × List Bd) (vs := [.map (some m43)]) (vv := fun q => .slice (some ⟨q.1, 0, none⟩) q.2.2.length q.2.1) (pp := fun _ => True) [] (AA := fun q => [rowB (some ⟨q.1, 0, none⟩) q.2.1 q.2.2]) rfl (by kernel_rfl) rfl rfl (fun w' hw' _ => (sorted_calls m43 l (by omega) w' (hw'.it (own m43 (mapK iV (kvT l))) (.head _))).mono (fun en w'' ⟨b, c, ys, q1, q2⟩ => ⟨(b, c, ys), q1, trivial, q2⟩)) ?_
    rintro ⟨sb, sc, ys⟩ _
    refine Za rfl (Za rfl (Nn (WC.ret ?_)))
    exact WX.ret2 rfl rfl rfl rfl (fun w' hw => ⟨_, by rw [matchB, hgo, List.drop_eq_nil_of_le (by omega), decide_eq_true ⟨hn, hl, hvk⟩]; rfl, hw.fr⟩)
  refine Zs rfl rfl rfl (Zs rfl rfl rfl (Zs rfl rfl rfl (Zs rfl rfl rfl (Zg rfl rfl rfl (Zv (OV.pickF rfl rfl) (Zv (OV.pickF rfl rfl) (Nn (WC.condF (show _ = some (Value.bool false) from by rfl) ?_))))))))
  refine Ck (Xn (Csr (WL.makeMap (iV) rfl ?_)))
  intro m43
  refine Za rfl (Nn (Cs (Csr (Zm rfl (Zv (OV.lenSlice rfl T.u48) (Zm rfl (Nn (Cb ?_))))))))
  refine WC.loop1 (fun (i : Nat) => [(3, .pointer (some ⟨b3, 0, none⟩)), (4, .pointer (some ⟨b4, 0, none⟩)), (8, .map (some m43)), (45, .int .i64 0), (46, .int .i64 0)])
      (fun i w' => Sat0 w (own m43 (mapK iV []) :: own b4 (.cells (atC x a2 c2).toArray 34 (0, 0)) :: own b3 (.cells (atC p a1 c1).toArray 34 (0, 0)) :: []) w') (fun _ => 0) 0 ⟨rfl, rfl, rfl, rfl, rfl, trivial⟩ (fun w' hw => hw) ?_
  intro i0
  refine Csr (Zv (OV.lss rfl rfl) (Nn (Cs (WC.condF (show _ = some (Value.bool false) from by rfl) ?_))))
  refine Ce (Xe (Xe (Xh (Xn (Csr (Zv (OV.loadN (cs := atC x a2 c2) rfl T.u34 rfl T.z34 (fun _ hw j v hj => by rw [add_off, Nat.zero_add]; exact own_cells hw (.tail _ (.head _)) j v hj)) (WL.callTA (ι := Nat × Nat) (vs := [atV x a2 c2]) (vv := fun q => .slice (some ⟨q.1, 0, none⟩) (plc x).length q.2) (pp := fun _ => True) [] (AA := fun q => [rowT (some ⟨q.1, 0, none⟩) q.2 (plc x)]) rfl (by kernel_rfl) rfl rfl (fun w' hw' _ => (places_calls x a2 c2 (by omega) w' (hr2.keeps hw'.keeps)).mono (fun en w'' ⟨b, lc, q1, q2⟩ => ⟨(b, lc), q1, trivial, q2⟩)) ?_)))))))
  rintro ⟨qx, xc⟩ _
  refine Za rfl (Nn (Cs (Csr (Zv (OV.loadN (cs := atC p a1 c1) rfl T.u34 rfl T.z34 (fun _ hw j v hj => by rw [add_off, Nat.zero_add]; exact own_cells hw (.tail _ (.tail _ (.tail _ (.head _)))) j v hj)) (WL.callTA (ι := Nat × Nat) (vs := [atV p a1 c1]) (vv := fun q => .slice (some ⟨q.1, 0, none⟩) (plc p).length q.2) (pp := fun _ => True) [] (AA := fun q => [rowT (some ⟨q.1, 0, none⟩) q.2 (plc p)]) rfl (by kernel_rfl) rfl rfl (fun w' hw' _ => (places_calls p a1 c1 (by omega) w' (hr1.keeps hw'.keeps)).mono (fun en w'' ⟨b, lc, q1, q2⟩ => ⟨(b, lc), q1, trivial, q2⟩)) ?_)))))
  rintro ⟨qp, pc⟩ _
  refine Zv (OV.lenSlice rfl T.u32) (Zm rfl (Nn (Cb ?_)))
  have hnp : (plc p).length = p.args.length + 1 := rfl
  have hnx : (plc x).length = x.args.length + 1 := rfl
  refine WC.focus (ow' := own m43 (mapK iV (kvT [])) :: rowT (some ⟨qp, 0, none⟩) pc (plc p) :: rowT (some ⟨qx, 0, none⟩) xc (plc x) :: own b4 (.cells (atC x a2 c2).toArray 34 (0, 0)) :: own b3 (.cells (atC p a1 c1).toArray 34 (0, 0)) :: []) (List.Perm.trans (List.Perm.of_eq rfl) (perm_pick [_, _, _, _, _] [2, 0, 1, 3, 4] (by decide) rfl)) ?_
  refine WC.loop2 (fun (i : Nat) (l : List (Int × Tm)) => [(8, .map (some m43)), (13, .slice (some ⟨qx, 0, none⟩) (plc x).length xc), (68, .slice (some ⟨qp, 0, none⟩) (plc p).length pc), (69, .int .i64 ((plc p).length : Int)), (70, .int .i64 (i : Int))])
      (fun i l w' => (i ≤ (plc p).length ∧ l.length ≤ i ∧ matchGo [] (plc p) (plc x) = matchGo l ((plc p).drop i) ((plc x).drop i)) ∧ Sat0 w (own m43 (mapK iV (kvT l)) :: rowT (some ⟨qp, 0, none⟩) pc (plc p) :: rowT (some ⟨qx, 0, none⟩) xc (plc x) :: own b4 (.cells (atC x a2 c2).toArray 34 (0, 0)) :: own b3 (.cells (atC p a1 c1).toArray 34 (0, 0)) :: []) w')
      (fun i _ => (plc p).length - i) 0 [] ⟨rfl, rfl, rfl, rfl, rfl, trivial⟩ (fun w' hw => ⟨⟨by omega, Nat.le_refl _, rfl⟩, hw⟩) ?_
  intro i l
  refine WC.pure (fun hi => ?_)
  obtain ⟨hi, hll, hgo⟩ := hi
  refine Csr (Zv (OV.lss rfl rfl) (Nn (Cs ?_)))
  refine Cc rfl (fun c71 => ?_) (fun c71 => ?_)
  · refine Ck (Xn (Cs (Cb (Csr (Zm rfl ?_)))))
    obtain ⟨t, htp⟩ : ∃ t, (plc p)[i]? = some t := ⟨_, List.getElem?_eq_getElem (by omega)⟩
    obtain ⟨u, htx⟩ : ∃ u, (plc x)[i]? = some u := ⟨_, List.getElem?_eq_getElem (by omega)⟩
    have hstep := go_drop (m := l) htp htx
    refine Zv ((OV.indexSlice rfl rfl T.u32 T.z31 (by omega)).cast (u := .pointer (some ((⟨qp, 0, none⟩ : Addr).add (i * 3)))) (by rw [Int.toNat_natCast])) ?_
    refine WL.val (OV.loadN (cs := tmC t) rfl T.u31 rfl T.z31 (fun _ hw j v hj => by have hj3 : j < 3 := (List.getElem?_eq_some_iff.1 hj).1; have h := row_cellsφE rfl (hw.it (rowT (some ⟨qp, 0, none⟩) pc (plc p)) (.tail _ (.head _))) (i * 3 + j) v (by rw [flat_get tmC_len _ i j t htp (by omega)]; exact hj); rwa [add_add] at h)) rfl ?_
    refine WL.alloc T.zr31 rfl ?_
    intro b15
    refine Za rfl (WL.storeAll (vs := tmC t) rfl rfl rfl T.z31 rfl ?_)
    refine Nn (Cs (Csr (Zv (OV.loadN (cs := tmC t) rfl T.u31 rfl T.z31 (fun _ hw j v hj => by rw [add_off, Nat.zero_add]; exact own_cells hw (.head _) j v hj)) (WL.call0 (v := .bool (varB t)) (by kernel_rfl) rfl rfl (fun w' hw' => var_calls t w') ?_))))
    refine Zv (OV.not rfl) (Nn ?_)
    refine Cc rfl (fun c77 => ?_) (fun c77 => ?_)
    · refine Cs (Cs (Hd (fun w' => w'.heap[b15]? = some (.cells (tmC t).toArray 31 (0, 0)) ∧ (rowT (some ⟨qx, 0, none⟩) xc (plc x)).φ w') [] (fun _ hw => ⟨hw.it (own b15 (.cells (tmC t).toArray 31 (0, 0))) (by simp), hw.it (rowT (some ⟨qx, 0, none⟩) xc (plc x)) (by simp)⟩) (m := 6) rfl ?_))
      refine Ht 0 rfl (OV.loadN (cs := tmC t) rfl T.u31 rfl T.z31 (fun _ hw j v hj => by rw [add_off]; exact heap_part hw.1 (o := 0) (cs' := tmC t) rfl j v hj)) (Hf 1 rfl (OV.move rfl) (Hf 2 rfl (OV.move rfl) (Hf 3 rfl ((OV.indexSlice rfl rfl T.u32 T.z31 (by omega)).cast (u := .pointer (some ((⟨qx, 0, none⟩ : Addr).add (i * 3)))) (by rw [Int.toNat_natCast])) ?_)))
      refine Ht 4 rfl (OV.loadN (cs := tmC u) rfl T.u31 rfl T.z31 (fun _ hw j v hj => by have hj3 : j < 3 := (List.getElem?_eq_some_iff.1 hj).1; have h := row_cellsφE rfl hw.2 (i * 3 + j) v (by rw [flat_get tmC_len _ i j u htx (by omega)]; exact hj); rwa [add_add] at h)) ?_
      refine Hf 5 rfl (OV.neqTm (a := t) (b := u) rfl rfl) (He (Xn ?_))
      refine Cc rfl (fun c83 => ?_) (fun c83 => ?_)
      · refine Csr (Za rfl (Za rfl (Nn (WC.ret ?_))))
        refine Xr (Xr (Xq (Xr (Xr (Xq (Xr ?_))))))
        have hv : varB t = false := by simpa using c77
        have hu : ¬ t = u := by simpa using c83
        exact WX.ret2 rfl rfl rfl rfl (fun w' hw => ⟨_, by rw [matchB, hgo, hstep, if_pos hv, if_neg hu, Bool.and_false], hw.fr⟩)
      refine Ck (Xn (Ce (Xe (Xh (Xn (Cr (Zv (OV.addN (j := 1) rfl rfl (by omega)) (Zm rfl (Nl ?_)))))))))
      have hv : varB t = false := by simpa using c77
      have hu : t = u := by simpa using c83
      exact WX.round2 (i + 1) l ⟨rfl, rfl, rfl, rfl, rfl, trivial⟩ (fun w' hw => ⟨⟨by omega, by omega, by rw [hgo, hstep, if_pos hv, if_pos hu]⟩, hw.drop⟩) (by show (plc p).length - (i + 1) < (plc p).length - i; omega)
    refine Ck (Xn (Cs (Csr (Zm rfl (Zv (OV.fieldAddr0 (off := 1) rfl T.u31 rfl) (Zv (OV.load1 (v := .int .i64 t.n) rfl T.u3 rfl (fun _ hw => (cell_at (hw.it _ (.head _)) (o := 1) rfl).1)) (Zv ((OV.lookupOk intKey T.u101 (show Program.zv Tryz.prog 31 = some (tmV T0) by kernel_rfl) rfl rfl (fun _ hw => hw.it (own m43 (mapK iV (kvT l))) (by simp))).cast (u := .tuple #[tmV ((gotT l t.n).getD T0), .bool (gotT l t.n).isSome]) (by rw [got_kvT]; cases gotT l t.n <;> rfl)) (Zm rfl (Zv (OV.extract rfl rfl) (Zv (OV.extract rfl rfl) (WL.alloc T.zr31 rfl ?_)))))))))))
    intro b16
    refine WL.storeAll (vs := tmC ((gotT l t.n).getD T0)) rfl rfl rfl T.z31 rfl ?_
    refine Za rfl (Nn (Cs (Hd (fun w' => w'.heap[b16]? = some (.cells (tmC ((gotT l t.n).getD T0)).toArray 31 (0, 0)) ∧ (rowT (some ⟨qx, 0, none⟩) xc (plc x)).φ w') [] (fun _ hw => ⟨hw.it (own b16 (.cells (tmC ((gotT l t.n).getD T0)).toArray 31 (0, 0))) (by simp), hw.it (rowT (some ⟨qx, 0, none⟩) xc (plc x)) (by simp)⟩) (m := 9) rfl ?_)))
    refine Hf 0 rfl (OV.move rfl) (Hf 1 rfl (OV.move rfl) ?_)
    refine Hp (t := 92) rfl (fun g92 => ?_) (fun g92 => ?_)
    · refine Htg 2 rfl rfl rfl rfl (OV.loadN (cs := tmC ((gotT l t.n).getD T0)) rfl T.u31 rfl T.z31 (fun _ hw j v hj => by rw [add_off]; exact heap_part hw.1 (o := 0) (cs' := tmC ((gotT l t.n).getD T0)) rfl j v hj)) (Hfg 3 rfl rfl rfl rfl (OV.move rfl) (Hfg 4 rfl rfl rfl rfl (OV.move rfl) (Hfg 5 rfl rfl rfl rfl ((OV.indexSlice rfl rfl T.u32 T.z31 (by omega)).cast (u := .pointer (some ((⟨qx, 0, none⟩ : Addr).add (i * 3)))) (by rw [Int.toNat_natCast])) ?_)))
      refine Htg 6 rfl rfl rfl rfl (OV.loadN (cs := tmC u) rfl T.u31 rfl T.z31 (fun _ hw j v hj => by have hj3 : j < 3 := (List.getElem?_eq_some_iff.1 hj).1; have h := row_cellsφE rfl hw.2 (i * 3 + j) v (by rw [flat_get tmC_len _ i j u htx (by omega)]; exact hj); rwa [add_add] at h)) ?_
      refine Hfg 7 rfl rfl rfl rfl (OV.neqTm (a := (gotT l t.n).getD T0) (b := u) rfl rfl) (Hf 8 rfl (OV.pickT rfl rfl) (He (Xn ?_)))
      refine Cc rfl (fun c99 => ?_) (fun c99 => ?_)
      · refine Csr (Za rfl (Za rfl (Nn (WC.ret ?_))))
        refine Xr (Xq (Xr (Xr (Xq (Xr ?_)))))
        have hv : ¬ varB t = false := by simpa using c77
        have hsm : (gotT l t.n).isSome = true ∧ (gotT l t.n).getD T0 ≠ u := ⟨by simpa using g92, by simpa using c99⟩
        exact WX.ret2 rfl rfl rfl rfl (fun w' hw => ⟨_, by rw [matchB, hgo, hstep, if_neg hv, if_pos hsm, Bool.and_false], hw.fr⟩)
      refine Ck (Xn (Hd (fun w' => w'.heap[b15]? = some (.cells (tmC t).toArray 31 (0, 0)) ∧ (rowT (some ⟨qx, 0, none⟩) xc (plc x)).φ w') [] (fun _ hw => ⟨hw.it (own b15 (.cells (tmC t).toArray 31 (0, 0))) (by simp), hw.it (rowT (some ⟨qx, 0, none⟩) xc (plc x)) (by simp)⟩) (m := 8) rfl ?_))
      refine Hf 0 rfl (OV.move rfl) (Hf 1 rfl (OV.fieldAddr0 (off := 1) rfl T.u31 rfl) (Ht 2 rfl (OV.load1 (v := .int .i64 t.n) rfl T.u3 rfl (fun _ hw => (cell_at hw.1 (o := 1) rfl).1)) (Hf 3 rfl (OV.move rfl) (Hf 4 rfl (OV.move rfl) (Hf 5 rfl ((OV.indexSlice rfl rfl T.u32 T.z31 (by omega)).cast (u := .pointer (some ((⟨qx, 0, none⟩ : Addr).add (i * 3)))) (by rw [Int.toNat_natCast])) ?_)))))
      refine Ht 6 rfl (OV.loadN (cs := tmC u) rfl T.u31 rfl T.z31 (fun _ hw j v hj => by have hj3 : j < 3 := (List.getElem?_eq_some_iff.1 hj).1; have h := row_cellsφE rfl hw.2 (i * 3 + j) v (by rw [flat_get tmC_len _ i j u htx (by omega)]; exact hj); rwa [add_add] at h)) ?_
      refine Ho 7 rfl (fl' := false) rfl ?_
      refine WL.focus perm2 (WL.mapUpdate intKey T.u101 rfl rfl rfl ?_)
      refine Hc (fun _ => (fun _ hw => ⟨hw.it (own b15 (.cells (tmC t).toArray 31 (0, 0))) (by simp), hw.it (rowT (some ⟨qx, 0, none⟩) xc (plc x)) (by simp)⟩)) ?_
      refine He (Xb (Xn (Cr (Zv (OV.addN (j := 1) rfl rfl (by omega)) (Zm rfl (Nl ?_))))))
      have hv : ¬ varB t = false := by simpa using c77
      have hsm : ¬ ((gotT l t.n).isSome = true ∧ (gotT l t.n).getD T0 ≠ u) := fun h => h.2 (by simpa using c99)
      refine WX.round2 (i + 1) (upsT l t.n u) ⟨rfl, rfl, rfl, rfl, rfl, trivial⟩ (fun w' hw => ⟨⟨by omega, by have := upsT_len t.n u l; omega, by rw [hgo, hstep, if_neg hv, if_neg hsm]⟩, ?_⟩) (by show (plc p).length - (i + 1) < (plc p).length - i; omega)
      rw [ups_kvT] at hw
      exact hw.pick [[own m43 (mapK iV (kvT (upsT l t.n u)))], [own b16 (.cells (tmC ((gotT l t.n).getD T0)).toArray 31 (0, 0))], [own b15 (.cells (tmC t).toArray 31 (0, 0))], [rowT (some ⟨qp, 0, none⟩) pc (plc p)], [rowT (some ⟨qx, 0, none⟩) xc (plc x)], [own b4 (.cells (atC x a2 c2).toArray 34 (0, 0))], [own b3 (.cells (atC p a1 c1).toArray 34 (0, 0))]] [0, 3, 4, 5, 6] 7 rfl (by decide) (by decide)
    refine Hs 2 rfl rfl rfl rfl (Hs 3 rfl rfl rfl rfl (Hs 4 rfl rfl rfl rfl (Hs 5 rfl rfl rfl rfl (Hs 6 rfl rfl rfl rfl (Hs 7 rfl rfl rfl rfl (Hf 8 rfl (OV.pickF rfl rfl) (He (Xn (WC.condF (show _ = some (Value.bool false) from by rfl) ?_)))))))))
    refine Ck (Xn (Hd (fun w' => w'.heap[b15]? = some (.cells (tmC t).toArray 31 (0, 0)) ∧ (rowT (some ⟨qx, 0, none⟩) xc (plc x)).φ w') [] (fun _ hw => ⟨hw.it (own b15 (.cells (tmC t).toArray 31 (0, 0))) (by simp), hw.it (rowT (some ⟨qx, 0, none⟩) xc (plc x)) (by simp)⟩) (m := 8) rfl ?_))
    refine Hf 0 rfl (OV.move rfl) (Hf 1 rfl (OV.fieldAddr0 (off := 1) rfl T.u31 rfl) (Ht 2 rfl (OV.load1 (v := .int .i64 t.n) rfl T.u3 rfl (fun _ hw => (cell_at hw.1 (o := 1) rfl).1)) (Hf 3 rfl (OV.move rfl) (Hf 4 rfl (OV.move rfl) (Hf 5 rfl ((OV.indexSlice rfl rfl T.u32 T.z31 (by omega)).cast (u := .pointer (some ((⟨qx, 0, none⟩ : Addr).add (i * 3)))) (by rw [Int.toNat_natCast])) ?_)))))
    refine Ht 6 rfl (OV.loadN (cs := tmC u) rfl T.u31 rfl T.z31 (fun _ hw j v hj => by have hj3 : j < 3 := (List.getElem?_eq_some_iff.1 hj).1; have h := row_cellsφE rfl hw.2 (i * 3 + j) v (by rw [flat_get tmC_len _ i j u htx (by omega)]; exact hj); rwa [add_add] at h)) ?_
    refine Ho 7 rfl (fl' := false) rfl ?_
    refine WL.focus perm2 (WL.mapUpdate intKey T.u101 rfl rfl rfl ?_)
    refine Hc (fun _ => (fun _ hw => ⟨hw.it (own b15 (.cells (tmC t).toArray 31 (0, 0))) (by simp), hw.it (rowT (some ⟨qx, 0, none⟩) xc (plc x)) (by simp)⟩)) ?_
    refine He (Xb (Xn (Cr (Zv (OV.addN (j := 1) rfl rfl (by omega)) (Zm rfl (Nl ?_))))))
    have hv : ¬ varB t = false := by simpa using c77
    have hsm : ¬ ((gotT l t.n).isSome = true ∧ (gotT l t.n).getD T0 ≠ u) := fun h => by simp [h.1] at g92
    refine WX.round2 (i + 1) (upsT l t.n u) ⟨rfl, rfl, rfl, rfl, rfl, trivial⟩ (fun w' hw => ⟨⟨by omega, by have := upsT_len t.n u l; omega, by rw [hgo, hstep, if_neg hv, if_neg hsm]⟩, ?_⟩) (by show (plc p).length - (i + 1) < (plc p).length - i; omega)
    rw [ups_kvT] at hw
    exact hw.pick [[own m43 (mapK iV (kvT (upsT l t.n u)))], [own b16 (.cells (tmC ((gotT l t.n).getD T0)).toArray 31 (0, 0))], [own b15 (.cells (tmC t).toArray 31 (0, 0))], [rowT (some ⟨qp, 0, none⟩) pc (plc p)], [rowT (some ⟨qx, 0, none⟩) xc (plc x)], [own b4 (.cells (atC x a2 c2).toArray 34 (0, 0))], [own b3 (.cells (atC p a1 c1).toArray 34 (0, 0))]] [0, 3, 4, 5, 6] 7 rfl (by decide) (by decide)
  refine Ce (Xe (Xe (Xh (Xn (Csr (Zm rfl (WL.focus (ow' := [] ++ (own m43 (mapK iV (kvT l)) :: rowT (some ⟨qp, 0, none⟩) pc (plc p) :: rowT (some ⟨qx, 0, none⟩) xc (plc x) :: own b4 (.cells (atC x a2 c2).toArray 34 (0, 0)) :: own b3 (.cells (atC p a1 c1).toArray 34 (0, 0)) :: [])) (List.Perm.refl _) ?_)))))))
  refine WL.callTA (ι := Nat × Nat × List Bd) (vs := [.map (some m43)]) (vv := fun q => .slice (some ⟨q.1, 0, none⟩) q.2.2.length q.2.1) (pp := fun _ => True) [] (AA := fun q => [rowB (some ⟨q.1, 0, none⟩) q.2.1 q.2.2]) rfl (by kernel_rfl) rfl rfl (fun w' hw' _ => (sorted_calls m43 l (by omega) w' (hw'.it (own m43 (mapK iV (kvT l))) (.head _))).mono (fun en w'' ⟨b, c, ys, q1, q2⟩ => ⟨(b, c, ys), q1, trivial, q2⟩)) ?_
  rintro ⟨sb, sc, ys⟩ _
  refine Za rfl (Za rfl (Nn (WC.ret ?_)))
  exact WX.ret2 rfl rfl rfl rfl (fun w' hw => ⟨_, by rw [matchB, hgo, List.drop_eq_nil_of_le (by omega), decide_eq_true ⟨hn, hl, hvk⟩]; rfl, hw.fr⟩)

theorem match_calls (p x : At) (a1 a2 : Option Addr) (c1 c2 : Nat) (h1 : p.args.length ≤ 1048575) (h2 : x.args.length ≤ 1048575) (w : World) (hr1 : RT w a1 p.args) (hr2 : RT w a2 x.args) : Calls Tryz.prog 20 #[atV p a1 c1, atV x a2 c2, .slice none 0 0] w fun e w' => ∃ v, e = .returned (.tuple #[v, .bool (matchB p x)]) ∧ Fr0 w w' := by
  by_cases hn : p.name = x.name
  · by_cases hl : p.args.length = x.args.length
    · by_cases hv : varB p.b = true ∧ x.b.kind = 0
      · exact match_a3 p x a1 a2 c1 c2 h1 h2 w hr1 hr2 hn hl hv.1 hv.2
      · exact match_b p x a1 a2 c1 c2 h1 h2 w hr1 hr2 hn hl hv
    · exact match_a2 p x a1 a2 c1 c2 h1 h2 w hr1 hr2 hn hl
  · exact match_a1 p x a1 a2 c1 c2 h1 h2 w hr1 hr2 hn

end Go.Proofs.YtgiiifadbnpfkaaGreatDoor

set_option maxRecDepth 10000
namespace Go.Proofs.YtgiiifadbnpfkaaGreatDoor
open Go Go.Hw
set_option linter.unusedSimpArgs false
set_option linter.unusedVariables false
/-- What the pattern asks of a row: columns and numbers. -/
def ckOf (vs : List Tm) : Nat → List Tm → List (Int × Int)
  | _, [] => []
  | i, t :: ts => if varB t = true then ckOf vs (i + 1) ts else ((i : Int), (((numOf vs t).getD 0 : Nat) : Int)) :: ckOf vs (i + 1) ts
/-- All fixed terms have numbers. -/
def allKnown (vs : List Tm) (ts : List Tm) : Prop := ∀ t ∈ ts, varB t = false → (numOf vs t).isSome = true
theorem ck_snoc (vs : List Tm) : ∀ (i : Nat) (ts : List Tm) (t : Tm), ckOf vs i (ts ++ [t]) = ckOf vs i ts ++ (if varB t = true then [] else [(((i + ts.length : Nat) : Int), (((numOf vs t).getD 0 : Nat) : Int))])
  | i, [], t => by simp [ckOf]
  | i, u :: ts, t => by
    simp only [List.cons_append, ckOf]
    rw [ck_snoc vs (i + 1) ts t]
    have e : i + 1 + ts.length = i + (u :: ts).length := by simp; omega
    split <;> simp [e]
theorem ck_len (vs : List Tm) : ∀ (i : Nat) (ts : List Tm), (ckOf vs i ts).length ≤ ts.length
  | _, [] => by simp [ckOf]
  | i, t :: ts => by
    have := ck_len vs (i + 1) ts
    unfold ckOf; split <;> simp <;> omega
theorem ck_col (vs : List Tm) : ∀ (i : Nat) (ts : List Tm), ∀ q ∈ ckOf vs i ts, (i : Int) ≤ q.1 ∧ q.1 < ((i + ts.length : Nat) : Int)
  | i, [], q, h => by simp [ckOf] at h
  | i, t :: ts, q, h => by
    unfold ckOf at h
    split at h
    · have := ck_col vs (i + 1) ts q h
      simp only [List.length_cons]; omega
    · rcases List.mem_cons.1 h with h | h
      · subst h; simp only [List.length_cons]; omega
      · have := ck_col vs (i + 1) ts q h
        simp only [List.length_cons]; omega
def foundF (F : List (At × Nat)) (parts : Int) (p : At) : List At := sortA ((selF F parts).filter (matchB p))
theorem match_pred {p x : At} (h : matchB p x = true) : predOf p = predOf x := by
  unfold matchB at h
  rw [Bool.and_eq_true, decide_eq_true_eq] at h
  unfold predOf; rw [h.1.1, h.1.2.1]
/-- What matches has the pattern's fixed terms in their places. -/
theorem go_fix : ∀ {ts us : List Tm} {m : List (Int × Tm)}, matchGo m ts us = true → ∀ (i : Nat) (t u : Tm), ts[i]? = some t → us[i]? = some u → varB t = false → t = u
  | [], _, _, _, i, t, u, h, _, _ => by simp at h
  | _ :: _, [], _, _, i, t, u, _, h, _ => by simp at h
  | s :: ts, v :: us, m, h, i, t, u, ht, hu, hv => by
    unfold matchGo at h
    cases i with
    | zero =>
      simp only [List.getElem?_cons_zero, Option.some.injEq] at ht hu
      subst ht; subst hu
      rw [if_pos hv] at h
      by_cases he : s = v
      · exact he
      · rw [if_neg he] at h; cases h
    | succ i =>
      simp only [List.getElem?_cons_succ] at ht hu
      split at h
      · split at h
        · exact go_fix h i t u ht hu hv
        · cases h
      · split at h
        · cases h
        · exact go_fix h i t u ht hu hv
theorem match_fix {p x : At} (h : matchB p x = true) {i : Nat} {t u : Tm} (ht : (plc p)[i]? = some t) (hu : (plc x)[i]? = some u) (hv : varB t = false) : t = u := by
  unfold matchB at h
  rw [Bool.and_eq_true] at h
  exact go_fix h.2 i t u ht hu hv

end Go.Proofs.YtgiiifadbnpfkaaGreatDoor

set_option maxRecDepth 10000
namespace Go.Proofs.YtgiiifadbnpfkaaGreatDoor
open Go Go.Hw
set_option linter.unusedSimpArgs false
set_option linter.unusedVariables false
theorem ck_get (vs : List Tm) : ∀ (i : Nat) (ts : List Tm), ∀ q ∈ ckOf vs i ts, ∃ (j : Nat) (t : Tm), q.1 = ((i + j : Nat) : Int) ∧ ts[j]? = some t ∧ varB t = false ∧ q.2 = (((numOf vs t).getD 0 : Nat) : Int)
  | i, [], q, h => by simp [ckOf] at h
  | i, t :: ts, q, h => by
    unfold ckOf at h
    split at h
    · obtain ⟨j, u, h1, h2, h3, h4⟩ := ck_get vs (i + 1) ts q h
      exact ⟨j + 1, u, by rw [h1]; congr 1; omega, by simpa using h2, h3, h4⟩
    · rename_i hv
      rcases List.mem_cons.1 h with h | h
      · subst h; exact ⟨0, t, by simp, rfl, by simpa using hv, rfl⟩
      · obtain ⟨j, u, h1, h2, h3, h4⟩ := ck_get vs (i + 1) ts q h
        exact ⟨j + 1, u, by rw [h1]; congr 1; omega, by simpa using h2, h3, h4⟩
theorem zip_fst_snd (l : List (Int × Int)) : (l.map (·.1)).zip (l.map (·.2)) = l := by
  induction l with
  | nil => rfl
  | cons q l ih => simp [ih]
theorem plc_atom (vs : List Tm) (p : Pd) (l : List Int) (h : 0 < l.length) : plc (atomOf vs p l) = l.map (valAt vs) := by
  cases l with
  | nil => simp at h
  | cons a l => rfl
/-- What the pattern matches fits what it asks. -/
theorem match_fits {g : BaseG} (ok : BaseOK g) {x : Pd × RelG} (hx : x ∈ g.rs) {q : List Int × Nat} (hq : q ∈ rp x.2) {p : At} (h : matchB p (atomOf g.vs x.1 q.1) = true) :
    fitsL q.1 ((ckOf g.vs 0 (plc p)).map (·.1)) ((ckOf g.vs 0 (plc p)).map (·.2)) := by
  obtain ⟨hl, hin⟩ := rel_row ok hx hq
  refine ⟨by simp, fun c hc => ?_⟩
  rw [zip_fst_snd] at hc
  obtain ⟨j, t, h1, h2, h3, h4⟩ := ck_get g.vs 0 (plc p) c hc
  rw [Nat.zero_add] at h1
  have hp := match_pred h
  have hpl : (plc p).length = q.1.length := by
    have h5 := congrArg Pd.ar hp
    rw [pred_atom ok hx hq] at h5
    show p.args.length + 1 = _
    have h6 : p.args.length = x.1.ar := h5
    omega
  have hj : j < q.1.length := by have := (List.getElem?_eq_some_iff.1 h2).1; omega
  have hu : (plc (atomOf g.vs x.1 q.1))[j]? = some (valAt g.vs q.1[j]) := by
    rw [plc_atom _ _ _ (by omega), List.getElem?_map, List.getElem?_eq_getElem hj]; rfl
  have ht := match_fix h h2 hu h3
  obtain ⟨n, hn, hv⟩ := inVs_get hin hj
  have hgd : q.1.getD j 0 = q.1[j] := by rw [List.getD_eq_getElem?_getD, List.getElem?_eq_getElem hj]; rfl
  rw [hgd] at hn hv
  have hnum : numOf g.vs t = some n := by rw [ht]; exact numOf_nodup ok.vn hv
  refine ⟨by omega, by omega, ?_⟩
  rw [h4, h1, hnum, Int.toNat_natCast, hgd, hn]
  rfl
theorem known_of {g : BaseG} (ok : BaseOK g) {x : Pd × RelG} (hx : x ∈ g.rs) {q : List Int × Nat} (hq : q ∈ rp x.2) {p : At} (h : matchB p (atomOf g.vs x.1 q.1) = true) : allKnown g.vs (plc p) := by
  obtain ⟨hl, hin⟩ := rel_row ok hx hq
  intro t ht hv
  obtain ⟨j, h2⟩ := List.mem_iff_getElem?.1 ht
  have hp := match_pred h
  have hj : j < q.1.length := by
    have h5 := congrArg Pd.ar hp
    rw [pred_atom ok hx hq] at h5
    have h6 : p.args.length = x.1.ar := h5
    have h7 := (List.getElem?_eq_some_iff.1 h2).1
    have h8 : (plc p).length = p.args.length + 1 := rfl
    omega
  have hu : (plc (atomOf g.vs x.1 q.1))[j]? = some (valAt g.vs q.1[j]) := by
    rw [plc_atom _ _ _ (by omega), List.getElem?_map, List.getElem?_eq_getElem hj]; rfl
  have ht2 := match_fix h h2 hu hv
  obtain ⟨n, hn, hval⟩ := inVs_get hin hj
  have hgd : q.1.getD j 0 = q.1[j] := by rw [List.getD_eq_getElem?_getD, List.getElem?_eq_getElem hj]; rfl
  rw [hgd] at hval
  rw [ht2, numOf_nodup ok.vn hval]; rfl
theorem flat_none {α β : Type} {f : α → List β} {l : List α} (h : ∀ x ∈ l, f x = []) : l.flatMap f = [] := by
  induction l with
  | nil => rfl
  | cons x l ih => rw [List.flatMap_cons, h x (.head _), ih fun y hy => h y (.tail _ hy)]; rfl
/-- Only the pattern's own relation has what it matches. -/
theorem found_rel {g : BaseG} (ok : BaseOK g) {p : At} {x : Pd × RelG} {r1 r2 : List (Pd × RelG)} (hs : g.rs = r1 ++ x :: r2) (hx : x.1 = predOf p) (parts : Int) :
    ((selF (factsB g) parts).filter (matchB p)).Perm (((selR (rp x.2) parts ((ckOf g.vs 0 (plc p)).map (·.1)) ((ckOf g.vs 0 (plc p)).map (·.2))).map (atomOf g.vs x.1)).filter (matchB p)) := by
  have hxm : x ∈ g.rs := by rw [hs]; simp
  have hsub : ∀ y ∈ g.rs, (((rp y.2).map fun q => (atomOf g.vs y.1 q.1, q.2)).filter fun q => inP parts q.2).map (·.1) = ((rp y.2).filter fun q => inP parts q.2).map fun q => atomOf g.vs y.1 q.1 := by
    intro y _
    rw [List.filter_map, List.map_map]; rfl
  have hno : ∀ y ∈ g.rs, y.1 ≠ predOf p → (((rp y.2).filter fun q => inP parts q.2).map fun q => atomOf g.vs y.1 q.1).filter (matchB p) = [] := by
    intro y hy hne
    rw [List.filter_eq_nil_iff]
    intro z hz hm
    obtain ⟨q, hq, rfl⟩ := List.mem_map.1 hz
    have h1 := match_pred hm
    rw [pred_atom ok hy (List.mem_filter.1 hq).1] at h1
    exact hne h1.symm
  have e1 : (selF (factsB g) parts).filter (matchB p) = g.rs.flatMap fun y => (((rp y.2).filter fun q => inP parts q.2).map fun q => atomOf g.vs y.1 q.1).filter (matchB p) := by
    unfold selF factsB
    rw [List.filter_flatMap, List.map_flatMap, List.filter_flatMap]
    have : ∀ l : List (Pd × RelG), (∀ y ∈ l, y ∈ g.rs) → l.flatMap (fun a => List.filter (matchB p) ((((rp a.2).map fun q => (atomOf g.vs a.1 q.1, q.2)).filter fun q => inP parts q.2).map (·.1))) = l.flatMap fun y => (((rp y.2).filter fun q => inP parts q.2).map fun q => atomOf g.vs y.1 q.1).filter (matchB p) := by
      intro l hl
      induction l with
      | nil => rfl
      | cons y l ih => rw [List.flatMap_cons, List.flatMap_cons, hsub y (hl y (.head _)), ih fun z hz => hl z (.tail _ hz)]
    exact this g.rs fun y hy => hy
  have hrn := ok.rn
  rw [hs, List.map_append, List.map_cons, List.nodup_append] at hrn
  have e2 : g.rs.flatMap (fun y => (((rp y.2).filter fun q => inP parts q.2).map fun q => atomOf g.vs y.1 q.1).filter (matchB p)) = (((rp x.2).filter fun q => inP parts q.2).map fun q => atomOf g.vs x.1 q.1).filter (matchB p) := by
    rw [hs, List.flatMap_append, List.flatMap_cons, flat_none, flat_none, List.append_nil, List.nil_append]
    · intro y hy
      refine hno y (by rw [hs]; simp [hy]) (fun e => ?_)
      have h3 := (List.nodup_cons.1 hrn.2.1).1
      exact h3 (by rw [hx, ← e]; exact List.mem_map.2 ⟨y, hy, rfl⟩)
    · intro y hy
      refine hno y (by rw [hs]; simp [hy]) (fun e => ?_)
      exact hrn.2.2 y.1 (List.mem_map.2 ⟨y, hy, rfl⟩) x.1 (.head _) (by rw [e, hx])
  rw [e1, e2]
  have h4 : (selR (rp x.2) parts ((ckOf g.vs 0 (plc p)).map (·.1)) ((ckOf g.vs 0 (plc p)).map (·.2))).Perm (((rp x.2).filter fun q => inP parts q.2 && decide (fitsL q.1 ((ckOf g.vs 0 (plc p)).map (·.1)) ((ckOf g.vs 0 (plc p)).map (·.2)))).map (·.1)) := sortR_perm _
  refine List.Perm.trans ?_ ((h4.map _).filter _).symm
  refine List.Perm.of_eq ?_
  rw [List.map_map, List.filter_map, List.filter_map, List.filter_filter, List.filter_filter]
  refine congrArg _ (List.filter_congr fun q hq => ?_)
  cases hm : matchB p (atomOf g.vs x.1 q.1) with
  | false => simp [hm, Function.comp]
  | true =>
    have := match_fits ok hxm hq hm
    simp [hm, Function.comp, this]
/-- No relation of the pattern's own: nothing is found. -/
theorem found_none {g : BaseG} (ok : BaseOK g) {p : At} (h : relOf g.rs (predOf p) = none) (parts : Int) : (selF (factsB g) parts).filter (matchB p) = [] := by
  rw [List.filter_eq_nil_iff]
  intro z hz hm
  obtain ⟨⟨y, n⟩, hq, rfl⟩ := List.mem_map.1 hz
  have h1 := (mem_facts1 ok y).1 (List.mem_map.2 ⟨(y, n), (List.mem_filter.1 hq).1, rfl⟩)
  obtain ⟨gr, l, h2, _⟩ := h1
  rw [← match_pred hm, h] at h2; cases h2
theorem found_unknown {g : BaseG} (ok : BaseOK g) {p : At} (h : ¬ allKnown g.vs (plc p)) (parts : Int) : (selF (factsB g) parts).filter (matchB p) = [] := by
  rw [List.filter_eq_nil_iff]
  intro z hz hm
  obtain ⟨⟨y, n⟩, hq, rfl⟩ := List.mem_map.1 hz
  obtain ⟨x, hx, hq2⟩ := List.mem_flatMap.1 (show (y, n) ∈ g.rs.flatMap _ from (List.mem_filter.1 hq).1)
  obtain ⟨q, hq3, he⟩ := List.mem_map.1 hq2
  simp only [Prod.mk.injEq] at he
  refine h (known_of ok hx hq3 (p := p) ?_)
  rw [he.1]; exact hm

end Go.Proofs.YtgiiifadbnpfkaaGreatDoor
