/- Contracts of functions of the program: what each returns and leaves in memory. Printed by gen.py and walk.py. -/
import Derived.Test.YtgiiifadbnpfkaaGreatDoorMg19
import Derived.Test.YtgiiifadbnpfkaaGreatDoorMg17
set_option maxRecDepth 10000
namespace Go.Proofs.YtgiiifadbnpfkaaGreatDoor
open Go Go.Hw
set_option linter.unusedSimpArgs false
set_option linter.unusedVariables false
/-- May this bind come behind those? -/
def frB (zs : List Bd) (y : Bd) : Bool := match zs.getLast? with | none => true | some z => decide (z.v < y.v)
theorem frB_nil {zs : List Bd} (h : zs.length = 0) (y : Bd) : frB zs y = true := by
  rw [List.length_eq_zero_iff.1 h]; rfl
theorem frB_last {zs : List Bd} {z y : Bd} (h : zs[zs.length - 1]? = some z) (hv : z.v < y.v) : frB zs y = true := by
  unfold frB; rw [List.getLast?_eq_getElem?, h]; simpa using hv
theorem fr_less {ys zs : List Bd} {y : Bd} (hy : y ∈ ys) (h : frB zs y = true) : (ys.filter (frB (zs ++ [y]))).length < (ys.filter (frB zs)).length := by
  have hq : ∀ b, frB (zs ++ [y]) b = decide (y.v < b.v) := fun b => by unfold frB; simp
  have himp : ∀ b, frB (zs ++ [y]) b = true → frB zs b = true := fun b hb => by
    rw [hq, decide_eq_true_eq] at hb
    unfold frB at h ⊢
    cases hz : zs.getLast? with
    | none => rfl
    | some z => rw [hz] at h; simp only [decide_eq_true_eq] at h ⊢; omega
  have e : ys.filter (frB (zs ++ [y])) = (ys.filter (frB zs)).filter (frB (zs ++ [y])) := by
    rw [List.filter_filter]
    refine List.filter_congr fun b _ => ?_
    cases hb : frB (zs ++ [y]) b with
    | false => simp
    | true => simp [himp b hb]
  rw [e]
  refine List.length_filter_lt_length_iff_exists.2 ⟨y, List.mem_filter.2 ⟨hy, h⟩, ?_⟩
  rw [hq]; simp
theorem Src.of_rbd {a : Option Addr} {ts : List Bd} {S : World → Prop} (h2 : a = none → ts.length = 0) (h : ∀ w, S w → RBd w a ts) : Src S a ts.length 4 (ts.flatMap bdC) := by
  refine ⟨flat_len bdC_len ts, h2, fun w hw b hb j u hj => ?_⟩
  have hj3 : j < ts.length * 4 := by rw [← flat_len bdC_len ts]; exact (List.getElem?_eq_some_iff.1 hj).1
  have hi : j / 4 < ts.length := Nat.div_lt_of_lt_mul (by omega)
  have h0 : j = j / 4 * 4 + j % 4 := by omega
  rw [h0] at hj
  rw [flat_get bdC_len ts (j / 4) (j % 4) _ (List.getElem?_eq_getElem hi) (by omega)] at hj
  have h1 := (h w hw).at_ b hb (j / 4) _ (List.getElem?_eq_getElem hi) (j % 4) u hj
  rwa [← add_add, ← h0] at h1
theorem bds_one (ts : List Bd) : ∀ u ∈ ts.flatMap bdC, u.oneCell' = true := by
  intro u hu
  obtain ⟨t, _, h⟩ := List.mem_flatMap.1 hu
  exact bdC_one t u h
/-- The document's Match: does it match? -/
def matchD (s : List (Int × Tm)) (p x : At) : Bool := decide (p.name = x.name ∧ p.args.length = x.args.length ∧ ¬ (varB p.b = true ∧ x.b.kind = 0)) && decide (appD (bindD s (plc p) (plc x)) p = x)
theorem matchD_nil (p x : At) : matchD [] p x = matchB p x := by
  unfold matchD
  by_cases h : p.name = x.name ∧ p.args.length = x.args.length ∧ ¬ (varB p.b = true ∧ x.b.kind = 0)
  · rw [matchB_doc h.1 h.2.1 h.2.2, decide_eq_true h, Bool.true_and]
  · unfold matchB
    rw [decide_eq_false h, Bool.false_and, Bool.false_and]
theorem bindD_mem : ∀ (ts us : List Tm) (m : List (Int × Tm)) (q : Int × Tm), q ∈ bindD m ts us → q ∈ m ∨ q.2 ∈ us
  | [], us, m, q, h => .inl (by simpa [bindD] using h)
  | _ :: _, [], m, q, h => .inl (by simpa [bindD] using h)
  | t :: ts, u :: us, m, q, h => by
    rw [bindD] at h
    rcases bindD_mem ts us _ q h with h | h
    · split at h
      · rcases List.mem_append.1 h with h | h
        · exact .inl h
        · simp only [List.mem_singleton] at h; subst h; exact .inr (by simp)
      · exact .inl h
    · exact .inr (by simp [h])
theorem gotT_mem {v : Int} {z : Tm} : ∀ {m : List (Int × Tm)}, gotT m v = some z → ∃ q ∈ m, q.2 = z
  | [], h => by cases h
  | q :: m, h => by
    have h : (if v = q.1 then some q.2 else gotT m v) = some z := h
    split at h
    · exact ⟨q, by simp, Option.some.inj h⟩
    · obtain ⟨p, hp, e⟩ := gotT_mem h
      exact ⟨p, by simp [hp], e⟩
theorem becD_small {s : List (Int × Tm)} {t : Tm} {k : Nat} (ht : t.s.size ≤ k) (hs : ∀ q ∈ s, q.2.s.size ≤ k) : (becD s t).s.size ≤ k := by
  unfold becD
  split
  · cases hg : gotT s t.n with
    | none => exact ht
    | some z => obtain ⟨q, hq, e⟩ := gotT_mem hg; rw [← e]; exact hs q hq
  · exact ht
theorem AtS.app {s : List (Int × Tm)} {x : At} (h : AtS x) (hs : ∀ q ∈ s, q.2.s.size ≤ 1099511627776) : AtS (appD s x) :=
  ⟨by simpa [appD] using h.len, h.name, becD_small h.b hs, fun t ht => by obtain ⟨u, hu, rfl⟩ := List.mem_map.1 ht; exact becD_small (h.args u hu) hs⟩
theorem AtS.plc {x : At} (h : AtS x) : ∀ t ∈ plc x, t.s.size ≤ 1099511627776 := fun t ht => by
  rcases List.mem_cons.1 ht with rfl | ht
  · exact h.b
  · exact h.args t ht
theorem sb_small {ys : List Bd} (h : ∀ y ∈ ys, y.t.s.size ≤ 1099511627776) : ∀ q ∈ sb ys, q.2.s.size ≤ 1099511627776 := fun q hq => by obtain ⟨y, hy, rfl⟩ := List.mem_map.1 hq; exact h y hy

set_option maxHeartbeats 2000000 in
theorem settled_calls (ys : List Bd) (a : Option Addr) (c : Nat) (hl : ys.length ≤ 1099511627776) (w : World) (hr : RBd w a ys) : Calls Tryz.prog 157 #[.slice a ys.length c] w fun e w' => ∃ la lc zs, e = .returned (.slice la zs.length lc) ∧ Turns [] [rowB la lc zs] w w' := by
  refine enterS (args := [.slice a ys.length c]) (fun _ => False) Tryz.func157 rfl Tryz.ntmps157 rfl rfl ?_
  refine Csr (Za rfl (Nn (Csr (Za rfl (Nn (Cb (WC.weak (S' := Sat0 w (row 103 4 none 0 0 [] :: [])) (fun w' hw => hw.rowNil 103 4) ?_)))))))
  refine WC.loop3 (fun (la : Option Addr) (lc : Nat) (zs : List Bd) => [(0, .slice a ys.length c), (3, .slice la zs.length lc)])
      (fun la lc zs w' => (zs.length + (ys.filter (frB zs)).length ≤ ys.length ∧ (0 < zs.length → ∃ b, la = some ⟨b, 0, none⟩)) ∧ Sat0 w (rowB la lc zs :: []) w')
      (fun _ _ zs => (ys.filter (frB zs)).length) none 0 [] ⟨rfl, rfl, trivial⟩ (fun w' hw => ⟨⟨by have := List.length_filter_le (frB []) ys; simp; omega, fun h => by simp at h⟩, hw⟩) ?_
  intro la lc zs
  refine WC.pure (fun hi => ?_)
  obtain ⟨hzl, hla⟩ := hi
  refine Cb (Csr (Za rfl (Nn (Cs (Csr (Za rfl (Nn (Cb ?_))))))))
  refine WC.loop2 (fun (i : Nat) (at_ : Int) => [(0, .slice a ys.length c), (3, .slice la zs.length lc), (4, .int .i64 at_), (5, .int .i64 (i : Int))])
      (fun i at_ w' => (i ≤ ys.length ∧ (-1 ≤ at_ ∧ at_ < ys.length) ∧ (0 ≤ at_ → frB zs (ys.getD at_.toNat default) = true)) ∧ Sat0 w (rowB la lc zs :: []) w')
      (fun i _ => ys.length - i) 0 (-1) ⟨rfl, rfl, rfl, rfl, trivial⟩ (fun w' hw => ⟨⟨by omega, by omega, fun h => by omega⟩, hw⟩) ?_
  intro i at_
  refine WC.pure (fun hi => ?_)
  obtain ⟨hi, hat, hat2⟩ := hi
  refine Cs (Csr (Zm rfl (Zm rfl (Zv (OV.lenSlice rfl T.u48) (Zv (OV.lss rfl rfl) (Nn ?_))))))
  refine Cc rfl (fun c10 => ?_) (fun c10 => ?_)
  · refine Ck (Xn (Cs (Cb (Cs (Hq [] (m := 19) rfl ?_)))))
    refine Hf 0 rfl (OV.move rfl) (Hf 1 rfl (OV.lenSlice rfl T.u48) (Hf 2 rfl (OV.eql rfl rfl) (Hf 3 rfl (OV.move rfl) ?_)))
    refine Hp (t := 16) rfl (fun g16 => ?_) (fun g16 => ?_)
    · refine Hs 4 rfl rfl rfl rfl (Hs 5 rfl rfl rfl rfl (Hs 6 rfl rfl rfl rfl (Hs 7 rfl rfl rfl rfl (Hs 8 rfl rfl rfl rfl (Hs 9 rfl rfl rfl rfl (Hs 10 rfl rfl rfl rfl (Hs 11 rfl rfl rfl rfl (Hs 12 rfl rfl rfl rfl (Hs 13 rfl rfl rfl rfl (Hs 14 rfl rfl rfl rfl (Hs 15 rfl rfl rfl rfl (Hs 16 rfl rfl rfl rfl (Hf 17 rfl (OV.pickT rfl rfl) (Hf 18 rfl (OV.assign rfl) (He (Xn (Cs (Hq [] (m := 18) rfl ?_))))))))))))))))))
      refine Hf 0 rfl (OV.move rfl) (Hf 1 rfl (OV.move rfl) (Hfg 2 rfl rfl rfl rfl (OV.move rfl) (Hfg 3 rfl rfl rfl rfl (OV.lss rfl rfl) (Hfg 4 rfl rfl rfl rfl (OV.move rfl) ?_))))
      refine Hp (t := 35) rfl (fun g35 => ?_) (fun g35 => ?_)
      · refine Hs 5 rfl rfl rfl rfl (Hs 6 rfl rfl rfl rfl (Hs 7 rfl rfl rfl rfl (Hs 8 rfl rfl rfl rfl (Hs 9 rfl rfl rfl rfl (Hs 10 rfl rfl rfl rfl (Hs 11 rfl rfl rfl rfl (Hs 12 rfl rfl rfl rfl (Hs 13 rfl rfl rfl rfl (Hs 14 rfl rfl rfl rfl (Hs 15 rfl rfl rfl rfl (Hfg 16 rfl rfl rfl rfl (OV.pickT rfl rfl) (Hf 17 rfl (OV.pickT rfl rfl) (He (Xn (WC.condT rfl ?_)))))))))))))))
        refine Cr (Zm rfl (Za rfl (Nl (Xb (Xn (Cr (Zm rfl (Zv (OV.addN (j := 1) rfl rfl (by omega)) (Za rfl (Nl ?_))))))))))
        first
        | exact WX.round2 (i + 1) (i : Int) ⟨rfl, rfl, rfl, rfl, trivial⟩ (fun w' hw => ⟨⟨by omega, by omega, fun _ => by
            first
            | exact frB_nil (by omega) _
            | (have e : ys.getD ((i : Nat) : Int).toNat default = y := by rw [Int.toNat_natCast, List.getD_eq_getElem?_getD, hy]; rfl
               rw [e]; exact frB_last hz (by omega))⟩, hw⟩) (by show ys.length - (i + 1) < ys.length - i; omega)
        | exact WX.round2 (i + 1) at_ ⟨rfl, rfl, rfl, rfl, trivial⟩ (fun w' hw => ⟨⟨by omega, by omega, hat2⟩, hw⟩) (by show ys.length - (i + 1) < ys.length - i; omega)
      refine Hfg 5 rfl rfl rfl rfl (OV.move rfl) (Hfg 6 rfl rfl rfl rfl (OV.move rfl) ?_)
      obtain ⟨q1, y, hq1, hy, hym, hc1⟩ := hr.get (i := i) (by omega)
      refine Hfg 7 rfl rfl rfl rfl ((OV.indexSlice (show _ = some (Value.slice (some q1) ys.length c) by rw [← hq1]; rfl) rfl T.u48 T.z103 (by omega)).cast (u := .pointer (some (q1.add (i * 4)))) (by first | rfl | rw [Int.toNat_natCast])) (Hfg 8 rfl rfl rfl rfl ((OV.fieldAddrA (off := 0) rfl T.u103 rfl).cast (u := .pointer (some (q1.add (i * 4)))) (by rw [addr_add0])) (Htg 9 rfl rfl rfl rfl (OV.load1 (v := .int .i64 y.v) rfl T.u3 rfl (fun _ hw => hw.keeps _ _ (by have h := hc1 0 (.int .i64 y.v) rfl; rwa [addr_add0] at h))) (Hfg 10 rfl rfl rfl rfl (OV.move rfl) (Hfg 11 rfl rfl rfl rfl (OV.move rfl) ?_))))
      obtain ⟨q2, y2, hq2, hy2, hym2, hc2⟩ := hr.get (i := at_.toNat) (by omega)
      refine Hfg 12 rfl rfl rfl rfl ((OV.indexSlice (show _ = some (Value.slice (some q2) ys.length c) by rw [← hq2]; rfl) rfl T.u48 T.z103 (by omega)).cast (u := .pointer (some (q2.add (at_.toNat * 4)))) (by first | rfl | rw [Int.toNat_natCast])) (Hfg 13 rfl rfl rfl rfl ((OV.fieldAddrA (off := 0) rfl T.u103 rfl).cast (u := .pointer (some (q2.add (at_.toNat * 4)))) (by rw [addr_add0])) (Htg 14 rfl rfl rfl rfl (OV.load1 (v := .int .i64 y2.v) rfl T.u3 rfl (fun _ hw => hw.keeps _ _ (by have h := hc2 0 (.int .i64 y2.v) rfl; rwa [addr_add0] at h))) (Hfg 15 rfl rfl rfl rfl (OV.lss rfl rfl) (Hfg 16 rfl rfl rfl rfl (OV.pickF rfl rfl) (Hf 17 rfl (OV.pickT rfl rfl) (He (Xn ?_)))))))
      refine Cc rfl (fun c48 => ?_) (fun c48 => ?_)
      · refine Cr (Zm rfl (Za rfl (Nl (Xb (Xn (Cr (Zm rfl (Zv (OV.addN (j := 1) rfl rfl (by omega)) (Za rfl (Nl ?_))))))))))
        first
        | exact WX.round2 (i + 1) (i : Int) ⟨rfl, rfl, rfl, rfl, trivial⟩ (fun w' hw => ⟨⟨by omega, by omega, fun _ => by
            first
            | exact frB_nil (by omega) _
            | (have e : ys.getD ((i : Nat) : Int).toNat default = y := by rw [Int.toNat_natCast, List.getD_eq_getElem?_getD, hy]; rfl
               rw [e]; exact frB_last hz (by omega))⟩, hw⟩) (by show ys.length - (i + 1) < ys.length - i; omega)
        | exact WX.round2 (i + 1) at_ ⟨rfl, rfl, rfl, rfl, trivial⟩ (fun w' hw => ⟨⟨by omega, by omega, hat2⟩, hw⟩) (by show ys.length - (i + 1) < ys.length - i; omega)
      refine Ck (Xb (Xn (Cr (Zm rfl (Zv (OV.addN (j := 1) rfl rfl (by omega)) (Za rfl (Nl ?_)))))))
      first
      | exact WX.round2 (i + 1) (i : Int) ⟨rfl, rfl, rfl, rfl, trivial⟩ (fun w' hw => ⟨⟨by omega, by omega, fun _ => by
          first
          | exact frB_nil (by omega) _
          | (have e : ys.getD ((i : Nat) : Int).toNat default = y := by rw [Int.toNat_natCast, List.getD_eq_getElem?_getD, hy]; rfl
             rw [e]; exact frB_last hz (by omega))⟩, hw⟩) (by show ys.length - (i + 1) < ys.length - i; omega)
      | exact WX.round2 (i + 1) at_ ⟨rfl, rfl, rfl, rfl, trivial⟩ (fun w' hw => ⟨⟨by omega, by omega, hat2⟩, hw⟩) (by show ys.length - (i + 1) < ys.length - i; omega)
    refine Hfg 4 rfl rfl rfl rfl (OV.move rfl) (Hfg 5 rfl rfl rfl rfl (OV.move rfl) ?_)
    obtain ⟨q1, y, hq1, hy, hym, hc1⟩ := hr.get (i := i) (by omega)
    refine Hfg 6 rfl rfl rfl rfl ((OV.indexSlice (show _ = some (Value.slice (some q1) ys.length c) by rw [← hq1]; rfl) rfl T.u48 T.z103 (by omega)).cast (u := .pointer (some (q1.add (i * 4)))) (by first | rfl | rw [Int.toNat_natCast])) (Hfg 7 rfl rfl rfl rfl ((OV.fieldAddrA (off := 0) rfl T.u103 rfl).cast (u := .pointer (some (q1.add (i * 4)))) (by rw [addr_add0])) (Htg 8 rfl rfl rfl rfl (OV.load1 (v := .int .i64 y.v) rfl T.u3 rfl (fun _ hw => hw.keeps _ _ (by have h := hc1 0 (.int .i64 y.v) rfl; rwa [addr_add0] at h))) (Hfg 9 rfl rfl rfl rfl (OV.move rfl) (Hfg 10 rfl rfl rfl rfl (OV.move rfl) (Hfg 11 rfl rfl rfl rfl (OV.lenSlice rfl T.u48) (Hfg 12 rfl rfl rfl rfl (OV.subN (j := 1) rfl rfl (wrap_i64 (by omega)) (by omega)) ?_))))))
    obtain ⟨z, hz⟩ : ∃ z, zs[zs.length - 1]? = some z := ⟨_, List.getElem?_eq_getElem (by omega)⟩
    obtain ⟨bq, hbq⟩ := hla (by omega)
    refine Hfg 13 rfl rfl rfl rfl ((OV.indexSlice (ix := ((zs.length - 1 : Nat) : Int)) (show _ = some (Value.slice (some ⟨bq, 0, none⟩) zs.length lc) by rw [← hbq]; rfl) rfl T.u48 T.z103 (by omega)).cast (u := .pointer (some ((⟨bq, 0, none⟩ : Addr).add ((zs.length - 1) * 4)))) (by rw [Int.toNat_natCast])) (Hfg 14 rfl rfl rfl rfl ((OV.fieldAddrA (off := 0) rfl T.u103 rfl).cast (u := .pointer (some ((⟨bq, 0, none⟩ : Addr).add ((zs.length - 1) * 4)))) (by rw [addr_add0])) (Htg 15 rfl rfl rfl rfl (OV.load1 (v := .int .i64 z.v) rfl T.u3 rfl (fun _ hw => by have h := row_cellsφE hbq (hw.it (rowB la lc zs) (by simp)) ((zs.length - 1) * 4) (.int .i64 z.v) (by have h2 := flat_get bdC_len zs (zs.length - 1) 0 z hz (by omega); rw [Nat.add_zero] at h2; rw [h2]; rfl); exact h)) (Hfg 16 rfl rfl rfl rfl (OV.gtr rfl rfl) (Hf 17 rfl (OV.pickF rfl rfl) (Hf 18 rfl (OV.assign rfl) (He (Xn (Cs (Hq [] (m := 18) rfl ?_)))))))))
    refine Hf 0 rfl (OV.move rfl) (Hf 1 rfl (OV.move rfl) ?_)
    refine Hp (t := 32) rfl (fun g32 => ?_) (fun g32 => ?_)
    · refine Hfg 2 rfl rfl rfl rfl (OV.move rfl) (Hfg 3 rfl rfl rfl rfl (OV.lss rfl rfl) (Hfg 4 rfl rfl rfl rfl (OV.move rfl) ?_))
      refine Hp (t := 35) rfl (fun g35 => ?_) (fun g35 => ?_)
      · refine Hs 5 rfl rfl rfl rfl (Hs 6 rfl rfl rfl rfl (Hs 7 rfl rfl rfl rfl (Hs 8 rfl rfl rfl rfl (Hs 9 rfl rfl rfl rfl (Hs 10 rfl rfl rfl rfl (Hs 11 rfl rfl rfl rfl (Hs 12 rfl rfl rfl rfl (Hs 13 rfl rfl rfl rfl (Hs 14 rfl rfl rfl rfl (Hs 15 rfl rfl rfl rfl (Hfg 16 rfl rfl rfl rfl (OV.pickT rfl rfl) (Hf 17 rfl (OV.pickT rfl rfl) (He (Xn (WC.condT rfl ?_)))))))))))))))
        refine Cr (Zm rfl (Za rfl (Nl (Xb (Xn (Cr (Zm rfl (Zv (OV.addN (j := 1) rfl rfl (by omega)) (Za rfl (Nl ?_))))))))))
        first
        | exact WX.round2 (i + 1) (i : Int) ⟨rfl, rfl, rfl, rfl, trivial⟩ (fun w' hw => ⟨⟨by omega, by omega, fun _ => by
            first
            | exact frB_nil (by omega) _
            | (have e : ys.getD ((i : Nat) : Int).toNat default = y := by rw [Int.toNat_natCast, List.getD_eq_getElem?_getD, hy]; rfl
               rw [e]; exact frB_last hz (by omega))⟩, hw⟩) (by show ys.length - (i + 1) < ys.length - i; omega)
        | exact WX.round2 (i + 1) at_ ⟨rfl, rfl, rfl, rfl, trivial⟩ (fun w' hw => ⟨⟨by omega, by omega, hat2⟩, hw⟩) (by show ys.length - (i + 1) < ys.length - i; omega)
      refine Hfg 5 rfl rfl rfl rfl (OV.move rfl) (Hfg 6 rfl rfl rfl rfl (OV.move rfl) (Hfg 7 rfl rfl rfl rfl ((OV.indexSlice (show _ = some (Value.slice (some q1) ys.length c) by rw [← hq1]; rfl) rfl T.u48 T.z103 (by omega)).cast (u := .pointer (some (q1.add (i * 4)))) (by first | rfl | rw [Int.toNat_natCast])) (Hfg 8 rfl rfl rfl rfl ((OV.fieldAddrA (off := 0) rfl T.u103 rfl).cast (u := .pointer (some (q1.add (i * 4)))) (by rw [addr_add0])) (Htg 9 rfl rfl rfl rfl (OV.load1 (v := .int .i64 y.v) rfl T.u3 rfl (fun _ hw => hw.keeps _ _ (by have h := hc1 0 (.int .i64 y.v) rfl; rwa [addr_add0] at h))) (Hfg 10 rfl rfl rfl rfl (OV.move rfl) (Hfg 11 rfl rfl rfl rfl (OV.move rfl) ?_))))))
      obtain ⟨q2, y2, hq2, hy2, hym2, hc2⟩ := hr.get (i := at_.toNat) (by omega)
      refine Hfg 12 rfl rfl rfl rfl ((OV.indexSlice (show _ = some (Value.slice (some q2) ys.length c) by rw [← hq2]; rfl) rfl T.u48 T.z103 (by omega)).cast (u := .pointer (some (q2.add (at_.toNat * 4)))) (by first | rfl | rw [Int.toNat_natCast])) (Hfg 13 rfl rfl rfl rfl ((OV.fieldAddrA (off := 0) rfl T.u103 rfl).cast (u := .pointer (some (q2.add (at_.toNat * 4)))) (by rw [addr_add0])) (Htg 14 rfl rfl rfl rfl (OV.load1 (v := .int .i64 y2.v) rfl T.u3 rfl (fun _ hw => hw.keeps _ _ (by have h := hc2 0 (.int .i64 y2.v) rfl; rwa [addr_add0] at h))) (Hfg 15 rfl rfl rfl rfl (OV.lss rfl rfl) (Hfg 16 rfl rfl rfl rfl (OV.pickF rfl rfl) (Hf 17 rfl (OV.pickT rfl rfl) (He (Xn ?_)))))))
      refine Cc rfl (fun c48 => ?_) (fun c48 => ?_)
      · refine Cr (Zm rfl (Za rfl (Nl (Xb (Xn (Cr (Zm rfl (Zv (OV.addN (j := 1) rfl rfl (by omega)) (Za rfl (Nl ?_))))))))))
        first
        | exact WX.round2 (i + 1) (i : Int) ⟨rfl, rfl, rfl, rfl, trivial⟩ (fun w' hw => ⟨⟨by omega, by omega, fun _ => by
            first
            | exact frB_nil (by omega) _
            | (have e : ys.getD ((i : Nat) : Int).toNat default = y := by rw [Int.toNat_natCast, List.getD_eq_getElem?_getD, hy]; rfl
               rw [e]; exact frB_last hz (by omega))⟩, hw⟩) (by show ys.length - (i + 1) < ys.length - i; omega)
        | exact WX.round2 (i + 1) at_ ⟨rfl, rfl, rfl, rfl, trivial⟩ (fun w' hw => ⟨⟨by omega, by omega, hat2⟩, hw⟩) (by show ys.length - (i + 1) < ys.length - i; omega)
      refine Ck (Xb (Xn (Cr (Zm rfl (Zv (OV.addN (j := 1) rfl rfl (by omega)) (Za rfl (Nl ?_)))))))
      first
      | exact WX.round2 (i + 1) (i : Int) ⟨rfl, rfl, rfl, rfl, trivial⟩ (fun w' hw => ⟨⟨by omega, by omega, fun _ => by
          first
          | exact frB_nil (by omega) _
          | (have e : ys.getD ((i : Nat) : Int).toNat default = y := by rw [Int.toNat_natCast, List.getD_eq_getElem?_getD, hy]; rfl
             rw [e]; exact frB_last hz (by omega))⟩, hw⟩) (by show ys.length - (i + 1) < ys.length - i; omega)
      | exact WX.round2 (i + 1) at_ ⟨rfl, rfl, rfl, rfl, trivial⟩ (fun w' hw => ⟨⟨by omega, by omega, hat2⟩, hw⟩) (by show ys.length - (i + 1) < ys.length - i; omega)
    refine Hs 2 rfl rfl rfl rfl (Hs 3 rfl rfl rfl rfl (Hs 4 rfl rfl rfl rfl (Hu 5 rfl rfl rfl (Hu 6 rfl rfl rfl (Hu 7 rfl rfl rfl (Hu 8 rfl rfl rfl (Hu 9 rfl rfl rfl (Hu 10 rfl rfl rfl (Hu 11 rfl rfl rfl (Hu 12 rfl rfl rfl (Hu 13 rfl rfl rfl (Hu 14 rfl rfl rfl (Hu 15 rfl rfl rfl (Hs 16 rfl rfl rfl rfl (Hf 17 rfl (OV.pickF rfl rfl) (He (Xn (WC.condF rfl ?_))))))))))))))))))
    refine Ck (Xb (Xn (Cr (Zm rfl (Zv (OV.addN (j := 1) rfl rfl (by omega)) (Za rfl (Nl ?_)))))))
    first
    | exact WX.round2 (i + 1) (i : Int) ⟨rfl, rfl, rfl, rfl, trivial⟩ (fun w' hw => ⟨⟨by omega, by omega, fun _ => by
        first
        | exact frB_nil (by omega) _
        | (have e : ys.getD ((i : Nat) : Int).toNat default = y := by rw [Int.toNat_natCast, List.getD_eq_getElem?_getD, hy]; rfl
           rw [e]; exact frB_last hz (by omega))⟩, hw⟩) (by show ys.length - (i + 1) < ys.length - i; omega)
    | exact WX.round2 (i + 1) at_ ⟨rfl, rfl, rfl, rfl, trivial⟩ (fun w' hw => ⟨⟨by omega, by omega, hat2⟩, hw⟩) (by show ys.length - (i + 1) < ys.length - i; omega)
  refine Ce (Xe (Xe (Xh (Xn (Cs (Csr (Zm rfl (Zv (OV.lss rfl rfl) (Nn ?_)))))))))
  refine Cc rfl (fun c51 => ?_) (fun c51 => ?_)
  · refine Csr (Zm rfl (Za rfl (Nn (WC.ret ?_))))
    refine Xr (Xq (Xr (Xq ?_)))
    exact WX.ret1 rfl rfl rfl (fun w' hw => ⟨la, lc, zs, rfl, hw.turned0⟩)
  refine Ck (Xn (Cr (Zm rfl (Zm rfl (Zm rfl ?_)))))
  obtain ⟨q2, y2, hq2, hy2, hym2, hc2⟩ := hr.get (i := at_.toNat) (by omega)
  have hf2 : frB zs y2 = true := by have h := hat2 (by omega); rwa [List.getD_eq_getElem?_getD, hy2, Option.getD_some] at h
  refine Zv ((OV.indexSlice (show _ = some (Value.slice (some q2) ys.length c) by rw [← hq2]; rfl) rfl T.u48 T.z103 (by omega)).cast (u := .pointer (some (q2.add (at_.toNat * 4)))) (by first | rfl | rw [Int.toNat_natCast])) (Zv (OV.loadN (cs := bdC y2) rfl T.u103 rfl T.z103 (fun _ hw j u hj => hw.keeps _ _ (hc2 j u hj))) (WL.buildSliceA (cs := bdC y2) T.u48 T.z103 T.zr103 rfl rfl (by omega) (by omega) rfl ?_))
  intro b58
  refine WL.focus perm1 (WL.append (news := bdC y2) rfl rfl T.apBd (fun _ _ => own_srcN (.tail _ (.head _)) rfl) (bdC_one _) ⟨by omega, by unfold maxLen; omega⟩ rfl ?_)
  intro a59 c59
  refine Za rfl (Nl (Xb ?_))
  have el : zs.length + 1 = (zs ++ [y2]).length := by simp
  have ef : zs.flatMap bdC ++ bdC y2 = (zs ++ [y2]).flatMap bdC := by simp
  have hlt := fr_less hym2 hf2
  rw [el, ef]
  refine WX.know (fun w' hw => (show ∃ b, a59 = some ⟨b, 0, none⟩ from row_addrK (hw.it (rowB a59 c59 (zs ++ [y2])) (.head _)) (by simp))) (fun hq => ?_)
  exact WX.round3 a59 c59 (zs ++ [y2]) ⟨rfl, rfl, trivial⟩ (fun w' hw => ⟨⟨by rw [← el]; omega, fun _ => hq⟩, hw.pick [[rowB a59 c59 (zs ++ [y2])], [own b58 (.cells (bdC y2).toArray 103 (0, 0))]] [0] 2 rfl (by decide) (by decide)⟩) hlt

theorem rmatch_a1 (p x : At) (ss : List Bd) (a1 a2 a3 : Option Addr) (c1 c2 c3 : Nat) (hp : AtS p) (hx : AtS x) (hs : ss.length ≤ 1048576 ∧ ∀ y ∈ ss, y.t.s.size ≤ 1099511627776) (w : World) (hr1 : RT w a1 p.args) (hr2 : RT w a2 x.args) (hr3 : RBd w a3 ss) (hn : p.name ≠ x.name) : Calls Tryz.prog 126 #[atV p a1 c1, atV x a2 c2, .slice a3 ss.length c3] w fun e w' => ∃ la lc zs, e = .returned (.tuple #[.slice la zs.length lc, .bool (matchD (sb ss) p x)]) ∧ Turns [] [rowB la lc zs] w w' := by
  refine enterS (args := [atV p a1 c1, atV x a2 c2, .slice a3 ss.length c3]) (fun _ => False) Tryz.func126 rfl Tryz.ntmps126 rfl rfl ?_
  refine Csr (WL.box rfl rfl rfl ?_)
  intro b3
  refine WL.box rfl rfl rfl ?_
  intro b4
  refine Za rfl (Za rfl (Nn (Cs (Csr (Zv (OV.fieldAddr0 (off := 3) rfl T.u34 rfl) (Zv (OV.load1 (v := .string p.name) rfl T.u9 rfl (fun _ hw => (cell_at (hw.it _ (.tail _ (.head _))) (o := 3) rfl).1)) (Zv (OV.fieldAddr0 (off := 3) rfl T.u34 rfl) (Zv (OV.load1 (v := .string x.name) rfl T.u9 rfl (fun _ hw => (cell_at (hw.it _ (.head _)) (o := 3) rfl).1)) (Zv ((OV.neqS rfl rfl).cast (u := .bool true) (by simp [hn])) (Zm rfl (WL.known (t := 19) (b := true) rfl (by rfl) ?_)))))))))))
  refine Zs rfl rfl rfl (Zs rfl rfl rfl (Zs rfl rfl rfl (Zs rfl rfl rfl (Zs rfl rfl rfl (Zs rfl rfl rfl (Zs rfl rfl rfl (Zv (OV.pickT rfl rfl) (Zm rfl (Zs rfl rfl rfl (Zs rfl rfl rfl (Zs rfl rfl rfl (Zs rfl rfl rfl (Zu rfl rfl (Zu rfl rfl (Zu rfl rfl (Zu rfl rfl (Zs rfl rfl rfl (Zv (OV.pickT rfl rfl) (Nn (WC.condT (show _ = some (Value.bool true) from by rfl) ?_))))))))))))))))))))
  refine Csr (Za rfl (Za rfl (Nn (WC.ret ?_))))
  refine Xr ?_
  exact WX.ret2 rfl rfl rfl rfl (fun w' hw => ⟨none, 0, [], by rw [matchD, decide_eq_false (fun h => hn h.1), Bool.false_and]; rfl, (Hw.Sat.part (List.Sublist.cons_cons _ (List.nil_sublist _)) (hw.rowNil 103 4)).turned0⟩)

theorem rmatch_a2 (p x : At) (ss : List Bd) (a1 a2 a3 : Option Addr) (c1 c2 c3 : Nat) (hp : AtS p) (hx : AtS x) (hs : ss.length ≤ 1048576 ∧ ∀ y ∈ ss, y.t.s.size ≤ 1099511627776) (w : World) (hr1 : RT w a1 p.args) (hr2 : RT w a2 x.args) (hr3 : RBd w a3 ss) (hn : p.name = x.name) (hl : p.args.length ≠ x.args.length) : Calls Tryz.prog 126 #[atV p a1 c1, atV x a2 c2, .slice a3 ss.length c3] w fun e w' => ∃ la lc zs, e = .returned (.tuple #[.slice la zs.length lc, .bool (matchD (sb ss) p x)]) ∧ Turns [] [rowB la lc zs] w w' := by
  refine enterS (args := [atV p a1 c1, atV x a2 c2, .slice a3 ss.length c3]) (fun _ => False) Tryz.func126 rfl Tryz.ntmps126 rfl rfl ?_
  refine Csr (WL.box rfl rfl rfl ?_)
  intro b3
  refine WL.box rfl rfl rfl ?_
  intro b4
  refine Za rfl (Za rfl (Nn (Cs (Csr (Zv (OV.fieldAddr0 (off := 3) rfl T.u34 rfl) (Zv (OV.load1 (v := .string p.name) rfl T.u9 rfl (fun _ hw => (cell_at (hw.it _ (.tail _ (.head _))) (o := 3) rfl).1)) (Zv (OV.fieldAddr0 (off := 3) rfl T.u34 rfl) (Zv (OV.load1 (v := .string x.name) rfl T.u9 rfl (fun _ hw => (cell_at (hw.it _ (.head _)) (o := 3) rfl).1)) (Zv ((OV.neqS rfl rfl).cast (u := .bool false) (by simp [hn])) (Zm rfl (WL.known (t := 19) (b := false) rfl (by rfl) ?_)))))))))))
  refine Zg rfl rfl rfl (Zv (OV.fieldAddr0 (off := 4) rfl T.u34 rfl) (Zg rfl rfl rfl (Zv (OV.load1 (v := .slice a1 p.args.length c1) rfl T.u32 rfl (fun _ hw => (cell_at (hw.it _ (.tail _ (.head _))) (o := 4) rfl).1)) (Zg rfl rfl rfl (Zv (OV.lenSlice rfl T.u32) (Zg rfl rfl rfl (Zv (OV.fieldAddr0 (off := 4) rfl T.u34 rfl) (Zg rfl rfl rfl (Zv (OV.load1 (v := .slice a2 x.args.length c2) rfl T.u32 rfl (fun _ hw => (cell_at (hw.it _ (.head _)) (o := 4) rfl).1)) (Zg rfl rfl rfl (Zv (OV.lenSlice rfl T.u32) (Zg rfl rfl rfl (Zv ((OV.neq rfl rfl).cast (u := .bool true) (by rw [decide_eq_false (by omega)]; rfl)) (Zv (OV.pickF rfl rfl) (Zm rfl (WL.known (t := 28) (b := true) rfl (by rfl) ?_))))))))))))))))
  refine Zs rfl rfl rfl (Zs rfl rfl rfl (Zs rfl rfl rfl (Zs rfl rfl rfl (Zu rfl rfl (Zu rfl rfl (Zu rfl rfl (Zu rfl rfl (Zs rfl rfl rfl (Zv (OV.pickT rfl rfl) (Nn (WC.condT (show _ = some (Value.bool true) from by rfl) ?_)))))))))))
  refine Csr (Za rfl (Za rfl (Nn (WC.ret ?_))))
  refine Xr ?_
  exact WX.ret2 rfl rfl rfl rfl (fun w' hw => ⟨none, 0, [], by rw [matchD, decide_eq_false (fun h => hl h.2.1), Bool.false_and]; rfl, (Hw.Sat.part (List.Sublist.cons_cons _ (List.nil_sublist _)) (hw.rowNil 103 4)).turned0⟩)

theorem rmatch_a3 (p x : At) (ss : List Bd) (a1 a2 a3 : Option Addr) (c1 c2 c3 : Nat) (hp : AtS p) (hx : AtS x) (hs : ss.length ≤ 1048576 ∧ ∀ y ∈ ss, y.t.s.size ≤ 1099511627776) (w : World) (hr1 : RT w a1 p.args) (hr2 : RT w a2 x.args) (hr3 : RBd w a3 ss) (hn : p.name = x.name) (hl : p.args.length = x.args.length) (hv : varB p.b = true) (hk : x.b.kind = 0) : Calls Tryz.prog 126 #[atV p a1 c1, atV x a2 c2, .slice a3 ss.length c3] w fun e w' => ∃ la lc zs, e = .returned (.tuple #[.slice la zs.length lc, .bool (matchD (sb ss) p x)]) ∧ Turns [] [rowB la lc zs] w w' := by
  refine enterS (args := [atV p a1 c1, atV x a2 c2, .slice a3 ss.length c3]) (fun _ => False) Tryz.func126 rfl Tryz.ntmps126 rfl rfl ?_
  refine Csr (WL.box rfl rfl rfl ?_)
  intro b3
  refine WL.box rfl rfl rfl ?_
  intro b4
  refine Za rfl (Za rfl (Nn (Cs (Csr (Zv (OV.fieldAddr0 (off := 3) rfl T.u34 rfl) (Zv (OV.load1 (v := .string p.name) rfl T.u9 rfl (fun _ hw => (cell_at (hw.it _ (.tail _ (.head _))) (o := 3) rfl).1)) (Zv (OV.fieldAddr0 (off := 3) rfl T.u34 rfl) (Zv (OV.load1 (v := .string x.name) rfl T.u9 rfl (fun _ hw => (cell_at (hw.it _ (.head _)) (o := 3) rfl).1)) (Zv ((OV.neqS rfl rfl).cast (u := .bool false) (by simp [hn])) (Zm rfl (WL.known (t := 19) (b := false) rfl (by rfl) ?_)))))))))))
  refine Zg rfl rfl rfl (Zv (OV.fieldAddr0 (off := 4) rfl T.u34 rfl) (Zg rfl rfl rfl (Zv (OV.load1 (v := .slice a1 p.args.length c1) rfl T.u32 rfl (fun _ hw => (cell_at (hw.it _ (.tail _ (.head _))) (o := 4) rfl).1)) (Zg rfl rfl rfl (Zv (OV.lenSlice rfl T.u32) (Zg rfl rfl rfl (Zv (OV.fieldAddr0 (off := 4) rfl T.u34 rfl) (Zg rfl rfl rfl (Zv (OV.load1 (v := .slice a2 x.args.length c2) rfl T.u32 rfl (fun _ hw => (cell_at (hw.it _ (.head _)) (o := 4) rfl).1)) (Zg rfl rfl rfl (Zv (OV.lenSlice rfl T.u32) (Zg rfl rfl rfl (Zv ((OV.neq rfl rfl).cast (u := .bool false) (by rw [decide_eq_true (by omega)]; rfl)) (Zv (OV.pickF rfl rfl) (Zm rfl (WL.known (t := 28) (b := false) rfl (by rfl) ?_))))))))))))))))
  refine Zg rfl rfl rfl (Zv (OV.fieldAddr0 (off := 0) rfl T.u34 rfl) (Zg rfl rfl rfl (Zv (OV.loadN (cs := tmC p.b) rfl T.u31 rfl T.z31 (fun _ hw j v hj => by rw [add_off]; exact own_part hw (.tail _ (.head _)) (o := 0) (cs' := tmC p.b) rfl j v hj)) (Zg rfl rfl rfl (WL.call0 (v := .bool true) (vs := [tmV p.b]) (by kernel_rfl) rfl rfl (fun w' hw' => (refVar_calls p.b w').mono (fun en w'' ⟨q1, q2⟩ => ⟨by rw [q1, hv], q2⟩)) ?_)))))
  refine Zg rfl rfl rfl (Zm rfl (WL.known (t := 32) (b := true) rfl (by rfl) ?_))
  refine Zg rfl rfl rfl (Zv (OV.fieldAddr0 (off := 0) rfl T.u34 rfl) (Zg rfl rfl rfl (Zv (OV.fieldAddr0 (off := 0) rfl T.u31 rfl) (Zg rfl rfl rfl (Zv (OV.load1 (v := .int .i64 x.b.kind) rfl T.u3 rfl (fun _ hw => (cell_at (hw.it _ (.head _)) (o := 0) rfl).1)) (Zg rfl rfl rfl (Zv ((OV.eql rfl rfl).cast (u := .bool true) (by rw [hk]; rfl)) (Zg rfl rfl rfl (Zv (OV.pickT rfl rfl) (Zv (OV.pickF rfl rfl) (Nn (WC.condT (show _ = some (Value.bool true) from by rfl) ?_))))))))))))
  refine Csr (Za rfl (Za rfl (Nn (WC.ret ?_))))
  refine Xr ?_
  exact WX.ret2 rfl rfl rfl rfl (fun w' hw => ⟨none, 0, [], by rw [matchD, decide_eq_false (fun h => h.2.2 ⟨hv, hk⟩), Bool.false_and]; rfl, (Hw.Sat.part (List.Sublist.cons_cons _ (List.nil_sublist _)) (hw.rowNil 103 4)).turned0⟩)

set_option maxHeartbeats 2000000 in
theorem rmatch_b (p x : At) (ss : List Bd) (a1 a2 a3 : Option Addr) (c1 c2 c3 : Nat) (hp : AtS p) (hx : AtS x) (hs : ss.length ≤ 1048576 ∧ ∀ y ∈ ss, y.t.s.size ≤ 1099511627776) (w : World) (hr1 : RT w a1 p.args) (hr2 : RT w a2 x.args) (hr3 : RBd w a3 ss) (hn : p.name = x.name) (hl : p.args.length = x.args.length) (hvk : ¬ (varB p.b = true ∧ x.b.kind = 0)) : Calls Tryz.prog 126 #[atV p a1 c1, atV x a2 c2, .slice a3 ss.length c3] w fun e w' => ∃ la lc zs, e = .returned (.tuple #[.slice la zs.length lc, .bool (matchD (sb ss) p x)]) ∧ Turns [] [rowB la lc zs] w w' := by
  refine enterS (args := [atV p a1 c1, atV x a2 c2, .slice a3 ss.length c3]) (fun _ => False) Tryz.func126 rfl Tryz.ntmps126 rfl rfl ?_
  refine Csr (WL.box rfl rfl rfl ?_)
  intro b3
  refine WL.box rfl rfl rfl ?_
  intro b4
  refine Za rfl (Za rfl (Nn (Cs (Csr (Zv (OV.fieldAddr0 (off := 3) rfl T.u34 rfl) (Zv (OV.load1 (v := .string p.name) rfl T.u9 rfl (fun _ hw => (cell_at (hw.it _ (.tail _ (.head _))) (o := 3) rfl).1)) (Zv (OV.fieldAddr0 (off := 3) rfl T.u34 rfl) (Zv (OV.load1 (v := .string x.name) rfl T.u9 rfl (fun _ hw => (cell_at (hw.it _ (.head _)) (o := 3) rfl).1)) (Zv ((OV.neqS rfl rfl).cast (u := .bool false) (by simp [hn])) (Zm rfl (WL.known (t := 19) (b := false) rfl (by rfl) ?_)))))))))))
  refine Zg rfl rfl rfl (Zv (OV.fieldAddr0 (off := 4) rfl T.u34 rfl) (Zg rfl rfl rfl (Zv (OV.load1 (v := .slice a1 p.args.length c1) rfl T.u32 rfl (fun _ hw => (cell_at (hw.it _ (.tail _ (.head _))) (o := 4) rfl).1)) (Zg rfl rfl rfl (Zv (OV.lenSlice rfl T.u32) (Zg rfl rfl rfl (Zv (OV.fieldAddr0 (off := 4) rfl T.u34 rfl) (Zg rfl rfl rfl (Zv (OV.load1 (v := .slice a2 x.args.length c2) rfl T.u32 rfl (fun _ hw => (cell_at (hw.it _ (.head _)) (o := 4) rfl).1)) (Zg rfl rfl rfl (Zv (OV.lenSlice rfl T.u32) (Zg rfl rfl rfl (Zv ((OV.neq rfl rfl).cast (u := .bool false) (by rw [decide_eq_true (by omega)]; rfl)) (Zv (OV.pickF rfl rfl) (Zm rfl (WL.known (t := 28) (b := false) rfl (by rfl) ?_))))))))))))))))
  refine Zg rfl rfl rfl (Zv (OV.fieldAddr0 (off := 0) rfl T.u34 rfl) (Zg rfl rfl rfl (Zv (OV.loadN (cs := tmC p.b) rfl T.u31 rfl T.z31 (fun _ hw j v hj => by rw [add_off]; exact own_part hw (.tail _ (.head _)) (o := 0) (cs' := tmC p.b) rfl j v hj)) (Zg rfl rfl rfl (WL.call0 (v := .bool (varB p.b)) (by kernel_rfl) rfl rfl (fun w' hw' => refVar_calls p.b w') ?_)))))
  refine Zg rfl rfl rfl (Zm rfl ?_)
  refine Zp (t := 32) rfl (fun g32 => ?_) (fun g32 => ?_)
  · refine Zg rfl rfl rfl (Zv (OV.fieldAddr0 (off := 0) rfl T.u34 rfl) (Zg rfl rfl rfl (Zv (OV.fieldAddr0 (off := 0) rfl T.u31 rfl) (Zg rfl rfl rfl (Zv (OV.load1 (v := .int .i64 x.b.kind) rfl T.u3 rfl (fun _ hw => (cell_at (hw.it _ (.head _)) (o := 0) rfl).1)) (Zg rfl rfl rfl (Zv ((OV.eql rfl rfl).cast (u := .bool false) (by rw [decide_eq_false (fun hk => hvk ⟨by simpa using g32, hk⟩)])) (Zg rfl rfl rfl (Zv (OV.pickT rfl rfl) (Zv (OV.pickF rfl rfl) (Nn (WC.condF (show _ = some (Value.bool false) from by rfl) ?_))))))))))))
    refine Ck (Xn (Csr (Za rfl (Nn (Csr (Zm rfl (Zm rfl (WL.weak (S' := Sat0 w (row 103 4 none 0 0 [] :: own b4 (.cells (atC x a2 c2).toArray 34 (0, 0)) :: own b3 (.cells (atC p a1 c1).toArray 34 (0, 0)) :: [])) (fun w' hw => hw.rowNil 103 4) ?_))))))))
    refine WL.append (news := ss.flatMap bdC) rfl rfl T.apBd (fun _ _ => Src.of_rbd hr3.nil (fun _ hw => hr3.keeps hw.keeps)) (bds_one _) ⟨by omega, by unfold maxLen; omega⟩ rfl ?_
    intro a41 c41
    simp only [Nat.zero_add, List.nil_append]
    refine Za rfl (Nn (Csr (Zv (OV.loadN (cs := atC p a1 c1) rfl T.u34 rfl T.z34 (fun _ hw j v hj => by rw [add_off, Nat.zero_add]; exact own_cells hw (.tail _ (.tail _ (.head _))) j v hj)) (WL.callTA (ι := Nat × Nat) (vs := [atV p a1 c1]) (vv := fun q => .slice (some ⟨q.1, 0, none⟩) (plc p).length q.2) (pp := fun _ => True) [] (AA := fun q => [rowT (some ⟨q.1, 0, none⟩) q.2 (plc p)]) rfl (by kernel_rfl) rfl rfl (fun w' hw' _ => (refPlaces_calls p a1 c1 (by have := hp.len; omega) w' (hr1.keeps hw'.keeps)).mono (fun en w'' ⟨b, lc, q1, q2⟩ => ⟨(b, lc), q1, trivial, q2⟩)) ?_))))
    rintro ⟨qp, pc⟩ _
    refine Za rfl (Nn (Csr (Zv (OV.loadN (cs := atC x a2 c2) rfl T.u34 rfl T.z34 (fun _ hw j v hj => by rw [add_off, Nat.zero_add]; exact own_cells hw (.tail _ (.tail _ (.head _))) j v hj)) (WL.callTA (ι := Nat × Nat) (vs := [atV x a2 c2]) (vv := fun q => .slice (some ⟨q.1, 0, none⟩) (plc x).length q.2) (pp := fun _ => True) [] (AA := fun q => [rowT (some ⟨q.1, 0, none⟩) q.2 (plc x)]) rfl (by kernel_rfl) rfl rfl (fun w' hw' _ => (refPlaces_calls x a2 c2 (by have := hx.len; omega) w' (hr2.keeps hw'.keeps)).mono (fun en w'' ⟨b, lc, q1, q2⟩ => ⟨(b, lc), q1, trivial, q2⟩)) ?_))))
    rintro ⟨qx, xc⟩ _
    refine Za rfl (Nn (Cs (Csr (Za rfl (Nn (Cb ?_))))))
    have hnp : (plc p).length = p.args.length + 1 := rfl
    have hnx : (plc x).length = x.args.length + 1 := rfl
    have hpl := hp.len
    have hsl := hs.1
    refine WC.focus (ow' := rowB a41 c41 ss :: rowT (some ⟨qx, 0, none⟩) xc (plc x) :: rowT (some ⟨qp, 0, none⟩) pc (plc p) :: own b4 (.cells (atC x a2 c2).toArray 34 (0, 0)) :: own b3 (.cells (atC p a1 c1).toArray 34 (0, 0)) :: []) (perm_pick [_, _, _, _, _] [2, 0, 1, 3, 4] (by decide) rfl) ?_
    refine WC.loop4 (fun (i : Nat) (la : Option Addr) (lc : Nat) (bs : List Bd) => [(3, .pointer (some ⟨b3, 0, none⟩)), (4, .pointer (some ⟨b4, 0, none⟩)), (8, .slice la bs.length lc), (9, .slice (some ⟨qp, 0, none⟩) (plc p).length pc), (10, .slice (some ⟨qx, 0, none⟩) (plc x).length xc), (11, .int .i64 (i : Int))])
        (fun i la lc bs w' => (i ≤ (plc p).length ∧ bs.length ≤ ss.length + i ∧ (bindD (sb ss) (plc p) (plc x)) = bindD (sb bs) ((plc p).drop i) ((plc x).drop i)) ∧ Sat0 w (rowB la lc bs :: rowT (some ⟨qx, 0, none⟩) xc (plc x) :: rowT (some ⟨qp, 0, none⟩) pc (plc p) :: own b4 (.cells (atC x a2 c2).toArray 34 (0, 0)) :: own b3 (.cells (atC p a1 c1).toArray 34 (0, 0)) :: []) w')
        (fun i _ _ _ => (plc p).length - i) 0 a41 c41 ss ⟨rfl, rfl, rfl, rfl, rfl, rfl, trivial⟩ (fun w' hw => ⟨⟨by omega, by omega, rfl⟩, hw⟩) ?_
    intro i la lc bs
    refine WC.pure (fun hi => ?_)
    obtain ⟨hi, hll, hgo⟩ := hi
    refine Cs (Csr (Zm rfl (Zm rfl (Zv (OV.lenSlice rfl T.u32) (Zv (OV.lss rfl rfl) (Nn ?_))))))
    refine Cc rfl (fun c49 => ?_) (fun c49 => ?_)
    · refine Ck (Xn (Cs (Cb (Csr (Zm rfl (Zm rfl (Zm rfl ?_)))))))
      obtain ⟨t, htp⟩ : ∃ t, (plc p)[i]? = some t := ⟨_, List.getElem?_eq_getElem (by omega)⟩
      obtain ⟨u, htx⟩ : ∃ u, (plc x)[i]? = some u := ⟨_, List.getElem?_eq_getElem (by omega)⟩
      have hstep := bindD_drop (m := sb bs) htp htx
      refine Zv ((OV.indexSlice rfl rfl T.u32 T.z31 (by omega)).cast (u := .pointer (some ((⟨qp, 0, none⟩ : Addr).add (i * 3)))) (by rw [Int.toNat_natCast])) (Zv ((OV.fieldAddrA (off := 1) rfl T.u31 rfl).cast (u := .pointer (some (((⟨qp, 0, none⟩ : Addr).add (i * 3)).add 1))) rfl) (Zv (OV.load1 (v := .int .i64 t.n) rfl T.u3 rfl (fun _ hw => by have h := row_cellsφE rfl (hw.it (rowT (some ⟨qp, 0, none⟩) pc (plc p)) (by simp)) (i * 3 + 1) (.int .i64 t.n) (by rw [flat_get tmC_len _ i 1 t htp (by omega)]; rfl); rwa [add_add] at h)) (WL.call0 (v := .tuple #[tmV ((gotT (sb bs) t.n).getD T0), .bool (gotT (sb bs) t.n).isSome]) (by kernel_rfl) rfl rfl (fun w' hw' => look_calls bs t.n la lc (by omega) w' (RBd.of_row (c := lc) hw' (by simp))) ?_)))
      refine Zm rfl (Zv (OV.extract rfl rfl) (Zv (OV.extract rfl rfl) (WL.alloc T.zr31 rfl ?_)))
      intro b12
      refine WL.storeAll (vs := tmC ((gotT (sb bs) t.n).getD T0)) rfl rfl rfl T.z31 rfl ?_
      refine Za rfl (Nn (Csr (Zm rfl (Zm rfl (Zv ((OV.indexSlice rfl rfl T.u32 T.z31 (by omega)).cast (u := .pointer (some ((⟨qp, 0, none⟩ : Addr).add (i * 3)))) (by rw [Int.toNat_natCast])) ?_)))))
      refine WL.val (OV.loadN (cs := tmC t) rfl T.u31 rfl T.z31 (fun _ hw j v hj => by have hj3 : j < 3 := (List.getElem?_eq_some_iff.1 hj).1; have h := row_cellsφE rfl (hw.it (rowT (some ⟨qp, 0, none⟩) pc (plc p)) (by simp)) (i * 3 + j) v (by rw [flat_get tmC_len _ i j t htp (by omega)]; exact hj); rwa [add_add] at h)) rfl ?_
      refine WL.call0 (v := .bool (varB t)) (by kernel_rfl) rfl rfl (fun w' hw' => refVar_calls t w') ?_
      refine Zm rfl ?_
      refine Zp (t := 67) rfl (fun g67 => ?_) (fun g67 => ?_)
      · refine Zg rfl rfl rfl (Zm rfl (Zg rfl rfl rfl (Zv (OV.not rfl) (Zv (OV.pickT rfl rfl) (Nn ?_)))))
        refine Cc rfl (fun c70 => ?_) (fun c70 => ?_)
        · refine Hd (fun w' => (rowT (some ⟨qp, 0, none⟩) pc (plc p)).φ w' ∧ (rowT (some ⟨qx, 0, none⟩) xc (plc x)).φ w') [] (fun _ hw => ⟨hw.it (rowT (some ⟨qp, 0, none⟩) pc (plc p)) (by simp), hw.it (rowT (some ⟨qx, 0, none⟩) xc (plc x)) (by simp)⟩) (m := 14) rfl ?_
          refine Hf 0 rfl (OV.move rfl) (Hf 1 rfl (OV.move rfl) (Hf 2 rfl (OV.move rfl) (Hf 3 rfl ((OV.indexSlice rfl rfl T.u32 T.z31 (by omega)).cast (u := .pointer (some ((⟨qp, 0, none⟩ : Addr).add (i * 3)))) (by rw [Int.toNat_natCast])) (Hf 4 rfl ((OV.fieldAddrA (off := 1) rfl T.u31 rfl).cast (u := .pointer (some (((⟨qp, 0, none⟩ : Addr).add (i * 3)).add 1))) rfl) (Ht 5 rfl (OV.load1 (v := .int .i64 t.n) rfl T.u3 rfl (fun _ hw => by have h := row_cellsφE rfl hw.1 (i * 3 + 1) (.int .i64 t.n) (by rw [flat_get tmC_len _ i 1 t htp (by omega)]; rfl); rwa [add_add] at h)) (Hf 6 rfl (OV.move rfl) (Hf 7 rfl (OV.move rfl) (Hf 8 rfl ((OV.indexSlice rfl rfl T.u32 T.z31 (by omega)).cast (u := .pointer (some ((⟨qx, 0, none⟩ : Addr).add (i * 3)))) (by rw [Int.toNat_natCast])) ?_))))))))
          refine Ht 9 rfl (OV.loadN (cs := tmC u) rfl T.u31 rfl T.z31 (fun _ hw j v hj => by have hj3 : j < 3 := (List.getElem?_eq_some_iff.1 hj).1; have h := row_cellsφE rfl hw.2 (i * 3 + j) v (by rw [flat_get tmC_len _ i j u htx (by omega)]; exact hj); rwa [add_add] at h)) ?_
          refine Hf 10 rfl (OV.buildStruct (xs := [(0, .tmp 76), (1, .tmp 80)]) (pl := [(0, 1), (1, 3)]) (cs := bdC (⟨t.n, u⟩ : Bd)) T.u103 T.zr103 (by kernel_rfl) rfl (fill_cons (us := [_]) rfl rfl (Nat.le_of_ble_eq_true rfl) (fill_cons (us := tmC u) rfl rfl (Nat.le_of_ble_eq_true rfl) rfl))) (Ho 11 rfl (fl' := false) rfl ?_)
          refine WL.buildSliceA (cs := bdC (⟨t.n, u⟩ : Bd)) T.u48 T.z103 T.zr103 rfl rfl (by omega) (by omega) rfl ?_
          intro b82
          refine Hc (fun _ => (fun _ hw => ⟨hw.it (rowT (some ⟨qp, 0, none⟩) pc (plc p)) (by simp), hw.it (rowT (some ⟨qx, 0, none⟩) xc (plc x)) (by simp)⟩)) ?_
          refine Ho 12 rfl (fl' := false) rfl ?_
          refine WL.focus (ow' := rowB la lc bs :: own b82 (.cells (bdC (⟨t.n, u⟩ : Bd)).toArray 103 (0, 0)) :: own b12 (.cells (tmC ((gotT (sb bs) t.n).getD T0)).toArray 31 (0, 0)) :: rowT (some ⟨qx, 0, none⟩) xc (plc x) :: rowT (some ⟨qp, 0, none⟩) pc (plc p) :: own b4 (.cells (atC x a2 c2).toArray 34 (0, 0)) :: own b3 (.cells (atC p a1 c1).toArray 34 (0, 0)) :: []) (perm_pick [_, _, _, _, _, _, _] [2, 0, 1, 3, 4, 5, 6] (by decide) rfl) ?_
          refine WL.append (news := bdC (⟨t.n, u⟩ : Bd)) rfl rfl T.apBd (fun _ _ => own_srcN (.tail _ (.head _)) rfl) (bdC_one _) ⟨by omega, by unfold maxLen; omega⟩ rfl ?_
          intro a83 c83
          refine Hc (fun _ => (fun _ hw => ⟨hw.it (rowT (some ⟨qp, 0, none⟩) pc (plc p)) (by simp), hw.it (rowT (some ⟨qx, 0, none⟩) xc (plc x)) (by simp)⟩)) ?_
          refine Hf 13 rfl (OV.assign rfl) (He (Xb (Xn (Cr (Zm rfl (Zv (OV.addN (j := 1) rfl rfl (by omega)) (Za rfl (Nl ?_))))))))
          have hv : varB t = true ∧ (gotT (sb bs) t.n).isSome = false := ⟨by simpa using g67, by simpa using c70⟩
          have el : bs.length + 1 = (bs ++ [(⟨t.n, u⟩ : Bd)]).length := by simp
          have ef : bs.flatMap bdC ++ bdC (⟨t.n, u⟩ : Bd) = (bs ++ [(⟨t.n, u⟩ : Bd)]).flatMap bdC := by simp
          exact WX.round4 (i + 1) a83 c83 (bs ++ [(⟨t.n, u⟩ : Bd)]) ⟨rfl, rfl, by rw [← el]; rfl, rfl, rfl, rfl, trivial⟩ (fun w' hw => ⟨⟨by omega, by simp; omega, by rw [hgo, hstep, if_pos hv]; simp [sb]⟩, by
            rw [el, ef] at hw
            exact hw.pick [[rowB a83 c83 (bs ++ [(⟨t.n, u⟩ : Bd)])], [own b82 (.cells (bdC (⟨t.n, u⟩ : Bd)).toArray 103 (0, 0))], [own b12 (.cells (tmC ((gotT (sb bs) t.n).getD T0)).toArray 31 (0, 0))], [rowT (some ⟨qx, 0, none⟩) xc (plc x)], [rowT (some ⟨qp, 0, none⟩) pc (plc p)], [own b4 (.cells (atC x a2 c2).toArray 34 (0, 0))], [own b3 (.cells (atC p a1 c1).toArray 34 (0, 0))]] [0, 3, 4, 5, 6] 7 rfl (by decide) (by decide)⟩) (by show (plc p).length - (i + 1) < (plc p).length - i; omega)
        refine Ck (Xb (Xn (Cr (Zm rfl (Zv (OV.addN (j := 1) rfl rfl (by omega)) (Za rfl (Nl ?_)))))))
        exact WX.round4 (i + 1) la lc bs ⟨rfl, rfl, rfl, rfl, rfl, rfl, trivial⟩ (fun w' hw => ⟨⟨by omega, by omega, by rw [hgo, hstep, if_neg (fun h => by rw [h.2] at c70; cases c70)]⟩, hw.drop⟩) (by show (plc p).length - (i + 1) < (plc p).length - i; omega)
      refine Zs rfl rfl rfl (Zs rfl rfl rfl (Zv (OV.pickF rfl rfl) (Nn (WC.condF rfl ?_))))
      refine Ck (Xb (Xn (Cr (Zm rfl (Zv (OV.addN (j := 1) rfl rfl (by omega)) (Za rfl (Nl ?_)))))))
      exact WX.round4 (i + 1) la lc bs ⟨rfl, rfl, rfl, rfl, rfl, rfl, trivial⟩ (fun w' hw => ⟨⟨by omega, by omega, by rw [hgo, hstep, if_neg (fun h => by rw [h.1] at g67; cases g67)]⟩, hw.drop⟩) (by show (plc p).length - (i + 1) < (plc p).length - i; omega)
    refine Ce (Xe (Xe (Xh (Xn (Cs (Cs (Hd (fun w' => w'.heap[b3]? = some (.cells (atC p a1 c1).toArray 34 (0, 0)) ∧ w'.heap[b4]? = some (.cells (atC x a2 c2).toArray 34 (0, 0))) [] (fun _ hw => ⟨hw.it (own b3 (.cells (atC p a1 c1).toArray 34 (0, 0))) (by simp), hw.it (own b4 (.cells (atC x a2 c2).toArray 34 (0, 0))) (by simp)⟩) (m := 6) rfl ?_)))))))
    refine Hf 0 rfl (OV.move rfl) (Ht 1 rfl (OV.loadN (cs := atC p a1 c1) rfl T.u34 rfl T.z34 (fun _ hw j v hj => by rw [add_off]; exact heap_part hw.1 (o := 0) (cs' := atC p a1 c1) rfl j v hj)) (Ht 3 rfl (OV.loadN (cs := atC x a2 c2) rfl T.u34 rfl T.z34 (fun _ hw j v hj => by rw [add_off]; exact heap_part hw.2 (o := 0) (cs' := atC x a2 c2) rfl j v hj)) (Ho 2 rfl (fl' := false) rfl ?_)))
    have hbe : sb bs = (bindD (sb ss) (plc p) (plc x)) := by rw [hgo, List.drop_eq_nil_of_le (by omega)]; rfl
    have hsm : ∀ q ∈ sb bs, q.2.s.size ≤ 1099511627776 := fun q hq => by
      rw [hbe] at hq
      rcases bindD_mem _ _ _ q hq with h | h
      · exact sb_small hs.2 q h
      · exact hx.plc _ h
    refine WL.callTA (ι := Option Addr × Nat) (vs := [.slice la bs.length lc, atV p a1 c1]) (vv := fun q => atV (appD (sb bs) p) q.1 q.2) (pp := fun _ => True) [] (AA := fun q => [rowT q.1 q.2 (appD (sb bs) p).args]) rfl (by kernel_rfl) rfl rfl (fun w' hw' _ => (apply_calls bs p la a1 lc c1 (by omega) (by have := hp.len; omega) w' (RBd.of_row (c := lc) hw' (by simp)) (hr1.keeps hw'.keeps)).mono (fun en w'' ⟨q, q1, q2⟩ => ⟨q, q1, trivial, q2⟩)) ?_
    rintro ⟨za, zc⟩ _
    refine Hc (fun _ => (fun _ hw => ⟨hw.it (own b3 (.cells (atC p a1 c1).toArray 34 (0, 0))) (by simp), hw.it (own b4 (.cells (atC x a2 c2).toArray 34 (0, 0))) (by simp)⟩)) ?_
    refine Ho 4 rfl (fl' := false) rfl ?_
    refine WL.call0 (v := .bool (decide (appD (sb bs) p = x))) (vs := [atV (appD (sb bs) p) za zc, atV x a2 c2]) (by kernel_rfl) rfl rfl (fun w' hw' => refSame_calls (appD (sb bs) p) x za a2 zc c2 (hp.app hsm) hx w' (RT.of_row (c := zc) rfl hw' (.head _)) (hr2.keeps hw'.keeps)) ?_
    refine Hc (fun _ => (fun _ hw => ⟨hw.it (own b3 (.cells (atC p a1 c1).toArray 34 (0, 0))) (by simp), hw.it (own b4 (.cells (atC x a2 c2).toArray 34 (0, 0))) (by simp)⟩)) ?_
    refine Hf 5 rfl (OV.not rfl) (He (Xn ?_))
    refine Cc rfl (fun c89 => ?_) (fun c89 => ?_)
    · refine Csr (Za rfl (Za rfl (Nn (WC.ret ?_))))
      refine Xr ?_
      exact WX.ret2 rfl rfl rfl rfl (fun w' hw => ⟨none, 0, [], by rw [matchD, ← hbe, decide_eq_false (show ¬ appD (sb bs) p = x by simpa using c89), Bool.and_false]; rfl, (Hw.Sat.part (List.Sublist.cons_cons _ (List.nil_sublist _)) (hw.rowNil 103 4)).turned0⟩)
    refine Ck (Xn (Csr (Zm rfl (WL.callTA (ι := Option Addr × Nat × List Bd) (vs := [.slice la bs.length lc]) (vv := fun q => .slice q.1 q.2.2.length q.2.1) (pp := fun _ => True) [] (AA := fun q => [rowB q.1 q.2.1 q.2.2]) rfl (by kernel_rfl) rfl rfl (fun w' hw' _ => (settled_calls bs la lc (by omega) w' (RBd.of_row (c := lc) hw' (by simp))).mono (fun en w'' ⟨qa, qc, zs, q1, q2⟩ => ⟨(qa, qc, zs), q1, trivial, q2⟩)) ?_))))
    rintro ⟨za2, zc2, zs⟩ _
    refine Za rfl (Za rfl (Nn (WC.ret ?_)))
    exact WX.ret2 rfl rfl rfl rfl (fun w' hw => ⟨za2, zc2, zs, by rw [matchD, ← hbe, decide_eq_true ⟨hn, hl, hvk⟩, Bool.true_and]; congr 3; simpa using c89, (Hw.Sat.part (List.Sublist.cons_cons _ (List.nil_sublist _)) hw).turned0⟩)
  refine Zs rfl rfl rfl (Zs rfl rfl rfl (Zs rfl rfl rfl (Zs rfl rfl rfl (Zg rfl rfl rfl (Zv (OV.pickF rfl rfl) (Zv (OV.pickF rfl rfl) (Nn (WC.condF (show _ = some (Value.bool false) from by rfl) ?_))))))))
  refine Ck (Xn (Csr (Za rfl (Nn (Csr (Zm rfl (Zm rfl (WL.weak (S' := Sat0 w (row 103 4 none 0 0 [] :: own b4 (.cells (atC x a2 c2).toArray 34 (0, 0)) :: own b3 (.cells (atC p a1 c1).toArray 34 (0, 0)) :: [])) (fun w' hw => hw.rowNil 103 4) ?_))))))))
  refine WL.append (news := ss.flatMap bdC) rfl rfl T.apBd (fun _ _ => Src.of_rbd hr3.nil (fun _ hw => hr3.keeps hw.keeps)) (bds_one _) ⟨by omega, by unfold maxLen; omega⟩ rfl ?_
  intro a41 c41
  simp only [Nat.zero_add, List.nil_append]
  refine Za rfl (Nn (Csr (Zv (OV.loadN (cs := atC p a1 c1) rfl T.u34 rfl T.z34 (fun _ hw j v hj => by rw [add_off, Nat.zero_add]; exact own_cells hw (.tail _ (.tail _ (.head _))) j v hj)) (WL.callTA (ι := Nat × Nat) (vs := [atV p a1 c1]) (vv := fun q => .slice (some ⟨q.1, 0, none⟩) (plc p).length q.2) (pp := fun _ => True) [] (AA := fun q => [rowT (some ⟨q.1, 0, none⟩) q.2 (plc p)]) rfl (by kernel_rfl) rfl rfl (fun w' hw' _ => (refPlaces_calls p a1 c1 (by have := hp.len; omega) w' (hr1.keeps hw'.keeps)).mono (fun en w'' ⟨b, lc, q1, q2⟩ => ⟨(b, lc), q1, trivial, q2⟩)) ?_))))
  rintro ⟨qp, pc⟩ _
  refine Za rfl (Nn (Csr (Zv (OV.loadN (cs := atC x a2 c2) rfl T.u34 rfl T.z34 (fun _ hw j v hj => by rw [add_off, Nat.zero_add]; exact own_cells hw (.tail _ (.tail _ (.head _))) j v hj)) (WL.callTA (ι := Nat × Nat) (vs := [atV x a2 c2]) (vv := fun q => .slice (some ⟨q.1, 0, none⟩) (plc x).length q.2) (pp := fun _ => True) [] (AA := fun q => [rowT (some ⟨q.1, 0, none⟩) q.2 (plc x)]) rfl (by kernel_rfl) rfl rfl (fun w' hw' _ => (refPlaces_calls x a2 c2 (by have := hx.len; omega) w' (hr2.keeps hw'.keeps)).mono (fun en w'' ⟨b, lc, q1, q2⟩ => ⟨(b, lc), q1, trivial, q2⟩)) ?_))))
  rintro ⟨qx, xc⟩ _
  refine Za rfl (Nn (Cs (Csr (Za rfl (Nn (Cb ?_))))))
  have hnp : (plc p).length = p.args.length + 1 := rfl
  have hnx : (plc x).length = x.args.length + 1 := rfl
  have hpl := hp.len
  have hsl := hs.1
  refine WC.focus (ow' := rowB a41 c41 ss :: rowT (some ⟨qx, 0, none⟩) xc (plc x) :: rowT (some ⟨qp, 0, none⟩) pc (plc p) :: own b4 (.cells (atC x a2 c2).toArray 34 (0, 0)) :: own b3 (.cells (atC p a1 c1).toArray 34 (0, 0)) :: []) (perm_pick [_, _, _, _, _] [2, 0, 1, 3, 4] (by decide) rfl) ?_
  refine WC.loop4 (fun (i : Nat) (la : Option Addr) (lc : Nat) (bs : List Bd) => [(3, .pointer (some ⟨b3, 0, none⟩)), (4, .pointer (some ⟨b4, 0, none⟩)), (8, .slice la bs.length lc), (9, .slice (some ⟨qp, 0, none⟩) (plc p).length pc), (10, .slice (some ⟨qx, 0, none⟩) (plc x).length xc), (11, .int .i64 (i : Int))])
      (fun i la lc bs w' => (i ≤ (plc p).length ∧ bs.length ≤ ss.length + i ∧ (bindD (sb ss) (plc p) (plc x)) = bindD (sb bs) ((plc p).drop i) ((plc x).drop i)) ∧ Sat0 w (rowB la lc bs :: rowT (some ⟨qx, 0, none⟩) xc (plc x) :: rowT (some ⟨qp, 0, none⟩) pc (plc p) :: own b4 (.cells (atC x a2 c2).toArray 34 (0, 0)) :: own b3 (.cells (atC p a1 c1).toArray 34 (0, 0)) :: []) w')
      (fun i _ _ _ => (plc p).length - i) 0 a41 c41 ss ⟨rfl, rfl, rfl, rfl, rfl, rfl, trivial⟩ (fun w' hw => ⟨⟨by omega, by omega, rfl⟩, hw⟩) ?_
  intro i la lc bs
  refine WC.pure (fun hi => ?_)
  obtain ⟨hi, hll, hgo⟩ := hi
  refine Cs (Csr (Zm rfl (Zm rfl (Zv (OV.lenSlice rfl T.u32) (Zv (OV.lss rfl rfl) (Nn ?_))))))
  refine Cc rfl (fun c49 => ?_) (fun c49 => ?_)
  · refine Ck (Xn (Cs (Cb (Csr (Zm rfl (Zm rfl (Zm rfl ?_)))))))
    obtain ⟨t, htp⟩ : ∃ t, (plc p)[i]? = some t := ⟨_, List.getElem?_eq_getElem (by omega)⟩
    obtain ⟨u, htx⟩ : ∃ u, (plc x)[i]? = some u := ⟨_, List.getElem?_eq_getElem (by omega)⟩
    have hstep := bindD_drop (m := sb bs) htp htx
    refine Zv ((OV.indexSlice rfl rfl T.u32 T.z31 (by omega)).cast (u := .pointer (some ((⟨qp, 0, none⟩ : Addr).add (i * 3)))) (by rw [Int.toNat_natCast])) (Zv ((OV.fieldAddrA (off := 1) rfl T.u31 rfl).cast (u := .pointer (some (((⟨qp, 0, none⟩ : Addr).add (i * 3)).add 1))) rfl) (Zv (OV.load1 (v := .int .i64 t.n) rfl T.u3 rfl (fun _ hw => by have h := row_cellsφE rfl (hw.it (rowT (some ⟨qp, 0, none⟩) pc (plc p)) (by simp)) (i * 3 + 1) (.int .i64 t.n) (by rw [flat_get tmC_len _ i 1 t htp (by omega)]; rfl); rwa [add_add] at h)) (WL.call0 (v := .tuple #[tmV ((gotT (sb bs) t.n).getD T0), .bool (gotT (sb bs) t.n).isSome]) (by kernel_rfl) rfl rfl (fun w' hw' => look_calls bs t.n la lc (by omega) w' (RBd.of_row (c := lc) hw' (by simp))) ?_)))
    refine Zm rfl (Zv (OV.extract rfl rfl) (Zv (OV.extract rfl rfl) (WL.alloc T.zr31 rfl ?_)))
    intro b12
    refine WL.storeAll (vs := tmC ((gotT (sb bs) t.n).getD T0)) rfl rfl rfl T.z31 rfl ?_
    refine Za rfl (Nn (Csr (Zm rfl (Zm rfl (Zv ((OV.indexSlice rfl rfl T.u32 T.z31 (by omega)).cast (u := .pointer (some ((⟨qp, 0, none⟩ : Addr).add (i * 3)))) (by rw [Int.toNat_natCast])) ?_)))))
    refine WL.val (OV.loadN (cs := tmC t) rfl T.u31 rfl T.z31 (fun _ hw j v hj => by have hj3 : j < 3 := (List.getElem?_eq_some_iff.1 hj).1; have h := row_cellsφE rfl (hw.it (rowT (some ⟨qp, 0, none⟩) pc (plc p)) (by simp)) (i * 3 + j) v (by rw [flat_get tmC_len _ i j t htp (by omega)]; exact hj); rwa [add_add] at h)) rfl ?_
    refine WL.call0 (v := .bool (varB t)) (by kernel_rfl) rfl rfl (fun w' hw' => refVar_calls t w') ?_
    refine Zm rfl ?_
    refine Zp (t := 67) rfl (fun g67 => ?_) (fun g67 => ?_)
    · refine Zg rfl rfl rfl (Zm rfl (Zg rfl rfl rfl (Zv (OV.not rfl) (Zv (OV.pickT rfl rfl) (Nn ?_)))))
      refine Cc rfl (fun c70 => ?_) (fun c70 => ?_)
      · refine Hd (fun w' => (rowT (some ⟨qp, 0, none⟩) pc (plc p)).φ w' ∧ (rowT (some ⟨qx, 0, none⟩) xc (plc x)).φ w') [] (fun _ hw => ⟨hw.it (rowT (some ⟨qp, 0, none⟩) pc (plc p)) (by simp), hw.it (rowT (some ⟨qx, 0, none⟩) xc (plc x)) (by simp)⟩) (m := 14) rfl ?_
        refine Hf 0 rfl (OV.move rfl) (Hf 1 rfl (OV.move rfl) (Hf 2 rfl (OV.move rfl) (Hf 3 rfl ((OV.indexSlice rfl rfl T.u32 T.z31 (by omega)).cast (u := .pointer (some ((⟨qp, 0, none⟩ : Addr).add (i * 3)))) (by rw [Int.toNat_natCast])) (Hf 4 rfl ((OV.fieldAddrA (off := 1) rfl T.u31 rfl).cast (u := .pointer (some (((⟨qp, 0, none⟩ : Addr).add (i * 3)).add 1))) rfl) (Ht 5 rfl (OV.load1 (v := .int .i64 t.n) rfl T.u3 rfl (fun _ hw => by have h := row_cellsφE rfl hw.1 (i * 3 + 1) (.int .i64 t.n) (by rw [flat_get tmC_len _ i 1 t htp (by omega)]; rfl); rwa [add_add] at h)) (Hf 6 rfl (OV.move rfl) (Hf 7 rfl (OV.move rfl) (Hf 8 rfl ((OV.indexSlice rfl rfl T.u32 T.z31 (by omega)).cast (u := .pointer (some ((⟨qx, 0, none⟩ : Addr).add (i * 3)))) (by rw [Int.toNat_natCast])) ?_))))))))
        refine Ht 9 rfl (OV.loadN (cs := tmC u) rfl T.u31 rfl T.z31 (fun _ hw j v hj => by have hj3 : j < 3 := (List.getElem?_eq_some_iff.1 hj).1; have h := row_cellsφE rfl hw.2 (i * 3 + j) v (by rw [flat_get tmC_len _ i j u htx (by omega)]; exact hj); rwa [add_add] at h)) ?_
        refine Hf 10 rfl (OV.buildStruct (xs := [(0, .tmp 76), (1, .tmp 80)]) (pl := [(0, 1), (1, 3)]) (cs := bdC (⟨t.n, u⟩ : Bd)) T.u103 T.zr103 (by kernel_rfl) rfl (fill_cons (us := [_]) rfl rfl (Nat.le_of_ble_eq_true rfl) (fill_cons (us := tmC u) rfl rfl (Nat.le_of_ble_eq_true rfl) rfl))) (Ho 11 rfl (fl' := false) rfl ?_)
        refine WL.buildSliceA (cs := bdC (⟨t.n, u⟩ : Bd)) T.u48 T.z103 T.zr103 rfl rfl (by omega) (by omega) rfl ?_
        intro b82
        refine Hc (fun _ => (fun _ hw => ⟨hw.it (rowT (some ⟨qp, 0, none⟩) pc (plc p)) (by simp), hw.it (rowT (some ⟨qx, 0, none⟩) xc (plc x)) (by simp)⟩)) ?_
        refine Ho 12 rfl (fl' := false) rfl ?_
        refine WL.focus (ow' := rowB la lc bs :: own b82 (.cells (bdC (⟨t.n, u⟩ : Bd)).toArray 103 (0, 0)) :: own b12 (.cells (tmC ((gotT (sb bs) t.n).getD T0)).toArray 31 (0, 0)) :: rowT (some ⟨qx, 0, none⟩) xc (plc x) :: rowT (some ⟨qp, 0, none⟩) pc (plc p) :: own b4 (.cells (atC x a2 c2).toArray 34 (0, 0)) :: own b3 (.cells (atC p a1 c1).toArray 34 (0, 0)) :: []) (perm_pick [_, _, _, _, _, _, _] [2, 0, 1, 3, 4, 5, 6] (by decide) rfl) ?_
        refine WL.append (news := bdC (⟨t.n, u⟩ : Bd)) rfl rfl T.apBd (fun _ _ => own_srcN (.tail _ (.head _)) rfl) (bdC_one _) ⟨by omega, by unfold maxLen; omega⟩ rfl ?_
        intro a83 c83
        refine Hc (fun _ => (fun _ hw => ⟨hw.it (rowT (some ⟨qp, 0, none⟩) pc (plc p)) (by simp), hw.it (rowT (some ⟨qx, 0, none⟩) xc (plc x)) (by simp)⟩)) ?_
        refine Hf 13 rfl (OV.assign rfl) (He (Xb (Xn (Cr (Zm rfl (Zv (OV.addN (j := 1) rfl rfl (by omega)) (Za rfl (Nl ?_))))))))
        have hv : varB t = true ∧ (gotT (sb bs) t.n).isSome = false := ⟨by simpa using g67, by simpa using c70⟩
        have el : bs.length + 1 = (bs ++ [(⟨t.n, u⟩ : Bd)]).length := by simp
        have ef : bs.flatMap bdC ++ bdC (⟨t.n, u⟩ : Bd) = (bs ++ [(⟨t.n, u⟩ : Bd)]).flatMap bdC := by simp
        exact WX.round4 (i + 1) a83 c83 (bs ++ [(⟨t.n, u⟩ : Bd)]) ⟨rfl, rfl, by rw [← el]; rfl, rfl, rfl, rfl, trivial⟩ (fun w' hw => ⟨⟨by omega, by simp; omega, by rw [hgo, hstep, if_pos hv]; simp [sb]⟩, by
          rw [el, ef] at hw
          exact hw.pick [[rowB a83 c83 (bs ++ [(⟨t.n, u⟩ : Bd)])], [own b82 (.cells (bdC (⟨t.n, u⟩ : Bd)).toArray 103 (0, 0))], [own b12 (.cells (tmC ((gotT (sb bs) t.n).getD T0)).toArray 31 (0, 0))], [rowT (some ⟨qx, 0, none⟩) xc (plc x)], [rowT (some ⟨qp, 0, none⟩) pc (plc p)], [own b4 (.cells (atC x a2 c2).toArray 34 (0, 0))], [own b3 (.cells (atC p a1 c1).toArray 34 (0, 0))]] [0, 3, 4, 5, 6] 7 rfl (by decide) (by decide)⟩) (by show (plc p).length - (i + 1) < (plc p).length - i; omega)
      refine Ck (Xb (Xn (Cr (Zm rfl (Zv (OV.addN (j := 1) rfl rfl (by omega)) (Za rfl (Nl ?_)))))))
      exact WX.round4 (i + 1) la lc bs ⟨rfl, rfl, rfl, rfl, rfl, rfl, trivial⟩ (fun w' hw => ⟨⟨by omega, by omega, by rw [hgo, hstep, if_neg (fun h => by rw [h.2] at c70; cases c70)]⟩, hw.drop⟩) (by show (plc p).length - (i + 1) < (plc p).length - i; omega)
    refine Zs rfl rfl rfl (Zs rfl rfl rfl (Zv (OV.pickF rfl rfl) (Nn (WC.condF rfl ?_))))
    refine Ck (Xb (Xn (Cr (Zm rfl (Zv (OV.addN (j := 1) rfl rfl (by omega)) (Za rfl (Nl ?_)))))))
    exact WX.round4 (i + 1) la lc bs ⟨rfl, rfl, rfl, rfl, rfl, rfl, trivial⟩ (fun w' hw => ⟨⟨by omega, by omega, by rw [hgo, hstep, if_neg (fun h => by rw [h.1] at g67; cases g67)]⟩, hw.drop⟩) (by show (plc p).length - (i + 1) < (plc p).length - i; omega)
  refine Ce (Xe (Xe (Xh (Xn (Cs (Cs (Hd (fun w' => w'.heap[b3]? = some (.cells (atC p a1 c1).toArray 34 (0, 0)) ∧ w'.heap[b4]? = some (.cells (atC x a2 c2).toArray 34 (0, 0))) [] (fun _ hw => ⟨hw.it (own b3 (.cells (atC p a1 c1).toArray 34 (0, 0))) (by simp), hw.it (own b4 (.cells (atC x a2 c2).toArray 34 (0, 0))) (by simp)⟩) (m := 6) rfl ?_)))))))
  refine Hf 0 rfl (OV.move rfl) (Ht 1 rfl (OV.loadN (cs := atC p a1 c1) rfl T.u34 rfl T.z34 (fun _ hw j v hj => by rw [add_off]; exact heap_part hw.1 (o := 0) (cs' := atC p a1 c1) rfl j v hj)) (Ht 3 rfl (OV.loadN (cs := atC x a2 c2) rfl T.u34 rfl T.z34 (fun _ hw j v hj => by rw [add_off]; exact heap_part hw.2 (o := 0) (cs' := atC x a2 c2) rfl j v hj)) (Ho 2 rfl (fl' := false) rfl ?_)))
  have hbe : sb bs = (bindD (sb ss) (plc p) (plc x)) := by rw [hgo, List.drop_eq_nil_of_le (by omega)]; rfl
  have hsm : ∀ q ∈ sb bs, q.2.s.size ≤ 1099511627776 := fun q hq => by
    rw [hbe] at hq
    rcases bindD_mem _ _ _ q hq with h | h
    · exact sb_small hs.2 q h
    · exact hx.plc _ h
  refine WL.callTA (ι := Option Addr × Nat) (vs := [.slice la bs.length lc, atV p a1 c1]) (vv := fun q => atV (appD (sb bs) p) q.1 q.2) (pp := fun _ => True) [] (AA := fun q => [rowT q.1 q.2 (appD (sb bs) p).args]) rfl (by kernel_rfl) rfl rfl (fun w' hw' _ => (apply_calls bs p la a1 lc c1 (by omega) (by have := hp.len; omega) w' (RBd.of_row (c := lc) hw' (by simp)) (hr1.keeps hw'.keeps)).mono (fun en w'' ⟨q, q1, q2⟩ => ⟨q, q1, trivial, q2⟩)) ?_
  rintro ⟨za, zc⟩ _
  refine Hc (fun _ => (fun _ hw => ⟨hw.it (own b3 (.cells (atC p a1 c1).toArray 34 (0, 0))) (by simp), hw.it (own b4 (.cells (atC x a2 c2).toArray 34 (0, 0))) (by simp)⟩)) ?_
  refine Ho 4 rfl (fl' := false) rfl ?_
  refine WL.call0 (v := .bool (decide (appD (sb bs) p = x))) (vs := [atV (appD (sb bs) p) za zc, atV x a2 c2]) (by kernel_rfl) rfl rfl (fun w' hw' => refSame_calls (appD (sb bs) p) x za a2 zc c2 (hp.app hsm) hx w' (RT.of_row (c := zc) rfl hw' (.head _)) (hr2.keeps hw'.keeps)) ?_
  refine Hc (fun _ => (fun _ hw => ⟨hw.it (own b3 (.cells (atC p a1 c1).toArray 34 (0, 0))) (by simp), hw.it (own b4 (.cells (atC x a2 c2).toArray 34 (0, 0))) (by simp)⟩)) ?_
  refine Hf 5 rfl (OV.not rfl) (He (Xn ?_))
  refine Cc rfl (fun c89 => ?_) (fun c89 => ?_)
  · refine Csr (Za rfl (Za rfl (Nn (WC.ret ?_))))
    refine Xr ?_
    exact WX.ret2 rfl rfl rfl rfl (fun w' hw => ⟨none, 0, [], by rw [matchD, ← hbe, decide_eq_false (show ¬ appD (sb bs) p = x by simpa using c89), Bool.and_false]; rfl, (Hw.Sat.part (List.Sublist.cons_cons _ (List.nil_sublist _)) (hw.rowNil 103 4)).turned0⟩)
  refine Ck (Xn (Csr (Zm rfl (WL.callTA (ι := Option Addr × Nat × List Bd) (vs := [.slice la bs.length lc]) (vv := fun q => .slice q.1 q.2.2.length q.2.1) (pp := fun _ => True) [] (AA := fun q => [rowB q.1 q.2.1 q.2.2]) rfl (by kernel_rfl) rfl rfl (fun w' hw' _ => (settled_calls bs la lc (by omega) w' (RBd.of_row (c := lc) hw' (by simp))).mono (fun en w'' ⟨qa, qc, zs, q1, q2⟩ => ⟨(qa, qc, zs), q1, trivial, q2⟩)) ?_))))
  rintro ⟨za2, zc2, zs⟩ _
  refine Za rfl (Za rfl (Nn (WC.ret ?_)))
  exact WX.ret2 rfl rfl rfl rfl (fun w' hw => ⟨za2, zc2, zs, by rw [matchD, ← hbe, decide_eq_true ⟨hn, hl, hvk⟩, Bool.true_and]; congr 3; simpa using c89, (Hw.Sat.part (List.Sublist.cons_cons _ (List.nil_sublist _)) hw).turned0⟩)

theorem rmatch_calls (p x : At) (ss : List Bd) (a1 a2 a3 : Option Addr) (c1 c2 c3 : Nat) (hp : AtS p) (hx : AtS x) (hs : ss.length ≤ 1048576 ∧ ∀ y ∈ ss, y.t.s.size ≤ 1099511627776) (w : World) (hr1 : RT w a1 p.args) (hr2 : RT w a2 x.args) (hr3 : RBd w a3 ss) : Calls Tryz.prog 126 #[atV p a1 c1, atV x a2 c2, .slice a3 ss.length c3] w fun e w' => ∃ la lc zs, e = .returned (.tuple #[.slice la zs.length lc, .bool (matchD (sb ss) p x)]) ∧ Turns [] [rowB la lc zs] w w' := by
  by_cases hn : p.name = x.name
  · by_cases hl : p.args.length = x.args.length
    · by_cases hv : varB p.b = true ∧ x.b.kind = 0
      · exact rmatch_a3 p x ss a1 a2 a3 c1 c2 c3 hp hx hs w hr1 hr2 hr3 hn hl hv.1 hv.2
      · exact rmatch_b p x ss a1 a2 a3 c1 c2 c3 hp hx hs w hr1 hr2 hr3 hn hl hv
    · exact rmatch_a2 p x ss a1 a2 a3 c1 c2 c3 hp hx hs w hr1 hr2 hr3 hn hl
  · exact rmatch_a1 p x ss a1 a2 a3 c1 c2 c3 hp hx hs w hr1 hr2 hr3 hn

end Go.Proofs.YtgiiifadbnpfkaaGreatDoor

set_option maxRecDepth 10000
namespace Go.Proofs.YtgiiifadbnpfkaaGreatDoor
open Go Go.Hw
set_option linter.unusedSimpArgs false
set_option linter.unusedVariables false
/-! ### The document's base as it lies -/
structure DG where
  p : Nat
  a : Option Addr
  c : Nat
  is : List IG
abbrev rowE (la : Option Addr) (lc : Nat) (is : List IG) : Hw.Item := row 190 6 la is.length lc (is.flatMap igC)
abbrev boxD (d : DG) : Hw.Item := own d.p (.cells [Value.slice d.a d.is.length d.c].toArray 158 (0, 0))
def docA (d : DG) : List Hw.Item := boxD d :: rowE d.a d.c d.is :: argsA (d.is.map IG.y)
/-- The document's base behind at most k Adds: the facts L, in order. -/
structure DOK (d : DG) (k : Nat) (L : List (At × Nat)) : Prop where
  ls : Fis d.is = L
  sd : SD L
  fct : ∀ i ∈ d.is, factB i.y.x = true
  part : ∀ i ∈ d.is, i.p = 1 ∨ i.p = 2 ∨ i.p = 4
  len : d.is.length ≤ k
theorem DOK.mono {d : DG} {k m : Nat} {L : List (At × Nat)} (h : DOK d k L) (hk : k ≤ m) : DOK d m L := ⟨h.ls, h.sd, h.fct, h.part, Nat.le_trans h.len hk⟩
theorem T.apE : appB Tryz.prog 156 190 6 80 = true := by kernel_rfl
theorem constB_size {t : Tm} (h : constB t = true) : t.s.size ≤ 64 := by
  unfold constB at h
  split at h
  · rw [decide_eq_true_eq] at h; rw [h]; decide
  · split at h
    · simp only [Bool.and_eq_true, decide_eq_true_eq] at h; exact h.2
    · cases h
theorem fact_AtS {x : At} (h : factB x = true) : AtS x := by
  unfold factB at h
  simp only [Bool.and_eq_true, decide_eq_true_eq, Bool.not_eq_true', List.any_eq_false] at h
  obtain ⟨⟨hc, hv⟩, hn⟩ := h
  unfold chkA at hc
  split at hc
  · omega
  rename_i h1
  split at hc
  · omega
  rename_i h2
  split at hc
  · omega
  rename_i h3
  split at hc
  · omega
  rename_i h4
  refine ⟨by omega, ?_, ?_, fun t ht => ?_⟩
  · cases hb : nameB x.name with
    | false => exact absurd hb h1
    | true => unfold nameB at hb; rw [decide_eq_true_eq] at hb; omega
  · by_cases e : x.b = T0
    · rw [e]; decide
    · by_cases e2 : prinB x.b = true
      · unfold prinB at e2
        simp only [Bool.and_eq_true] at e2
        have := constB_size e2.1.1; omega
      · exact absurd ⟨e, by simpa using e2, hv⟩ h3
  · have hb : badB t = false := by
      cases hb : badB t with
      | false => rfl
      | true => exact absurd (List.any_eq_true.2 ⟨t, ht, hb⟩) h4
    unfold badB at hb
    have hvt : varB t = false := by simpa using hn t ht
    rw [hvt] at hb
    have := constB_size (t := t) (by simpa using hb); omega
abbrev agV (y : AG) : Value := atV y.x y.a y.c
theorem Fis_get {is : List IG} {i : Nat} {z : IG} (h : is[i]? = some z) : (Fis is)[i]? = some (z.y.x, z.p) := by simp [Fis, h]
theorem Fis_len (is : List IG) : (Fis is).length = is.length := by simp [Fis]
theorem Fis_take (is : List IG) (n : Nat) : Fis (is.take n) = (Fis is).take n := by simp [Fis, List.map_take]
theorem Fis_drop (is : List IG) (n : Nat) : Fis (is.drop n) = (Fis is).drop n := by simp [Fis, List.map_drop]
theorem rt_doc {w0 ws w : World} {M I : Nat → Prop} {ow : List Hw.Item} (hw : Sat w0 M I ws ow w) {is : List IG} (hm : ∀ i ∈ argsA (is.map IG.y), i ∈ ow) {z : IG} (hz : z ∈ is) : RT w z.y.a z.y.x.args :=
  RT.of_row (c := z.y.c) rfl hw (hm _ (List.mem_map.2 ⟨z.y, List.mem_map.2 ⟨z, hz, rfl⟩, rfl⟩))
theorem ig_at {is : List IG} {i : Nat} {z : IG} (h : is[i]? = some z) {j : Nat} {v : Value} (hj : (igC z)[j]? = some v) : (is.flatMap igC)[i * 6 + j]? = some v := by
  have hj6 : j < 6 := (List.getElem?_eq_some_iff.1 hj).1
  rw [flat_get igC_len is i j z h hj6]; exact hj

theorem docnew_calls (w : World) : Calls Tryz.prog 61 #[] w fun e w' => ∃ p, e = .returned (ptr p) ∧ Turns [] (docA ⟨p, none, 0, []⟩) w w' := by
  refine enterS (args := []) (fun _ => False) Tryz.func61 rfl Tryz.ntmps61 rfl rfl ?_
  refine Csr (Za rfl (Nn (Csr (Zv (OV.buildStruct (xs := []) (pl := [(0, 1)]) (cs := [Value.slice none 0 0]) T.u158 T.zr158 (by kernel_rfl) rfl rfl) (WL.box rfl rfl rfl ?_)))))
  intro b2
  refine Za rfl (Nn (WC.ret ?_))
  exact WX.ret1 rfl rfl rfl (fun w' hw => ⟨b2, rfl, ((hw.rowNil 190 6).perm (ow' := docA ⟨b2, none, 0, []⟩) perm1).turned0⟩)

theorem docof_calls (parts : Int) (n : Nat) (w : World) : Calls Tryz.prog 125 #[.int .i64 parts, .int .i64 (n : Int)] w fun e w' => e = .returned (.bool (inP parts n)) ∧ Fr0 w w' := by
  refine enterS (args := [.int .i64 parts, .int .i64 (n : Int)]) (fun _ => False) Tryz.func125 rfl Tryz.ntmps125 rfl rfl ?_
  refine Csr (Za rfl (Nn (Csr (Zm rfl (Zm rfl (Zv (OV.and rfl rfl) (Zv (OV.neq rfl rfl) (Za rfl (Nn (WC.ret ?_))))))))))
  exact WX.ret1 rfl rfl rfl (fun w' hw => ⟨rfl, hw.fr⟩)

theorem igs_one (is : List IG) : ∀ u ∈ is.flatMap igC, u.oneCell' = true := by
  intro u hu
  obtain ⟨t, _, h⟩ := List.mem_flatMap.1 hu
  exact igC_one t u h
theorem Src.ig_take {is : List IG} {S : World → Prop} {a : Option Addr} {c i : Nat} (hi : i ≤ is.length) (h : ∀ w, S w → (row 190 6 a is.length c (is.flatMap igC)).φ w) (ha : 0 < is.length → ∃ q, a = some ⟨q, 0, none⟩) : Src S a i 6 ((is.take i).flatMap igC) := by
  refine ⟨by rw [flat_len igC_len, List.length_take, Nat.min_eq_left hi], fun hn => ?_, fun w hw b hb j u hj => ?_⟩
  · rcases Nat.eq_zero_or_pos is.length with h0 | h0
    · omega
    · obtain ⟨q, hq⟩ := ha h0; rw [hn] at hq; cases hq
  · have e : (is.flatMap igC) = (is.take i).flatMap igC ++ (is.drop i).flatMap igC := by rw [← List.flatMap_append, List.take_append_drop]
    exact row_cellsφE hb (h w hw) j u (by rw [e, List.getElem?_append_left (List.getElem?_eq_some_iff.1 hj).1]; exact hj)
theorem Src.ig_drop {is : List IG} {S : World → Prop} {a : Option Addr} {c i : Nat} (hi : i ≤ is.length) (h : ∀ w, S w → (row 190 6 a is.length c (is.flatMap igC)).φ w) (ha : 0 < is.length → ∃ q, a = some ⟨q, 0, none⟩) (hc : is.length ≤ c) : Src S (if c = i then a else a.map (·.add (i * 6))) (is.length - i) 6 ((is.drop i).flatMap igC) := by
  refine ⟨by rw [flat_len igC_len, List.length_drop], fun hn => ?_, fun w hw b hb j u hj => ?_⟩
  · rcases Nat.eq_zero_or_pos is.length with h0 | h0
    · omega
    · obtain ⟨q, rfl⟩ := ha h0
      split at hn
      · cases hn
      · cases hn
  · have hj2 := (List.getElem?_eq_some_iff.1 hj).1
    rw [flat_len igC_len, List.length_drop] at hj2
    have hci : ¬ c = i := by omega
    rw [if_neg hci] at hb
    cases a with
    | none => cases hb
    | some q =>
      have hb : q.add (i * 6) = b := Option.some.inj hb
      rw [← hb, ← add_add]
      have e : (is.flatMap igC) = (is.take i).flatMap igC ++ (is.drop i).flatMap igC := by rw [← List.flatMap_append, List.take_append_drop]
      have hl : ((is.take i).flatMap igC).length = i * 6 := by rw [flat_len igC_len, List.length_take, Nat.min_eq_left hi]
      exact row_cellsφE rfl (h w hw) (i * 6 + j) u (by rw [e, List.getElem?_append_right (by omega), hl, Nat.add_sub_cancel_left]; exact hj)

set_option maxHeartbeats 2000000 in
theorem docadd_calls (d : DG) (k : Nat) (L : List (At × Nat)) (hd : DOK d k L) (hk : k ≤ 100000000000) (x : At) (a : Option Addr) (c : Nat) (hx : AtS x) (w : World) (hr : RT w a x.args) (hne : ∀ q, a = some q → 0 < x.args.length → ¬ DD (docA d) q.block) (hA : Holds (docA d) w) :
  Calls Tryz.prog 81 #[ptr d.p, atV x a c] w fun e w' => ∃ d', e = .returned (.tuple #[.bool (factB x && decide (x ∉ L.map (·.1))), .int .i64 (if factB x = true then 0 else 81)]) ∧ (DOK d' (k + 1) (insD L x) ∧ d'.p = d.p) ∧ Turns (docA d) (docA d') w w' := by
  refine enterA hA (args := [ptr d.p, atV x a c]) Tryz.func81 rfl Tryz.ntmps81 rfl rfl ?_
  refine Csr (WL.box rfl rfl rfl ?_)
  intro b3
  refine Za rfl (Za rfl (Nn (Cs (Csr (Zv (OV.loadN (cs := atC x a c) rfl T.u34 rfl T.z34 (fun _ hw j v hj => by rw [add_off, Nat.zero_add]; exact own_cells hw (.head _) j v hj)) (WL.call0 (v := .bool (factB x)) (by kernel_rfl) rfl rfl (fun w' hw' => refFact_calls x a c hx w' (hr.satA hne hw')) ?_))))))
  refine Zv (OV.not rfl) (Nn ?_)
  refine Cc rfl (fun c10 => ?_) (fun c10 => ?_)
  · refine Csr (Za rfl (Za rfl (Nn (WC.ret ?_))))
    refine Xr ?_
    exact WX.ret2 rfl rfl rfl rfl (fun w' hw => ⟨d, by rw [show factB x = false from by simpa using c10]; rfl, ⟨(by rw [show insD L x = L from by unfold insD; rw [if_neg (fun h => by rw [show factB x = false from by simpa using c10] at h; cases h.1)]]; exact ⟨hd.ls, hd.sd, hd.fct, hd.part, by have := hd.len; omega⟩), rfl⟩, hw.drop.turned⟩)
  refine Ck (Xn (Csr (Za rfl (Nn (Cs (Cb ?_))))))
  have hxl := hx.len
  have hdl := hd.len
  refine WC.know (fun w' hw => (fun hp => row_addrK (hw.it (rowE d.a d.c d.is) (.tail _ (.tail _ (.head _)))) hp : 0 < d.is.length → ∃ q, d.a = some ⟨q, 0, none⟩)) (fun hza => ?_)
  refine WC.know (fun w' hw => row_base2 (hw.it (rowE d.a d.c d.is) (.tail _ (.tail _ (.head _))))) (fun hcap => ?_)
  refine WC.loop1 (fun (i : Nat) => [(0, ptr d.p), (3, .pointer (some ⟨b3, 0, none⟩)), (6, .int .i64 (i : Int))])
      (fun i w' => (i ≤ d.is.length ∧ ∀ j z, j < i → d.is[j]? = some z → cmpA z.y.x x < 0) ∧ SatA w (docA d) (own b3 (.cells (atC x a c).toArray 34 (0, 0)) :: boxD d :: rowE d.a d.c d.is :: argsA (d.is.map IG.y)) w')
      (fun i => d.is.length - i) 0 ⟨rfl, rfl, rfl, trivial⟩ (fun w' hw => ⟨⟨by omega, fun j z hj => by omega⟩, hw⟩) ?_
  intro i
  refine WC.pure (fun hi => ?_)
  obtain ⟨hi1, hlt⟩ := hi
  refine Cs (Cs (Hd (fun w' => (w'.heap[d.p]? = some (.cells [Value.slice d.a d.is.length d.c].toArray 158 (0, 0)) ∧ w'.heap[b3]? = some (.cells (atC x a c).toArray 34 (0, 0))) ∧ (rowE d.a d.c d.is).φ w') [] (fun _ hw => ⟨⟨hw.it (boxD d) (by simp), hw.it (own b3 (.cells (atC x a c).toArray 34 (0, 0))) (by simp)⟩, hw.it (rowE d.a d.c d.is) (by simp)⟩) (m := 20) rfl ?_))
  refine Hf 0 rfl (OV.move rfl) (Hf 1 rfl (OV.move rfl) (Hf 2 rfl (OV.nilCheck rfl) (Hf 3 rfl (OV.fieldAddr0 (off := 0) rfl T.u158 rfl) (Ht 4 rfl (OV.load1 (v := .slice d.a d.is.length d.c) rfl T.u156 rfl (fun _ hw => (cell_at hw.1.1 (o := 0) rfl).1)) (Hf 5 rfl (OV.lenSlice rfl T.u156) (Hf 6 rfl (OV.lss rfl rfl) (Hf 7 rfl (OV.move rfl) ?_)))))))
  refine Hp (t := 18) rfl (fun g18 => ?_) (fun g18 => ?_)
  · refine Hfg 8 rfl rfl rfl rfl (OV.move rfl) (Hfg 9 rfl rfl rfl rfl (OV.nilCheck rfl) (Hfg 10 rfl rfl rfl rfl (OV.fieldAddr0 (off := 0) rfl T.u158 rfl) (Htg 11 rfl rfl rfl rfl (OV.load1 (v := .slice d.a d.is.length d.c) rfl T.u156 rfl (fun _ hw => (cell_at hw.1.1 (o := 0) rfl).1)) (Hfg 12 rfl rfl rfl rfl (OV.move rfl) ?_))))
    obtain ⟨z, hz⟩ : ∃ z, d.is[i]? = some z := ⟨_, List.getElem?_eq_getElem (by omega)⟩
    have hmz := List.mem_of_getElem? hz
    obtain ⟨qb, hqb⟩ := hza (by omega)
    refine Hfg 13 rfl rfl rfl rfl ((OV.indexSlice (show _ = some (Value.slice (some ⟨qb, 0, none⟩) d.is.length d.c) by rw [← hqb]; rfl) rfl T.u156 T.z190 (by omega)).cast (u := .pointer (some ⟨qb, i * 6, none⟩)) (by rw [Int.toNat_natCast, add_off, Nat.zero_add])) (Hfg 14 rfl rfl rfl rfl ((OV.fieldAddrA (off := 0) rfl T.u190 rfl).cast (u := .pointer (some ⟨qb, i * 6, none⟩)) (by rw [addr_add0])) (Htg 15 rfl rfl rfl rfl (OV.loadN (cs := agC z.y) rfl T.u34 rfl T.z34 (fun _ hw j v hj => by have h := row_cellsφE hqb hw.2 (i * 6 + j) v (ig_at hz (ig_left hj)); rw [add_off, Nat.zero_add] at h; rw [add_off]; exact h)) (Htg 16 rfl rfl rfl rfl (OV.loadN (cs := atC x a c) rfl T.u34 rfl T.z34 (fun _ hw j v hj => by rw [add_off]; exact heap_part hw.1.2 (o := 0) (cs' := atC x a c) rfl j v hj)) (Ho 17 rfl (fl' := false) rfl ?_))))
    refine Zg rfl rfl rfl (WL.call0 (v := .int .i64 (cmpA z.y.x x)) (vs := [agV z.y, atV x a c]) (by kernel_rfl) rfl rfl (fun w' hw' => refCmpA_calls z.y.x x z.y.a a z.y.c c (fact_AtS (hd.fct z hmz)) hx w' (rt_doc hw' (is := d.is) (fun q hq => by first | exact .tail _ (.tail _ (.tail _ hq)) | exact List.mem_cons_of_mem _ (List.mem_cons_of_mem _ (List.mem_cons_of_mem _ hq))) hmz) (hr.satA hne hw')) ?_)
    refine Hc (fun _ => (fun _ hw => ⟨⟨hw.it (boxD d) (by simp), hw.it (own b3 (.cells (atC x a c).toArray 34 (0, 0))) (by simp)⟩, hw.it (rowE d.a d.c d.is) (by simp)⟩)) ?_
    refine Hfg 18 rfl rfl rfl rfl (OV.lss rfl rfl) (Hf 19 rfl (OV.pickT rfl rfl) (He (Xn ?_)))
    refine Cc rfl (fun c30 => ?_) (fun c30 => ?_)
    · refine Ck (Xn (Cb (Cr (Zm rfl (Zv (OV.addN (j := 1) rfl rfl (by omega)) (Za rfl (Nl (Xb ?_))))))))
      exact WX.round1 (i + 1) ⟨rfl, rfl, rfl, trivial⟩ (fun w' hw => ⟨⟨by omega, fun j y hj hy => by
        rcases Nat.lt_or_ge j i with h | h
        · exact hlt j y h hy
        · rw [show j = i by omega, hz] at hy
          rw [← Option.some.inj hy]; simpa using c30⟩, hw⟩) (by show d.is.length - (i + 1) < d.is.length - i; omega)
    refine Ce (Xe (Xe (Xh (Xn (Cs (Cs (Hd (fun w' => (w'.heap[d.p]? = some (.cells [Value.slice d.a d.is.length d.c].toArray 158 (0, 0)) ∧ w'.heap[b3]? = some (.cells (atC x a c).toArray 34 (0, 0))) ∧ (rowE d.a d.c d.is).φ w') [] (fun _ hw => ⟨⟨hw.it (boxD d) (by simp), hw.it (own b3 (.cells (atC x a c).toArray 34 (0, 0))) (by simp)⟩, hw.it (rowE d.a d.c d.is) (by simp)⟩) (m := 19) rfl ?_)))))))
    refine Hf 0 rfl (OV.move rfl) (Hf 1 rfl (OV.move rfl) (Hf 2 rfl (OV.nilCheck rfl) (Hf 3 rfl (OV.fieldAddr0 (off := 0) rfl T.u158 rfl) (Ht 4 rfl (OV.load1 (v := .slice d.a d.is.length d.c) rfl T.u156 rfl (fun _ hw => (cell_at hw.1.1 (o := 0) rfl).1)) (Hf 5 rfl (OV.lenSlice rfl T.u156) (Hf 6 rfl (OV.lss rfl rfl) (Hf 7 rfl (OV.move rfl) (Hk (t := 40) (b := true) rfl (by simp; omega) ?_))))))))
    refine Hfg 8 rfl rfl rfl rfl (OV.move rfl) (Hfg 9 rfl rfl rfl rfl (OV.nilCheck rfl) (Hfg 10 rfl rfl rfl rfl (OV.fieldAddr0 (off := 0) rfl T.u158 rfl) (Htg 11 rfl rfl rfl rfl (OV.load1 (v := .slice d.a d.is.length d.c) rfl T.u156 rfl (fun _ hw => (cell_at hw.1.1 (o := 0) rfl).1)) (Hfg 12 rfl rfl rfl rfl (OV.move rfl) (Hfg 13 rfl rfl rfl rfl ((OV.indexSlice (show _ = some (Value.slice (some ⟨qb, 0, none⟩) d.is.length d.c) by rw [← hqb]; rfl) rfl T.u156 T.z190 (by omega)).cast (u := .pointer (some ⟨qb, i * 6, none⟩)) (by rw [Int.toNat_natCast, add_off, Nat.zero_add])) (Hfg 14 rfl rfl rfl rfl ((OV.fieldAddrA (off := 0) rfl T.u190 rfl).cast (u := .pointer (some ⟨qb, i * 6, none⟩)) (by rw [addr_add0])) (Htg 15 rfl rfl rfl rfl (OV.loadN (cs := agC z.y) rfl T.u34 rfl T.z34 (fun _ hw j v hj => by have h := row_cellsφE hqb hw.2 (i * 6 + j) v (ig_at hz (ig_left hj)); rw [add_off, Nat.zero_add] at h; rw [add_off]; exact h)) (Htg 16 rfl rfl rfl rfl (OV.loadN (cs := atC x a c) rfl T.u34 rfl T.z34 (fun _ hw j v hj => by rw [add_off]; exact heap_part hw.1.2 (o := 0) (cs' := atC x a c) rfl j v hj)) (Ho 17 rfl (fl' := false) rfl ?_)))))))))
    refine Zg rfl rfl rfl (WL.call0 (v := .bool (decide (z.y.x = x))) (vs := [agV z.y, atV x a c]) (by kernel_rfl) rfl rfl (fun w' hw' => refSame_calls z.y.x x z.y.a a z.y.c c (fact_AtS (hd.fct z hmz)) hx w' (rt_doc hw' (is := d.is) (fun q hq => by first | exact .tail _ (.tail _ (.tail _ hq)) | exact List.mem_cons_of_mem _ (List.mem_cons_of_mem _ (List.mem_cons_of_mem _ hq))) hmz) (hr.satA hne hw')) ?_)
    refine Hc (fun _ => (fun _ hw => ⟨⟨hw.it (boxD d) (by simp), hw.it (own b3 (.cells (atC x a c).toArray 34 (0, 0))) (by simp)⟩, hw.it (rowE d.a d.c d.is) (by simp)⟩)) ?_
    refine Hf 18 rfl (OV.pickT rfl rfl) (He (Xn ?_))
    refine Cc rfl (fun c51 => ?_) (fun c51 => ?_)
    · refine Csr (Za rfl (Za rfl (Nn (WC.ret ?_))))
      refine Xr ?_
      have hat : atD L x = i := by
        rw [← hd.ls]
        refine atD_is (by rw [Fis_len]; exact hi1) (fun j q hj hq => ?_) (fun q hq => ?_)
        · obtain ⟨y, hy⟩ : ∃ y, d.is[j]? = some y := ⟨_, List.getElem?_eq_getElem (by omega)⟩
          rw [Fis_get hy] at hq; rw [← Option.some.inj hq]; exact hlt j y hj hy
        · obtain ⟨hl, _⟩ := List.getElem?_eq_some_iff.1 hq
          rw [Fis_get hz] at hq
          rw [← Option.some.inj hq]
          show ¬ cmpA z.y.x x < 0
          rw [show z.y.x = x by simpa using c51, cmpA_ok.refl]; omega
      have hin : x ∈ L.map (·.1) := by
        rw [← hd.ls]
        exact List.mem_map.2 ⟨_, List.mem_of_getElem? (Fis_get hz), by simpa using c51⟩
      exact WX.ret2 rfl rfl rfl rfl (fun w' hw => ⟨d, by rw [show factB x = true from by simpa using c10, decide_eq_false (fun h => h hin)]; rfl, ⟨(by rw [show insD L x = L from by unfold insD; rw [if_neg (fun h => h.2 hin)]]; exact ⟨hd.ls, hd.sd, hd.fct, hd.part, by omega⟩), rfl⟩, hw.drop.turned⟩)
    refine Ck (Xn (Cs ?_))
    have hend : ∀ y, d.is[i]? = some y → ¬ cmpA y.y.x x < 0 ∧ y.y.x ≠ x := by
      intro y hy
      rw [hz] at hy; rw [← Option.some.inj hy]; exact ⟨by simpa using c30, by simpa using c51⟩
    refine Cr (Za rfl (Nn (Csr (Zm rfl (Zm rfl (Zv (OV.nilCheck rfl) (Zv (OV.fieldAddr0 (off := 0) rfl T.u158 rfl) (Zv (OV.load1 (v := .slice d.a d.is.length d.c) rfl T.u156 rfl (fun _ hw => own_box hw (show boxD d ∈ _ from .tail _ (.head _)))) (Zm rfl (Zv (OV.sliceTo (h := i) rfl T.u156 T.z190 rfl (by omega)) (WL.weak (S' := SatA w (docA d) (row 190 6 none 0 0 [] :: own b3 (.cells (atC x a c).toArray 34 (0, 0)) :: boxD d :: rowE d.a d.c d.is :: argsA (d.is.map IG.y))) (fun w' hw => hw.rowNil 190 6) ?_)))))))))))
    refine WL.append (news := (d.is.take i).flatMap igC) rfl rfl T.apE (fun _ _ => Src.ig_take (is := d.is) (c := d.c) hi1 (fun w' hw => hw.it (rowE d.a d.c d.is) (by simp)) hza) (igs_one _) ⟨by omega, by unfold maxLen; omega⟩ rfl ?_
    intro a59 c59
    simp only [Nat.zero_add, List.nil_append]
    refine Za rfl (Nn (Csr (Zm rfl (Zv (OV.loadN (cs := atC x a c) rfl T.u34 rfl T.z34 (fun _ hw j v hj => by rw [add_off, Nat.zero_add]; exact own_cells hw (.tail _ (.head _)) j v hj)) (WL.callTA (ι := Option Addr × Nat) (vs := [atV x a c]) (vv := fun q => atV x q.1 q.2) (pp := fun _ => True) [] (AA := fun q => [rowT q.1 q.2 x.args]) rfl (by kernel_rfl) rfl rfl (fun w' hw' _ => (own_calls x a c (by have := hx.len; omega) w' (hr.satA hne hw')).mono (fun en w'' ⟨q, q1, q2⟩ => ⟨q, q1, trivial, q2⟩)) ?_)))))
    rintro ⟨oa, oc⟩ _
    refine Zv (OV.buildStruct (xs := [(0, .tmp 62), (1, .const (.int .i64 4))]) (pl := [(0, 5), (5, 1)]) (cs := igC ⟨⟨x, oa, oc⟩, 4⟩) T.u190 T.zr190 (by kernel_rfl) rfl (fill_cons (us := atC x oa oc) rfl rfl (Nat.le_of_ble_eq_true rfl) (fill_cons (us := [_]) rfl rfl (Nat.le_of_ble_eq_true rfl) rfl))) (WL.buildSliceA (cs := igC ⟨⟨x, oa, oc⟩, 4⟩) T.u156 T.z190 T.zr190 rfl rfl (by omega) (by omega) rfl ?_)
    intro b64
    refine WL.focus (ow' := row 190 6 a59 i c59 ((d.is.take i).flatMap igC) :: own b64 (.cells (igC ⟨⟨x, oa, oc⟩, 4⟩).toArray 190 (0, 0)) :: rowT oa oc x.args :: own b3 (.cells (atC x a c).toArray 34 (0, 0)) :: boxD d :: rowE d.a d.c d.is :: argsA (d.is.map IG.y)) (perm_pick [_, _, _] [2, 0, 1] (by decide) rfl) ?_
    refine WL.append (news := igC ⟨⟨x, oa, oc⟩, 4⟩) rfl rfl T.apE (fun _ _ => own_srcN (.tail _ (.head _)) rfl) (igC_one _) ⟨by omega, by unfold maxLen; omega⟩ rfl ?_
    intro a65 c65
    refine Za rfl (Nn (Csr (Zm rfl (Zm rfl (Zm rfl (Zv (OV.nilCheck rfl) (Zv (OV.fieldAddr0 (off := 0) rfl T.u158 rfl) (Zv (OV.load1 (v := .slice d.a d.is.length d.c) rfl T.u156 rfl (fun _ hw => own_box hw (show boxD d ∈ _ by simp))) (Zm rfl (Zv (OV.sliceSl (l := i) (h := d.is.length) (ml := Option.some i) (mh := Option.none) rfl T.u156 T.z190 rfl rfl rfl rfl ⟨by omega, hcap⟩) (WL.append (news := (d.is.drop i).flatMap igC) rfl rfl T.apE (fun _ _ => Src.ig_drop (is := d.is) (c := d.c) hi1 (fun w' hw => hw.it (rowE d.a d.c d.is) (.tail _ (.tail _ (.tail _ (.tail _ (.tail _ (.head _))))))) hza hcap) (igs_one _) ⟨by omega, by unfold maxLen; omega⟩ rfl ?_)))))))))))
    intro a74 c74
    refine Zv (OV.nilCheck rfl) (Zv (OV.fieldAddr0 (off := 0) rfl T.u158 rfl) ?_)
    refine WL.focus (ow' := boxD d :: row 190 6 a74 (i + 1 + (d.is.length - i)) c74 ((d.is.take i).flatMap igC ++ igC ⟨⟨x, oa, oc⟩, 4⟩ ++ (d.is.drop i).flatMap igC) :: own b64 (.cells (igC ⟨⟨x, oa, oc⟩, 4⟩).toArray 190 (0, 0)) :: rowT oa oc x.args :: own b3 (.cells (atC x a c).toArray 34 (0, 0)) :: rowE d.a d.c d.is :: argsA (d.is.map IG.y)) (perm_pick [_, _, _, _, _] [4, 0, 1, 2, 3] (by decide) rfl) (WL.store1 (o := 0) rfl rfl rfl T.z156 Nat.zero_lt_one ?_)
    refine Nn (Csr (Za rfl (Za rfl (Nn (WC.ret ?_)))))
    have hat : atD L x = i := by
      rw [← hd.ls]
      refine atD_is (by rw [Fis_len]; exact hi1) (fun j q hj hq => ?_) (fun q hq => ?_)
      · obtain ⟨y, hy⟩ : ∃ y, d.is[j]? = some y := ⟨_, List.getElem?_eq_getElem (by omega)⟩
        rw [Fis_get hy] at hq; rw [← Option.some.inj hq]; exact hlt j y hj hy
      · obtain ⟨hl, _⟩ := List.getElem?_eq_some_iff.1 hq
        rw [Fis_len] at hl
        have hge := hend _ (List.getElem?_eq_getElem hl)
        rw [Fis_get (List.getElem?_eq_getElem hl)] at hq
        rw [← Option.some.inj hq]; exact hge.1
    have hnin : x ∉ L.map (·.1) := fun hm => by
      obtain ⟨q, hq, he⟩ := hd.sd.mem.1 hm
      rw [hat, ← hd.ls] at hq
      obtain ⟨hl, _⟩ := List.getElem?_eq_some_iff.1 hq
      rw [Fis_len] at hl
      rw [Fis_get (List.getElem?_eq_getElem hl)] at hq
      exact (hend _ (List.getElem?_eq_getElem hl)).2 (by have := Option.some.inj hq; rw [← this] at he; exact he)
    have hins : insD L x = (Fis (d.is.take i ++ (⟨⟨x, oa, oc⟩, 4⟩ : IG) :: d.is.drop i)) := by
      unfold insD
      rw [if_pos ⟨by simpa using c10, hnin⟩, hat, ← hd.ls, ← Fis_take, ← Fis_drop]
      simp [Fis]
    refine WX.ret2 rfl rfl rfl rfl (fun w' hw => ⟨⟨d.p, a74, c74, d.is.take i ++ (⟨⟨x, oa, oc⟩, 4⟩ : IG) :: d.is.drop i⟩, by rw [show factB x = true from by simpa using c10, decide_eq_true hnin]; rfl, ⟨⟨hins.symm, hd.sd.ins x, ?_, ?_, ?_⟩, rfl⟩, ?_⟩)
    · intro q hq
      rcases List.mem_append.1 hq with h | h
      · exact hd.fct q (List.mem_of_mem_take h)
      · rcases List.mem_cons.1 h with rfl | h
        · simpa using c10
        · exact hd.fct q (List.mem_of_mem_drop h)
    · intro q hq
      rcases List.mem_append.1 hq with h | h
      · exact hd.part q (List.mem_of_mem_take h)
      · rcases List.mem_cons.1 h with rfl | h
        · exact .inr (.inr rfl)
        · exact hd.part q (List.mem_of_mem_drop h)
    · simp; omega
    · have el : i + 1 + (d.is.length - i) = (d.is.take i ++ (⟨⟨x, oa, oc⟩, 4⟩ : IG) :: d.is.drop i).length := by simp; omega
      have ef : (d.is.take i).flatMap igC ++ igC ⟨⟨x, oa, oc⟩, 4⟩ ++ (d.is.drop i).flatMap igC = (d.is.take i ++ (⟨⟨x, oa, oc⟩, 4⟩ : IG) :: d.is.drop i).flatMap igC := by simp
      have em : argsA (d.is.map IG.y) = argsA ((d.is.take i).map IG.y) ++ argsA ((d.is.drop i).map IG.y) := by
        rw [← List.map_append, ← List.map_append, List.take_append_drop]
      rw [el, ef, em] at hw
      have h2 := hw.pick [[boxD ⟨d.p, a74, c74, d.is.take i ++ (⟨⟨x, oa, oc⟩, 4⟩ : IG) :: d.is.drop i⟩], [rowE a74 c74 (d.is.take i ++ (⟨⟨x, oa, oc⟩, 4⟩ : IG) :: d.is.drop i)], [own b64 (.cells (igC ⟨⟨x, oa, oc⟩, 4⟩).toArray 190 (0, 0))], [rowT oa oc x.args], [own b3 (.cells (atC x a c).toArray 34 (0, 0))], [rowE d.a d.c d.is], argsA ((d.is.take i).map IG.y), argsA ((d.is.drop i).map IG.y)] [0, 1, 6, 3, 7] 8 rfl (by decide) (by decide)
      exact Hw.Sat.turned (h2.perm (List.Perm.of_eq (by simp [cat, docA, argsA])))
  refine Hs 8 rfl rfl rfl rfl (Hs 9 rfl rfl rfl rfl (Hs 10 rfl rfl rfl rfl (Hs 11 rfl rfl rfl rfl (Hs 12 rfl rfl rfl rfl (Hs 13 rfl rfl rfl rfl (Hs 14 rfl rfl rfl rfl (Hs 15 rfl rfl rfl rfl (Hs 16 rfl rfl rfl rfl (Ho 17 rfl (fl' := false) rfl ?_)))))))))
  refine Zs rfl rfl rfl (Hc (fun _ => (fun _ hw => ⟨⟨hw.it (boxD d) (by simp), hw.it (own b3 (.cells (atC x a c).toArray 34 (0, 0))) (by simp)⟩, hw.it (rowE d.a d.c d.is) (by simp)⟩)) ?_)
  refine Hs 18 rfl rfl rfl rfl (Hf 19 rfl (OV.pickF rfl rfl) (He (Xn (WC.condF rfl ?_))))
  refine Ce (Xe (Xe (Xh (Xn (Cs (Cs (Hd (fun w' => (w'.heap[d.p]? = some (.cells [Value.slice d.a d.is.length d.c].toArray 158 (0, 0)) ∧ w'.heap[b3]? = some (.cells (atC x a c).toArray 34 (0, 0))) ∧ (rowE d.a d.c d.is).φ w') [] (fun _ hw => ⟨⟨hw.it (boxD d) (by simp), hw.it (own b3 (.cells (atC x a c).toArray 34 (0, 0))) (by simp)⟩, hw.it (rowE d.a d.c d.is) (by simp)⟩) (m := 19) rfl ?_)))))))
  refine Hf 0 rfl (OV.move rfl) (Hf 1 rfl (OV.move rfl) (Hf 2 rfl (OV.nilCheck rfl) (Hf 3 rfl (OV.fieldAddr0 (off := 0) rfl T.u158 rfl) (Ht 4 rfl (OV.load1 (v := .slice d.a d.is.length d.c) rfl T.u156 rfl (fun _ hw => (cell_at hw.1.1 (o := 0) rfl).1)) (Hf 5 rfl (OV.lenSlice rfl T.u156) (Hf 6 rfl (OV.lss rfl rfl) (Hf 7 rfl (OV.move rfl) (Hk (t := 40) (b := false) rfl (by simp; omega) ?_))))))))
  refine Hs 8 rfl rfl rfl rfl (Hs 9 rfl rfl rfl rfl (Hs 10 rfl rfl rfl rfl (Hs 11 rfl rfl rfl rfl (Hs 12 rfl rfl rfl rfl (Hs 13 rfl rfl rfl rfl (Hs 14 rfl rfl rfl rfl (Hs 15 rfl rfl rfl rfl (Hs 16 rfl rfl rfl rfl (Ho 17 rfl (fl' := false) rfl ?_)))))))))
  refine Zs rfl rfl rfl (Hc (fun _ => (fun _ hw => ⟨⟨hw.it (boxD d) (by simp), hw.it (own b3 (.cells (atC x a c).toArray 34 (0, 0))) (by simp)⟩, hw.it (rowE d.a d.c d.is) (by simp)⟩)) ?_)
  refine Hf 18 rfl (OV.pickF rfl rfl) (He (Xn (WC.condF rfl ?_)))
  refine Ck (Xn (Cs ?_))
  have hend : ∀ y, d.is[i]? = some y → ¬ cmpA y.y.x x < 0 ∧ y.y.x ≠ x := by
    intro y hy
    exact absurd (List.getElem?_eq_some_iff.1 hy).1 (by omega)
  refine Cr (Za rfl (Nn (Csr (Zm rfl (Zm rfl (Zv (OV.nilCheck rfl) (Zv (OV.fieldAddr0 (off := 0) rfl T.u158 rfl) (Zv (OV.load1 (v := .slice d.a d.is.length d.c) rfl T.u156 rfl (fun _ hw => own_box hw (show boxD d ∈ _ from .tail _ (.head _)))) (Zm rfl (Zv (OV.sliceTo (h := i) rfl T.u156 T.z190 rfl (by omega)) (WL.weak (S' := SatA w (docA d) (row 190 6 none 0 0 [] :: own b3 (.cells (atC x a c).toArray 34 (0, 0)) :: boxD d :: rowE d.a d.c d.is :: argsA (d.is.map IG.y))) (fun w' hw => hw.rowNil 190 6) ?_)))))))))))
  refine WL.append (news := (d.is.take i).flatMap igC) rfl rfl T.apE (fun _ _ => Src.ig_take (is := d.is) (c := d.c) hi1 (fun w' hw => hw.it (rowE d.a d.c d.is) (by simp)) hza) (igs_one _) ⟨by omega, by unfold maxLen; omega⟩ rfl ?_
  intro a59 c59
  simp only [Nat.zero_add, List.nil_append]
  refine Za rfl (Nn (Csr (Zm rfl (Zv (OV.loadN (cs := atC x a c) rfl T.u34 rfl T.z34 (fun _ hw j v hj => by rw [add_off, Nat.zero_add]; exact own_cells hw (.tail _ (.head _)) j v hj)) (WL.callTA (ι := Option Addr × Nat) (vs := [atV x a c]) (vv := fun q => atV x q.1 q.2) (pp := fun _ => True) [] (AA := fun q => [rowT q.1 q.2 x.args]) rfl (by kernel_rfl) rfl rfl (fun w' hw' _ => (own_calls x a c (by have := hx.len; omega) w' (hr.satA hne hw')).mono (fun en w'' ⟨q, q1, q2⟩ => ⟨q, q1, trivial, q2⟩)) ?_)))))
  rintro ⟨oa, oc⟩ _
  refine Zv (OV.buildStruct (xs := [(0, .tmp 62), (1, .const (.int .i64 4))]) (pl := [(0, 5), (5, 1)]) (cs := igC ⟨⟨x, oa, oc⟩, 4⟩) T.u190 T.zr190 (by kernel_rfl) rfl (fill_cons (us := atC x oa oc) rfl rfl (Nat.le_of_ble_eq_true rfl) (fill_cons (us := [_]) rfl rfl (Nat.le_of_ble_eq_true rfl) rfl))) (WL.buildSliceA (cs := igC ⟨⟨x, oa, oc⟩, 4⟩) T.u156 T.z190 T.zr190 rfl rfl (by omega) (by omega) rfl ?_)
  intro b64
  refine WL.focus (ow' := row 190 6 a59 i c59 ((d.is.take i).flatMap igC) :: own b64 (.cells (igC ⟨⟨x, oa, oc⟩, 4⟩).toArray 190 (0, 0)) :: rowT oa oc x.args :: own b3 (.cells (atC x a c).toArray 34 (0, 0)) :: boxD d :: rowE d.a d.c d.is :: argsA (d.is.map IG.y)) (perm_pick [_, _, _] [2, 0, 1] (by decide) rfl) ?_
  refine WL.append (news := igC ⟨⟨x, oa, oc⟩, 4⟩) rfl rfl T.apE (fun _ _ => own_srcN (.tail _ (.head _)) rfl) (igC_one _) ⟨by omega, by unfold maxLen; omega⟩ rfl ?_
  intro a65 c65
  refine Za rfl (Nn (Csr (Zm rfl (Zm rfl (Zm rfl (Zv (OV.nilCheck rfl) (Zv (OV.fieldAddr0 (off := 0) rfl T.u158 rfl) (Zv (OV.load1 (v := .slice d.a d.is.length d.c) rfl T.u156 rfl (fun _ hw => own_box hw (show boxD d ∈ _ by simp))) (Zm rfl (Zv (OV.sliceSl (l := i) (h := d.is.length) (ml := Option.some i) (mh := Option.none) rfl T.u156 T.z190 rfl rfl rfl rfl ⟨by omega, hcap⟩) (WL.append (news := (d.is.drop i).flatMap igC) rfl rfl T.apE (fun _ _ => Src.ig_drop (is := d.is) (c := d.c) hi1 (fun w' hw => hw.it (rowE d.a d.c d.is) (.tail _ (.tail _ (.tail _ (.tail _ (.tail _ (.head _))))))) hza hcap) (igs_one _) ⟨by omega, by unfold maxLen; omega⟩ rfl ?_)))))))))))
  intro a74 c74
  refine Zv (OV.nilCheck rfl) (Zv (OV.fieldAddr0 (off := 0) rfl T.u158 rfl) ?_)
  refine WL.focus (ow' := boxD d :: row 190 6 a74 (i + 1 + (d.is.length - i)) c74 ((d.is.take i).flatMap igC ++ igC ⟨⟨x, oa, oc⟩, 4⟩ ++ (d.is.drop i).flatMap igC) :: own b64 (.cells (igC ⟨⟨x, oa, oc⟩, 4⟩).toArray 190 (0, 0)) :: rowT oa oc x.args :: own b3 (.cells (atC x a c).toArray 34 (0, 0)) :: rowE d.a d.c d.is :: argsA (d.is.map IG.y)) (perm_pick [_, _, _, _, _] [4, 0, 1, 2, 3] (by decide) rfl) (WL.store1 (o := 0) rfl rfl rfl T.z156 Nat.zero_lt_one ?_)
  refine Nn (Csr (Za rfl (Za rfl (Nn (WC.ret ?_)))))
  have hat : atD L x = i := by
    rw [← hd.ls]
    refine atD_is (by rw [Fis_len]; exact hi1) (fun j q hj hq => ?_) (fun q hq => ?_)
    · obtain ⟨y, hy⟩ : ∃ y, d.is[j]? = some y := ⟨_, List.getElem?_eq_getElem (by omega)⟩
      rw [Fis_get hy] at hq; rw [← Option.some.inj hq]; exact hlt j y hj hy
    · obtain ⟨hl, _⟩ := List.getElem?_eq_some_iff.1 hq
      rw [Fis_len] at hl
      have hge := hend _ (List.getElem?_eq_getElem hl)
      rw [Fis_get (List.getElem?_eq_getElem hl)] at hq
      rw [← Option.some.inj hq]; exact hge.1
  have hnin : x ∉ L.map (·.1) := fun hm => by
    obtain ⟨q, hq, he⟩ := hd.sd.mem.1 hm
    rw [hat, ← hd.ls] at hq
    obtain ⟨hl, _⟩ := List.getElem?_eq_some_iff.1 hq
    rw [Fis_len] at hl
    rw [Fis_get (List.getElem?_eq_getElem hl)] at hq
    exact (hend _ (List.getElem?_eq_getElem hl)).2 (by have := Option.some.inj hq; rw [← this] at he; exact he)
  have hins : insD L x = (Fis (d.is.take i ++ (⟨⟨x, oa, oc⟩, 4⟩ : IG) :: d.is.drop i)) := by
    unfold insD
    rw [if_pos ⟨by simpa using c10, hnin⟩, hat, ← hd.ls, ← Fis_take, ← Fis_drop]
    simp [Fis]
  refine WX.ret2 rfl rfl rfl rfl (fun w' hw => ⟨⟨d.p, a74, c74, d.is.take i ++ (⟨⟨x, oa, oc⟩, 4⟩ : IG) :: d.is.drop i⟩, by rw [show factB x = true from by simpa using c10, decide_eq_true hnin]; rfl, ⟨⟨hins.symm, hd.sd.ins x, ?_, ?_, ?_⟩, rfl⟩, ?_⟩)
  · intro q hq
    rcases List.mem_append.1 hq with h | h
    · exact hd.fct q (List.mem_of_mem_take h)
    · rcases List.mem_cons.1 h with rfl | h
      · simpa using c10
      · exact hd.fct q (List.mem_of_mem_drop h)
  · intro q hq
    rcases List.mem_append.1 hq with h | h
    · exact hd.part q (List.mem_of_mem_take h)
    · rcases List.mem_cons.1 h with rfl | h
      · exact .inr (.inr rfl)
      · exact hd.part q (List.mem_of_mem_drop h)
  · simp; omega
  · have el : i + 1 + (d.is.length - i) = (d.is.take i ++ (⟨⟨x, oa, oc⟩, 4⟩ : IG) :: d.is.drop i).length := by simp; omega
    have ef : (d.is.take i).flatMap igC ++ igC ⟨⟨x, oa, oc⟩, 4⟩ ++ (d.is.drop i).flatMap igC = (d.is.take i ++ (⟨⟨x, oa, oc⟩, 4⟩ : IG) :: d.is.drop i).flatMap igC := by simp
    have em : argsA (d.is.map IG.y) = argsA ((d.is.take i).map IG.y) ++ argsA ((d.is.drop i).map IG.y) := by
      rw [← List.map_append, ← List.map_append, List.take_append_drop]
    rw [el, ef, em] at hw
    have h2 := hw.pick [[boxD ⟨d.p, a74, c74, d.is.take i ++ (⟨⟨x, oa, oc⟩, 4⟩ : IG) :: d.is.drop i⟩], [rowE a74 c74 (d.is.take i ++ (⟨⟨x, oa, oc⟩, 4⟩ : IG) :: d.is.drop i)], [own b64 (.cells (igC ⟨⟨x, oa, oc⟩, 4⟩).toArray 190 (0, 0))], [rowT oa oc x.args], [own b3 (.cells (atC x a c).toArray 34 (0, 0))], [rowE d.a d.c d.is], argsA ((d.is.take i).map IG.y), argsA ((d.is.drop i).map IG.y)] [0, 1, 6, 3, 7] 8 rfl (by decide) (by decide)
    exact Hw.Sat.turned (h2.perm (List.Perm.of_eq (by simp [cat, docA, argsA])))

end Go.Proofs.YtgiiifadbnpfkaaGreatDoor

set_option maxRecDepth 10000
namespace Go.Proofs.YtgiiifadbnpfkaaGreatDoor
open Go Go.Hw
set_option linter.unusedSimpArgs false
set_option linter.unusedVariables false
theorem docturn_calls (d : DG) (k : Nat) (L : List (At × Nat)) (hd : DOK d k L) (hk : k ≤ 100000000000) (w : World) (hA : Holds (docA d) w) :
  Calls Tryz.prog 82 #[ptr d.p] w fun e w' => ∃ d', e = .returned (.int .i64 ((n4F L : Nat) : Int)) ∧ (DOK d' k (turnF L) ∧ d'.p = d.p) ∧ Turns (docA d) (docA d') w w' := by
  refine enterA hA (args := [ptr d.p]) Tryz.func82 rfl Tryz.ntmps82 rfl rfl ?_
  refine Csr (Za rfl (Nn (Csr (Za rfl (Nn (Cs (Csr (Za rfl (Nn (Cb ?_))))))))))
  have hdl := hd.len
  refine WC.know (fun w' hw => (fun hp => row_addrK (hw.it (rowE d.a d.c d.is) (.tail _ (.head _))) hp : 0 < d.is.length → ∃ q, d.a = some ⟨q, 0, none⟩)) (fun hza => ?_)
  refine WC.focus perm1 ?_
  refine WC.loop1 (fun (i : Nat) => [(0, ptr d.p), (3, .int .i64 (cnI (d.is.take i) : Int)), (4, .int .i64 (i : Int))])
      (fun i w' => i ≤ d.is.length ∧ SatA w (docA d) (row 190 6 d.a d.is.length d.c ((tuI d.is i).flatMap igC) :: boxD d :: argsA (d.is.map IG.y)) w')
      (fun i => d.is.length - i) 0 ⟨rfl, rfl, rfl, trivial⟩ (fun w' hw => ⟨by omega, hw⟩) ?_
  intro i
  refine WC.pure (fun hi => ?_)
  refine Cs (Csr (Zm rfl (Zm rfl (Zv (OV.nilCheck rfl) (Zv (OV.fieldAddr0 (off := 0) rfl T.u158 rfl) (Zv (OV.load1 (v := .slice d.a d.is.length d.c) rfl T.u156 rfl (fun _ hw => own_box hw (show boxD d ∈ _ from .tail _ (.head _)))) (Zv (OV.lenSlice rfl T.u156) (Zv (OV.lss rfl rfl) (Nn ?_)))))))))
  refine Cc rfl (fun c11 => ?_) (fun c11 => ?_)
  · refine Ck (Xn (Cs (Cb (Csr (Zm rfl (Zv (OV.nilCheck rfl) (Zv (OV.fieldAddr0 (off := 0) rfl T.u158 rfl) (Zv (OV.load1 (v := .slice d.a d.is.length d.c) rfl T.u156 rfl (fun _ hw => own_box hw (show boxD d ∈ _ from .tail _ (.head _)))) (Zm rfl ?_)))))))))
    obtain ⟨z, hz⟩ : ∃ z, d.is[i]? = some z := ⟨_, List.getElem?_eq_getElem (by omega)⟩
    have hmz := List.mem_of_getElem? hz
    obtain ⟨qb, hqb⟩ := hza (by omega)
    refine Zv ((OV.indexSlice (show _ = some (Value.slice (some ⟨qb, 0, none⟩) d.is.length d.c) by rw [← hqb]; rfl) rfl T.u156 T.z190 (by omega)).cast (u := .pointer (some ⟨qb, i * 6, none⟩)) (by rw [Int.toNat_natCast, add_off, Nat.zero_add])) (Zv (OV.fieldAddr (off := 5) rfl T.u190 rfl) (Zv (OV.load1 (v := .int .i64 (z.p : Int)) rfl T.u3 rfl (fun _ hw => by have h := row_cellsE hw hqb (.head _) (i * 6 + 5) (.int .i64 (z.p : Int)) (by rw [flat_get igC_len _ i 5 z (tuI_get hz) (by omega)]; rfl); rw [add_off, Nat.zero_add] at h; exact h)) (Nn (Cb (Csr (Zv (OV.eql rfl rfl) (Za rfl (Nn ?_))))))))
    refine Cc rfl (fun c22 => ?_) (fun c22 => ?_)
    · refine Cr (Zm rfl (Zv (OV.nilCheck rfl) (Zv (OV.fieldAddr0 (off := 0) rfl T.u158 rfl) (Zv (OV.load1 (v := .slice d.a d.is.length d.c) rfl T.u156 rfl (fun _ hw => own_box hw (show boxD d ∈ _ from .tail _ (.head _)))) (Zm rfl (Zv ((OV.indexSlice (show _ = some (Value.slice (some ⟨qb, 0, none⟩) d.is.length d.c) by rw [← hqb]; rfl) rfl T.u156 T.z190 (by omega)).cast (u := .pointer (some ⟨qb, i * 6, none⟩)) (by rw [Int.toNat_natCast, add_off, Nat.zero_add])) (Zv (OV.fieldAddr (off := 5) rfl T.u190 rfl) (WL.storeRow (o := i * 6 + 5) rfl hqb rfl rfl T.z3 (by rw [flat_len igC_len, tuI_length]; omega) ?_))))))))
      refine Nl (Xb (Xb (Xn (Cr (Zm rfl (Zv (OV.addN (j := 1) rfl rfl (by omega)) (Za rfl (Nl ?_))))))))
      have hip : z.p = 2 := by omega
      exact WX.round1 (i + 1) ⟨rfl, by rw [cnI_take hz, hip]; rfl, rfl, trivial⟩ (fun w' hw => ⟨by omega, by
        rw [flat_set igC_len _ i 5 z ⟨z.y, 1⟩ (.int .i64 1) (tuI_get hz) (by omega) rfl, show (⟨z.y, 1⟩ : IG) = turnI z from by unfold turnI; rw [hip]; rfl, tuI_set hz] at hw
        exact hw⟩) (by show d.is.length - (i + 1) < d.is.length - i; omega)
    refine Csr (Zv (OV.eql rfl rfl) (Za rfl (Nn ?_)))
    refine Cc rfl (fun c31 => ?_) (fun c31 => ?_)
    · refine Csr (Zm rfl (Zv (OV.nilCheck rfl) (Zv (OV.fieldAddr0 (off := 0) rfl T.u158 rfl) (Zv (OV.load1 (v := .slice d.a d.is.length d.c) rfl T.u156 rfl (fun _ hw => own_box hw (show boxD d ∈ _ from .tail _ (.head _)))) (Zm rfl (Zv ((OV.indexSlice (show _ = some (Value.slice (some ⟨qb, 0, none⟩) d.is.length d.c) by rw [← hqb]; rfl) rfl T.u156 T.z190 (by omega)).cast (u := .pointer (some ⟨qb, i * 6, none⟩)) (by rw [Int.toNat_natCast, add_off, Nat.zero_add])) (Zv (OV.fieldAddr (off := 5) rfl T.u190 rfl) (WL.storeRow (o := i * 6 + 5) rfl hqb rfl rfl T.z3 (by rw [flat_len igC_len, tuI_length]; omega) ?_))))))))
      refine Nn (Cr (Zm rfl ?_))
      have hcn : cnI (d.is.take i) ≤ i := cnI_le _ _
      refine Zv (OV.addN (i := cnI (d.is.take i)) (j := 1) rfl rfl (by omega)) (Za rfl (Nl (Xb (Xb (Xn (Cr (Zm rfl (Zv (OV.addN (j := 1) rfl rfl (by omega)) (Za rfl (Nl ?_))))))))))
      have hip : z.p = 4 := by omega
      exact WX.round1 (i + 1) ⟨rfl, by rw [cnI_take hz, hip]; rfl, rfl, trivial⟩ (fun w' hw => ⟨by omega, by
        rw [flat_set igC_len _ i 5 z ⟨z.y, 2⟩ (.int .i64 2) (tuI_get hz) (by omega) rfl, show (⟨z.y, 2⟩ : IG) = turnI z from by unfold turnI; rw [hip]; rfl, tuI_set hz] at hw
        exact hw⟩) (by show d.is.length - (i + 1) < d.is.length - i; omega)
    refine Ck (Xb (Xb (Xn (Cr (Zm rfl (Zv (OV.addN (j := 1) rfl rfl (by omega)) (Za rfl (Nl ?_))))))))
    have hip : z.p = 1 := by
      have := hd.part z hmz
      omega
    exact WX.round1 (i + 1) ⟨rfl, by rw [cnI_take hz, hip]; rfl, rfl, trivial⟩ (fun w' hw => ⟨by omega, by
      rw [tuI_same hz (by cases z; simp only at hip; subst hip; rfl)] at hw
      exact hw⟩) (by show d.is.length - (i + 1) < d.is.length - i; omega)
  refine Ce (Xe (Xe (Xh (Xn (Csr (Zm rfl (Za rfl (Nn (WC.ret ?_)))))))))
  have hil : i = d.is.length := by omega
  have em : (d.is.map turnI).map IG.y = d.is.map IG.y := by rw [List.map_map]; rfl
  refine WX.ret1 rfl rfl rfl (fun w' hw => ⟨⟨d.p, d.a, d.c, d.is.map turnI⟩, by rw [hil, List.take_length, ← hd.ls, n4_Fis], ⟨⟨by rw [← Fis_turn, hd.ls], hd.sd.turn, ?_, ?_, ?_⟩, rfl⟩, ?_⟩)
  · intro q hq
    obtain ⟨p, hp, rfl⟩ := List.mem_map.1 hq
    exact hd.fct p hp
  · intro q hq
    obtain ⟨p, hp, rfl⟩ := List.mem_map.1 hq
    show (if p.p = 4 then 2 else 1) = 1 ∨ (if p.p = 4 then 2 else 1) = 2 ∨ (if p.p = 4 then 2 else 1) = 4
    split
    · exact .inr (.inl rfl)
    · exact .inl rfl
  · simpa using hd.len
  · rw [hil, tuI_all] at hw
    have e : docA ⟨d.p, d.a, d.c, d.is.map turnI⟩ = boxD d :: row 190 6 d.a d.is.length d.c ((d.is.map turnI).flatMap igC) :: argsA (d.is.map IG.y) := by unfold docA boxD rowE; simp only [List.length_map, em]
    rw [e]
    exact Hw.Sat.turned (hw.perm perm1)

theorem docpart_calls (d : DG) (k : Nat) (L : List (At × Nat)) (hd : DOK d k L) (hk : k ≤ 100000000000) (x : At) (a : Option Addr) (c : Nat) (hx : AtS x) (w : World) (hr : RT w a x.args) (hne : ∀ q, a = some q → 0 < x.args.length → ¬ DD (docA d) q.block) (hA : Holds (docA d) w) :
  Calls Tryz.prog 83 #[ptr d.p, atV x a c] w fun e w' => e = .returned (.int .i64 ((partF L x : Nat) : Int)) ∧ Turns (docA d) (docA d) w w' := by
  refine enterA hA (args := [ptr d.p, atV x a c]) Tryz.func83 rfl Tryz.ntmps83 rfl rfl ?_
  refine Csr (WL.box rfl rfl rfl ?_)
  intro b3
  refine Za rfl (Nn (Cs (Csr (Za rfl (Nn (Cb ?_))))))
  have hdl := hd.len
  refine WC.know (fun w' hw => (fun hp => row_addrK (hw.it (rowE d.a d.c d.is) (.tail _ (.tail _ (.head _)))) hp : 0 < d.is.length → ∃ q, d.a = some ⟨q, 0, none⟩)) (fun hza => ?_)
  refine WC.loop1 (fun (i : Nat) => [(0, ptr d.p), (3, .pointer (some ⟨b3, 0, none⟩)), (5, .int .i64 (i : Int))])
      (fun i w' => (i ≤ d.is.length ∧ ∀ j z, j < i → d.is[j]? = some z → z.y.x ≠ x) ∧ SatA w (docA d) (own b3 (.cells (atC x a c).toArray 34 (0, 0)) :: boxD d :: rowE d.a d.c d.is :: argsA (d.is.map IG.y)) w')
      (fun i => d.is.length - i) 0 ⟨rfl, rfl, rfl, trivial⟩ (fun w' hw => ⟨⟨by omega, fun j z hj => by omega⟩, hw⟩) ?_
  intro i
  refine WC.pure (fun hi => ?_)
  obtain ⟨hi, hne2⟩ := hi
  refine Cs (Csr (Zm rfl (Zm rfl (Zv (OV.nilCheck rfl) (Zv (OV.fieldAddr0 (off := 0) rfl T.u158 rfl) (Zv (OV.load1 (v := .slice d.a d.is.length d.c) rfl T.u156 rfl (fun _ hw => own_box hw (show boxD d ∈ _ from .tail _ (.head _)))) (Zv (OV.lenSlice rfl T.u156) (Zv (OV.lss rfl rfl) (Nn ?_)))))))))
  refine Cc rfl (fun c12 => ?_) (fun c12 => ?_)
  · refine Ck (Xn (Cs (Cb (Cs (Hd (fun w' => (w'.heap[d.p]? = some (.cells [Value.slice d.a d.is.length d.c].toArray 158 (0, 0)) ∧ w'.heap[b3]? = some (.cells (atC x a c).toArray 34 (0, 0))) ∧ (rowE d.a d.c d.is).φ w') [] (fun _ hw => ⟨⟨hw.it (boxD d) (by simp), hw.it (own b3 (.cells (atC x a c).toArray 34 (0, 0))) (by simp)⟩, hw.it (rowE d.a d.c d.is) (by simp)⟩) (m := 10) rfl ?_)))))
    refine Hf 0 rfl (OV.move rfl) (Hf 1 rfl (OV.nilCheck rfl) (Hf 2 rfl (OV.fieldAddr0 (off := 0) rfl T.u158 rfl) (Ht 3 rfl (OV.load1 (v := .slice d.a d.is.length d.c) rfl T.u156 rfl (fun _ hw => (cell_at hw.1.1 (o := 0) rfl).1)) (Hf 4 rfl (OV.move rfl) ?_))))
    obtain ⟨z, hz⟩ : ∃ z, d.is[i]? = some z := ⟨_, List.getElem?_eq_getElem (by omega)⟩
    have hmz := List.mem_of_getElem? hz
    obtain ⟨qb, hqb⟩ := hza (by omega)
    refine Hf 5 rfl ((OV.indexSlice (show _ = some (Value.slice (some ⟨qb, 0, none⟩) d.is.length d.c) by rw [← hqb]; rfl) rfl T.u156 T.z190 (by omega)).cast (u := .pointer (some ⟨qb, i * 6, none⟩)) (by rw [Int.toNat_natCast, add_off, Nat.zero_add])) (Hf 6 rfl ((OV.fieldAddrA (off := 0) rfl T.u190 rfl).cast (u := .pointer (some ⟨qb, i * 6, none⟩)) (by rw [addr_add0])) (Ht 7 rfl (OV.loadN (cs := agC z.y) rfl T.u34 rfl T.z34 (fun _ hw j v hj => by have h := row_cellsφE hqb hw.2 (i * 6 + j) v (ig_at hz (ig_left hj)); rw [add_off, Nat.zero_add] at h; rw [add_off]; exact h)) (Ht 8 rfl (OV.loadN (cs := atC x a c) rfl T.u34 rfl T.z34 (fun _ hw j v hj => by rw [add_off]; exact heap_part hw.1.2 (o := 0) (cs' := atC x a c) rfl j v hj)) (Ho 9 rfl (fl' := false) rfl ?_))))
    refine WL.call0 (v := .bool (decide (z.y.x = x))) (vs := [agV z.y, atV x a c]) (by kernel_rfl) rfl rfl (fun w' hw' => refSame_calls z.y.x x z.y.a a z.y.c c (fact_AtS (hd.fct z hmz)) hx w' (rt_doc hw' (is := d.is) (fun q hq => List.mem_cons_of_mem _ (List.mem_cons_of_mem _ (List.mem_cons_of_mem _ hq))) hmz) (hr.satA hne hw')) ?_
    refine Hc (fun _ => (fun _ hw => ⟨⟨hw.it (boxD d) (by simp), hw.it (own b3 (.cells (atC x a c).toArray 34 (0, 0))) (by simp)⟩, hw.it (rowE d.a d.c d.is) (by simp)⟩)) ?_
    refine He (Xn ?_)
    refine Cc rfl (fun c24 => ?_) (fun c24 => ?_)
    · refine Csr (Zm rfl (Zv (OV.nilCheck rfl) (Zv (OV.fieldAddr0 (off := 0) rfl T.u158 rfl) (Zv (OV.load1 (v := .slice d.a d.is.length d.c) rfl T.u156 rfl (fun _ hw => own_box hw (show boxD d ∈ _ from .tail _ (.head _)))) (Zm rfl (Zv ((OV.indexSlice (show _ = some (Value.slice (some ⟨qb, 0, none⟩) d.is.length d.c) by rw [← hqb]; rfl) rfl T.u156 T.z190 (by omega)).cast (u := .pointer (some ⟨qb, i * 6, none⟩)) (by rw [Int.toNat_natCast, add_off, Nat.zero_add])) (Zv (OV.fieldAddr (off := 5) rfl T.u190 rfl) (Zv (OV.load1 (v := .int .i64 (z.p : Int)) rfl T.u3 rfl (fun _ hw => by have h := row_cellsE hw hqb (.tail _ (.tail _ (.head _))) (i * 6 + 5) (.int .i64 (z.p : Int)) (ig_at hz rfl); rw [add_off, Nat.zero_add] at h; exact h)) (Za rfl (Nn (WC.ret ?_)))))))))))
      refine Xq (Xr (Xr (Xq (Xr ?_))))
      exact WX.ret1 rfl rfl rfl (fun w' hw => ⟨by rw [partF_mem hd.sd.nodup (x := x) (n := z.p) (by rw [← hd.ls, ← (show z.y.x = x by simpa using c24)]; exact List.mem_of_getElem? (Fis_get hz))], hw.drop.turned⟩)
    refine Ck (Xb (Xn (Cr (Zm rfl (Zv (OV.addN (j := 1) rfl rfl (by omega)) (Za rfl (Nl ?_)))))))
    exact WX.round1 (i + 1) ⟨rfl, rfl, rfl, trivial⟩ (fun w' hw => ⟨⟨by omega, fun j y hj hy => by
      rcases Nat.lt_or_ge j i with h | h
      · exact hne2 j y h hy
      · rw [show j = i by omega, hz] at hy
        rw [← Option.some.inj hy]; simpa using c24⟩, hw⟩) (by show d.is.length - (i + 1) < d.is.length - i; omega)
  refine Ce (Xe (Xe (Xh (Xn (Csr (Za rfl (Nn (WC.ret ?_))))))))
  have hnin : x ∉ L.map (·.1) := fun hm => by
    rw [← hd.ls, Fis_fst] at hm
    obtain ⟨y, hy, he⟩ := List.mem_map.1 hm
    obtain ⟨j, hj⟩ := List.mem_iff_getElem?.1 hy
    exact hne2 j y (by have := (List.getElem?_eq_some_iff.1 hj).1; omega) hj he
  exact WX.ret1 rfl rfl rfl (fun w' hw => ⟨by rw [partF_not hnin]; rfl, hw.drop.turned⟩)

set_option maxHeartbeats 1000000 in
theorem docfacts_calls (d : DG) (k : Nat) (L : List (At × Nat)) (hd : DOK d k L) (hk : k ≤ 100000000000) (parts : Int) (w : World) (hA : Holds (docA d) w) :
  Calls Tryz.prog 85 #[ptr d.p, .int .i64 parts] w fun e w' => ∃ z : Option Addr × Nat × List AG, e = .returned (.slice z.1 z.2.2.length z.2.1) ∧ (z.2.2.map AG.x = selF L parts ∧ z.2.2.length ≤ k) ∧ Turns (docA d) (docA d ++ atsA z.1 z.2.1 z.2.2) w w' := by
  refine enterA hA (args := [ptr d.p, .int .i64 parts]) Tryz.func85 rfl Tryz.ntmps85 rfl rfl ?_
  refine Csr (Za rfl (Nn (Csr (Za rfl (Nn (Cs (Csr (Za rfl (Nn (Cb ?_))))))))))
  have hdl := hd.len
  refine WC.know (fun w' hw => (fun hp => row_addrK (hw.it (rowE d.a d.c d.is) (.tail _ (.head _))) hp : 0 < d.is.length → ∃ q, d.a = some ⟨q, 0, none⟩)) (fun hza => ?_)
  refine WC.weak (S' := SatA w (docA d) (rowAt none 0 [] :: boxD d :: rowE d.a d.c d.is :: (argsA (d.is.map IG.y) ++ argsA []))) (fun w' hw => (hw.rowNil 34 5).perm (List.Perm.of_eq (by simp [docA, rowAt, argsA]))) ?_
  refine WC.loop4 (fun (i : Nat) (la : Option Addr) (lc : Nat) (ys : List AG) => [(0, ptr d.p), (1, .int .i64 parts), (5, .slice la ys.length lc), (6, .int .i64 (i : Int))])
      (fun i la lc ys w' => (i ≤ d.is.length ∧ ys.length ≤ i ∧ ys.map AG.x = selF (L.take i) parts) ∧ SatA w (docA d) (rowAt la lc ys :: boxD d :: rowE d.a d.c d.is :: (argsA (d.is.map IG.y) ++ argsA ys)) w')
      (fun i _ _ _ => d.is.length - i) 0 none 0 [] ⟨rfl, rfl, rfl, rfl, trivial⟩ (fun w' hw => ⟨⟨by omega, Nat.le_refl _, rfl⟩, hw⟩) ?_
  intro i la lc ys
  refine WC.pure (fun hi => ?_)
  obtain ⟨hi, hyl, hys⟩ := hi
  refine Cs (Csr (Zm rfl (Zm rfl (Zv (OV.nilCheck rfl) (Zv (OV.fieldAddr0 (off := 0) rfl T.u158 rfl) (Zv (OV.load1 (v := .slice d.a d.is.length d.c) rfl T.u156 rfl (fun _ hw => own_box hw (show boxD d ∈ _ by simp))) (Zv (OV.lenSlice rfl T.u156) (Zv (OV.lss rfl rfl) (Nn ?_)))))))))
  refine Cc rfl (fun c13 => ?_) (fun c13 => ?_)
  · refine Ck (Xn (Cs (Cb (Csr (Zm rfl (Zm rfl (Zv (OV.nilCheck rfl) (Zv (OV.fieldAddr0 (off := 0) rfl T.u158 rfl) (Zv (OV.load1 (v := .slice d.a d.is.length d.c) rfl T.u156 rfl (fun _ hw => own_box hw (show boxD d ∈ _ by simp))) (Zm rfl ?_))))))))))
    obtain ⟨z, hz⟩ : ∃ z, d.is[i]? = some z := ⟨_, List.getElem?_eq_getElem (by omega)⟩
    have hmz := List.mem_of_getElem? hz
    obtain ⟨qb, hqb⟩ := hza (by omega)
    refine Zv ((OV.indexSlice (show _ = some (Value.slice (some ⟨qb, 0, none⟩) d.is.length d.c) by rw [← hqb]; rfl) rfl T.u156 T.z190 (by omega)).cast (u := .pointer (some ⟨qb, i * 6, none⟩)) (by rw [Int.toNat_natCast, add_off, Nat.zero_add])) (Zv (OV.fieldAddr (off := 5) rfl T.u190 rfl) (Zv (OV.load1 (v := .int .i64 (z.p : Int)) rfl T.u3 rfl (fun _ hw => by have h := row_cellsE hw hqb (show rowE d.a d.c d.is ∈ _ by simp) (i * 6 + 5) (.int .i64 (z.p : Int)) (ig_at hz rfl); rw [add_off, Nat.zero_add] at h; exact h)) (WL.call0 (v := .bool (inP parts z.p)) (by kernel_rfl) rfl rfl (fun w' hw' => docof_calls parts z.p w') ?_)))
    refine Nn ?_
    refine Cc rfl (fun c25 => ?_) (fun c25 => ?_)
    · refine Cr (Zm rfl (Zm rfl (Zv (OV.nilCheck rfl) (Zv (OV.fieldAddr0 (off := 0) rfl T.u158 rfl) (Zv (OV.load1 (v := .slice d.a d.is.length d.c) rfl T.u156 rfl (fun _ hw => own_box hw (show boxD d ∈ _ by simp))) (Zm rfl (Zv ((OV.indexSlice (show _ = some (Value.slice (some ⟨qb, 0, none⟩) d.is.length d.c) by rw [← hqb]; rfl) rfl T.u156 T.z190 (by omega)).cast (u := .pointer (some ⟨qb, i * 6, none⟩)) (by rw [Int.toNat_natCast, add_off, Nat.zero_add])) (Zv ((OV.fieldAddrA (off := 0) rfl T.u190 rfl).cast (u := .pointer (some ⟨qb, i * 6, none⟩)) (by rw [addr_add0])) (Zv (OV.loadN (cs := agC z.y) rfl T.u34 rfl T.z34 (fun _ hw j v hj => by have h := row_cellsφE hqb (hw.it (rowE d.a d.c d.is) (by simp)) (i * 6 + j) v (ig_at hz (ig_left hj)); rw [add_off, Nat.zero_add] at h; rw [add_off]; exact h)) ?_)))))))))
      have hzs := fact_AtS (hd.fct z hmz)
      refine WL.callTA (ι := Option Addr × Nat) (vs := [agV z.y]) (vv := fun q => atV z.y.x q.1 q.2) (pp := fun _ => True) [] (AA := fun q => [rowT q.1 q.2 z.y.x.args]) rfl (by kernel_rfl) rfl rfl (fun w' hw' _ => (own_calls z.y.x z.y.a z.y.c (by have := hzs.len; omega) w' (rt_doc hw' (is := d.is) (fun q hq => by simp only [List.nil_append]; exact List.mem_cons_of_mem _ (List.mem_cons_of_mem _ (List.mem_cons_of_mem _ (List.mem_append_left _ hq)))) hmz)).mono (fun en w'' ⟨q, q1, q2⟩ => ⟨q, q1, trivial, q2⟩)) ?_
      rintro ⟨oa, oc⟩ _
      refine WL.buildSliceA (cs := agC (⟨z.y.x, oa, oc⟩ : AG)) T.u27 T.z34 T.zr34 rfl rfl (by omega) (by omega) rfl ?_
      intro b36
      refine WL.focus (ow' := rowAt la lc ys :: own b36 (.cells (agC (⟨z.y.x, oa, oc⟩ : AG)).toArray 34 (0, 0)) :: rowT oa oc z.y.x.args :: boxD d :: rowE d.a d.c d.is :: (argsA (d.is.map IG.y) ++ argsA ys)) (perm_pick [_, _, _] [2, 0, 1] (by decide) rfl) ?_
      refine WL.append (news := agC (⟨z.y.x, oa, oc⟩ : AG)) rfl rfl T.apA (fun _ _ => own_srcN (.tail _ (.head _)) rfl) (agC_one _) ⟨by omega, by unfold maxLen; omega⟩ rfl ?_
      intro a37 c37
      refine Za rfl (Nl (Xb (Xn (Cr (Zm rfl (Zv (OV.addN (j := 1) rfl rfl (by omega)) (Za rfl (Nl ?_))))))))
      have el : ys.length + 1 = (ys ++ [(⟨z.y.x, oa, oc⟩ : AG)]).length := by simp
      have ef : ys.flatMap agC ++ agC (⟨z.y.x, oa, oc⟩ : AG) = (ys ++ [(⟨z.y.x, oa, oc⟩ : AG)]).flatMap agC := by simp
      have em : argsA (ys ++ [(⟨z.y.x, oa, oc⟩ : AG)]) = argsA ys ++ [rowT oa oc z.y.x.args] := by simp [argsA]
      exact WX.round4 (i + 1) a37 c37 (ys ++ [(⟨z.y.x, oa, oc⟩ : AG)]) ⟨rfl, rfl, by rw [← el]; rfl, rfl, trivial⟩ (fun w' hw => ⟨⟨by omega, by simp; omega, by
        rw [List.map_append, hys, selF_take (by rw [← hd.ls]; exact Fis_get hz), if_pos c25]; rfl⟩, by
        rw [el, ef] at hw
        rw [em]
        exact (hw.pick [[rowAt a37 c37 (ys ++ [(⟨z.y.x, oa, oc⟩ : AG)])], [own b36 (.cells (agC (⟨z.y.x, oa, oc⟩ : AG)).toArray 34 (0, 0))], [rowT oa oc z.y.x.args], [boxD d, rowE d.a d.c d.is], argsA (d.is.map IG.y), argsA ys] [0, 3, 4, 5, 2] 6 rfl (by decide) (by decide)).perm (List.Perm.of_eq (by simp [cat]))⟩) (by show d.is.length - (i + 1) < d.is.length - i; omega)
    refine Ck (Xb (Xn (Cr (Zm rfl (Zv (OV.addN (j := 1) rfl rfl (by omega)) (Za rfl (Nl ?_)))))))
    exact WX.round4 (i + 1) la lc ys ⟨rfl, rfl, rfl, rfl, trivial⟩ (fun w' hw => ⟨⟨by omega, by omega, by rw [hys, selF_take (by rw [← hd.ls]; exact Fis_get hz), if_neg (by simpa using c25), List.append_nil]⟩, hw⟩) (by show d.is.length - (i + 1) < d.is.length - i; omega)
  refine Ce (Xe (Xe (Xh (Xn (Csr (Zm rfl (Za rfl (Nn (WC.ret ?_)))))))))
  have hLl : L.length = d.is.length := by rw [← hd.ls, Fis_len]
  rw [List.take_of_length_le (by omega)] at hys
  refine WX.ret1 rfl rfl rfl (fun w' hw => ⟨(la, lc, ys), rfl, ⟨hys, by show ys.length ≤ k; omega⟩, ?_⟩)
  exact Hw.Sat.turned ((hw.pick [[rowAt la lc ys], [boxD d, rowE d.a d.c d.is], argsA (d.is.map IG.y), argsA ys] [1, 2, 0, 3] 4 rfl (by decide) (by decide)).perm (List.Perm.of_eq (by simp [cat, docA, atsA])))

theorem doclen_calls (d : DG) (k : Nat) (L : List (At × Nat)) (hd : DOK d k L) (hk : k ≤ 100000000000) (parts : Int) (w : World) (hA : Holds (docA d) w) :
  Calls Tryz.prog 84 #[ptr d.p, .int .i64 parts] w fun e w' => e = .returned (.int .i64 ((selF L parts).length : Int)) ∧ Turns (docA d) (docA d) w w' := by
  refine enterA hA (args := [ptr d.p, .int .i64 parts]) Tryz.func84 rfl Tryz.ntmps84 rfl rfl ?_
  refine Csr (Za rfl (Nn (Csr (Zm rfl (Zm rfl (WL.weak (S' := SatA w (docA d) (docA d ++ [])) (fun w' hw => hw.perm (List.Perm.of_eq (List.append_nil _))) ?_))))))
  refine WL.callTA (ι := Option Addr × Nat × List AG) (vs := [ptr d.p, .int .i64 parts]) (vv := fun z => .slice z.1 z.2.2.length z.2.1) (pp := fun z => z.2.2.map AG.x = selF L parts ∧ z.2.2.length ≤ k) (docA d) (AA := fun z => docA d ++ atsA z.1 z.2.1 z.2.2) rfl (by kernel_rfl) rfl rfl (fun w' hw' hH => docfacts_calls d k L hd hk parts w' hH) ?_
  rintro ⟨la, lc, ys⟩ ⟨hys, hyl⟩
  have hys : ys.map AG.x = selF L parts := hys
  have hyl : ys.length ≤ k := hyl
  refine Za rfl (Nn (Csr (Zm rfl (Zv (OV.lenSlice rfl T.u27) (Za rfl (Nn (WC.ret ?_)))))))
  exact WX.ret1 rfl rfl rfl (fun w' hw => ⟨by rw [← hys, List.length_map], Hw.Sat.turnedL (B := atsA la lc ys) (hw.perm (List.Perm.of_eq (by simp)))⟩)

end Go.Proofs.YtgiiifadbnpfkaaGreatDoor
