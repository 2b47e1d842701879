/- Contracts of functions of the program: what each returns and leaves in memory. Printed by gen.py and walk.py. -/
import Derived.Test.YtgiiifadbnpfkaaGreatDoorMg18
import Derived.Test.YtgiiifadbnpfkaaGreatDoorMg17
import Derived.Test.YtgiiifadbnpfkaaGreatDoorRows
set_option maxRecDepth 10000
namespace Go.Proofs.YtgiiifadbnpfkaaGreatDoor
open Go Go.Hw
set_option linter.unusedSimpArgs false
set_option linter.unusedVariables false
theorem cmpList_pre {α : Type} {f : α → α → Int} (hf : CmpOK f) : ∀ (i : Nat) (l m : List α), i ≤ l.length → i ≤ m.length → (∀ j, j < i → l[j]? = m[j]?) → cmpList f l m = cmpList f (l.drop i) (m.drop i)
  | 0, l, m, _, _, _ => rfl
  | i + 1, [], m, h, _, _ => by simp at h
  | i + 1, _ :: _, [], _, h, _ => by simp at h
  | i + 1, a :: l, b :: m, h1, h2, h => by
    have h0 := h 0 (by omega)
    simp only [List.getElem?_cons_zero, Option.some.injEq] at h0
    subst h0
    rw [cmpList, if_neg (by rw [hf.refl]; simp)]
    exact cmpList_pre hf i l m (by simpa using h1) (by simpa using h2) (fun j hj => by have := h (j + 1) (by omega); simpa using this)
theorem cmpS_list (a b : ByteArray) : cmpS a b = cmpList (fun a b : UInt8 => cmpN a.toNat b.toNat) a.data.toList b.data.toList := compareBytes_eq _ _
theorem bAt_get {s : ByteArray} {i : Nat} (h : i < s.size) : s.data.toList[i]? = some (bAt s i) := by
  have h2 : i < s.data.toList.length := by simpa using h
  unfold bAt
  rw [List.getD_eq_getElem?_getD, List.getElem?_eq_getElem h2, Option.getD_some]
theorem cmpS_pre {a b : ByteArray} {i : Nat} (h1 : i ≤ a.size) (h2 : i ≤ b.size) (h : ∀ j, j < i → bAt a j = bAt b j) : cmpS a b = cmpList (fun a b : UInt8 => cmpN a.toNat b.toNat) (a.data.toList.drop i) (b.data.toList.drop i) := by
  rw [cmpS_list]
  exact cmpList_pre u8_ok i _ _ (by simpa using h1) (by simpa using h2) (fun j hj => by rw [bAt_get (by omega), bAt_get (by omega), h j hj])
theorem cmpS_hit {a b : ByteArray} {i : Nat} (h1 : i < a.size) (h2 : i < b.size) (h : ∀ j, j < i → bAt a j = bAt b j) (hn : ¬ bAt a i = bAt b i) : cmpS a b = cmpN (bAt a i).toNat (bAt b i).toNat := by
  rw [cmpS_pre (by omega) (by omega) h, drop_cons (bAt_get h1), drop_cons (bAt_get h2)]
  show (if cmpN (bAt a i).toNat (bAt b i).toNat ≠ 0 then cmpN (bAt a i).toNat (bAt b i).toNat else _) = _
  rw [if_pos (fun e => hn (u8_ok.eq _ _ e))]
theorem cmpS_end {a b : ByteArray} {i : Nat} (h1 : i ≤ a.size) (h2 : i ≤ b.size) (h : ∀ j, j < i → bAt a j = bAt b j) (he : a.size ≤ i ∨ b.size ≤ i) : cmpS a b = cmpN a.size b.size := by
  rw [cmpS_pre h1 h2 h]
  have hla : a.data.toList.length = a.size := by simp
  have hlb : b.data.toList.length = b.size := by simp
  have na : a.size ≤ i → a.data.toList.drop i = [] := fun h => List.drop_eq_nil_of_le (by omega)
  have nb : b.size ≤ i → b.data.toList.drop i = [] := fun h => List.drop_eq_nil_of_le (by omega)
  rcases Nat.lt_or_ge i a.size with ha | ha
  · rw [drop_cons (bAt_get ha), nb (by omega)]
    show (1 : Int) = _
    unfold cmpN; omega
  · rcases Nat.lt_or_ge i b.size with hb | hb
    · rw [drop_cons (bAt_get hb), na ha]
      show (-1 : Int) = _
      unfold cmpN; omega
    · rw [na ha, nb hb]
      show (0 : Int) = _
      unfold cmpN; omega

theorem texts_calls (a b : ByteArray) (ha : a.size ≤ 1099511627776) (hb : b.size ≤ 1099511627776) (w : World) : Calls Tryz.prog 150 #[.string a, .string b] w fun e w' => e = .returned (.int .i64 (cmpS a b)) ∧ Fr0 w w' := by
  refine enterS (args := [.string a, .string b]) (fun _ => False) Tryz.func150 rfl Tryz.ntmps150 rfl rfl ?_
  refine Csr (Za rfl (Nn (Cs (Csr (Za rfl (Nn (Cb ?_)))))))
  refine WC.loop1 (fun (i : Nat) => [(0, .string a), (1, .string b), (5, .int .i64 (i : Int))])
      (fun i w' => (i ≤ a.size ∧ i ≤ b.size ∧ ∀ j, j < i → bAt a j = bAt b j) ∧ Sat0 w ([]) w')
      (fun i => a.size - i) 0 ⟨rfl, rfl, rfl, trivial⟩ (fun w' hw => ⟨⟨by omega, by omega, by intro j hj; omega⟩, hw⟩) ?_
  intro i
  refine WC.pure (fun hi => ?_)
  obtain ⟨hi1, hi2, hz⟩ := hi
  refine Cs (Csr (Zm rfl (Zm rfl (Zv (OV.lenStr rfl T.u9) (Zv (OV.lss rfl rfl) (Zm rfl ?_))))))
  refine Zp (t := 10) rfl (fun g10 => ?_) (fun g10 => ?_)
  · refine Zg rfl rfl rfl (Zm rfl (Zg rfl rfl rfl (Zm rfl (Zg rfl rfl rfl (Zv (OV.lenStr rfl T.u9) (Zg rfl rfl rfl (Zv (OV.lss rfl rfl) (Zv (OV.pickT rfl rfl) (Nn ?_)))))))))
    refine Cc rfl (fun c15 => ?_) (fun c15 => ?_)
    · refine Ck (Xn (Cs (Cb (Cs (Hq [] (m := 7) rfl ?_)))))
      refine Hf 0 rfl (OV.move rfl) (Hf 1 rfl (OV.move rfl) ?_)
      have hb1 := UInt8.toNat_lt (bAt a i)
      have hb2 := UInt8.toNat_lt (bAt b i)
      refine Ht 2 rfl (OV.indexStr (r := bAt a i) rfl rfl T.u9 ⟨by omega, bget (by omega)⟩) (Hf 3 rfl (OV.move rfl) (Hf 4 rfl (OV.move rfl) (Ht 5 rfl (OV.indexStr (r := bAt b i) rfl rfl T.u9 ⟨by omega, bget (by omega)⟩) (Hf 6 rfl (OV.neq rfl rfl) (He (Xn ?_))))))
      refine Cc rfl (fun c24 => ?_) (fun c24 => ?_)
      · refine Cs (Hq [] (m := 10) rfl ?_)
        refine Hf 0 rfl (OV.move rfl) (Hf 1 rfl (OV.move rfl) (Ht 2 rfl (OV.indexStr (r := bAt a i) rfl rfl T.u9 ⟨by omega, bget (by omega)⟩) (Hf 3 rfl (OV.convI T.u5 T.u3 rfl (by omega)) (Hf 4 rfl (OV.move rfl) (Hf 5 rfl (OV.move rfl) (Ht 6 rfl (OV.indexStr (r := bAt b i) rfl rfl T.u9 ⟨by omega, bget (by omega)⟩) (Hf 7 rfl (OV.convI T.u5 T.u3 rfl (by omega)) (Ho 8 rfl (fl' := false) rfl ?_))))))))
        refine WL.call0 (v := .int .i64 (cmpN (bAt a i).toNat (bAt b i).toNat)) (by kernel_rfl) rfl rfl (fun w' hw' => refInts_calls _ _ w') ?_
        refine Hc (fun _ => (fun _ h => h)) ?_
        refine Hf 9 rfl (OV.assign rfl) (He (Xn (WC.ret ?_)))
        refine Xq (Xr (Xr (Xq (Xr ?_))))
        exact WX.ret1 rfl rfl rfl (fun w' hw => ⟨by clear hw; rw [cmpS_hit (i := i) (by omega) (by omega) hz (fun e => c24 (by rw [e]))], hw.fr⟩)
      refine Ck (Xb (Xn (Cr (Zm rfl (Zv (OV.addN (j := 1) rfl rfl (by omega)) (Za rfl (Nl ?_)))))))
      exact WX.round1 (i + 1) ⟨rfl, rfl, rfl, trivial⟩ (fun w' hw => ⟨⟨by omega, by omega, fun j hj => by rcases Nat.lt_or_ge j i with h | h; exact hz j h; rw [show j = i by omega]; exact UInt8.toNat_inj.1 (by omega)⟩, hw⟩) (by show a.size - (i + 1) < a.size - i; omega)
    refine Ce (Xe (Xe (Xh (Xn (Csr (Zm rfl (Zv (OV.lenStr rfl T.u9) (Zm rfl (Zv (OV.lenStr rfl T.u9) (WL.call0 (v := .int .i64 (cmpN a.size b.size)) (by kernel_rfl) rfl rfl (fun w' hw' => refInts_calls _ _ w') ?_))))))))))
    refine Za rfl (Nn (WC.ret ?_))
    exact WX.ret1 rfl rfl rfl (fun w' hw => ⟨by clear hw; rw [cmpS_end (i := i) hi1 hi2 hz (by omega)], hw.fr⟩)
  refine Zs rfl rfl rfl (Zs rfl rfl rfl (Zs rfl rfl rfl (Zs rfl rfl rfl (Zv (OV.pickF rfl rfl) (Nn (WC.condF rfl ?_))))))
  refine Ce (Xe (Xe (Xh (Xn (Csr (Zm rfl (Zv (OV.lenStr rfl T.u9) (Zm rfl (Zv (OV.lenStr rfl T.u9) (WL.call0 (v := .int .i64 (cmpN a.size b.size)) (by kernel_rfl) rfl rfl (fun w' hw' => refInts_calls _ _ w') ?_))))))))))
  refine Za rfl (Nn (WC.ret ?_))
  exact WX.ret1 rfl rfl rfl (fun w' hw => ⟨by clear hw; rw [cmpS_end (i := i) hi1 hi2 hz (by omega)], hw.fr⟩)

end Go.Proofs.YtgiiifadbnpfkaaGreatDoor

set_option maxRecDepth 10000
namespace Go.Proofs.YtgiiifadbnpfkaaGreatDoor
open Go Go.Hw
set_option linter.unusedSimpArgs false
set_option linter.unusedVariables false
theorem cmpT_k {t u : Tm} (h : ¬ t.kind = u.kind) : cmpT t u = cmpN t.kind u.kind := by
  have h1 : cmpN t.kind u.kind ≠ 0 := fun e => h (cmpN_ok.eq _ _ e)
  unfold cmpT; simp only [orL]; rw [if_pos h1]
theorem cmpT_n {t u : Tm} (h : t.kind = u.kind) (h2 : ¬ t.n = u.n) : cmpT t u = cmpN t.n u.n := by
  have h1 : cmpN t.n u.n ≠ 0 := fun e => h2 (cmpN_ok.eq _ _ e)
  unfold cmpT; simp only [orL]; rw [if_neg (by rw [h, cmpN_ok.refl]; simp), if_pos h1]
theorem cmpT_s {t u : Tm} (h : t.kind = u.kind) (h2 : t.n = u.n) : cmpT t u = cmpS t.s u.s := by
  unfold cmpT; rw [h, h2]; simp only [orL]; rw [if_neg (by rw [cmpN_ok.refl]; simp), if_neg (by rw [cmpN_ok.refl]; simp)]
  split <;> omega
/-- The strings of an atom are not too long. -/
structure AtS (x : At) : Prop where
  len : x.args.length ≤ 1048575
  name : x.name.size ≤ 1099511627776
  b : x.b.s.size ≤ 1099511627776
  args : ∀ t ∈ x.args, t.s.size ≤ 1099511627776
theorem cmpA_go {x y : At} {c : Int} (hc : c = if cmpS x.name y.name ≠ 0 then cmpS x.name y.name else if cmpN x.args.length y.args.length ≠ 0 then cmpN x.args.length y.args.length else cmpT x.b y.b) : cmpA x y = if c ≠ 0 then c else cmpList cmpT (x.args.drop 0) (y.args.drop 0) := by
  rw [cmpA_eq, hc]
  by_cases h1 : cmpS x.name y.name = 0 <;> by_cases h2 : cmpN x.args.length y.args.length = 0 <;> simp [h1, h2]
theorem cmpA_len {x y : At} {c : Int} (hc : c = if cmpS x.name y.name ≠ 0 then cmpS x.name y.name else if cmpN x.args.length y.args.length ≠ 0 then cmpN x.args.length y.args.length else cmpT x.b y.b) : c = 0 → x.args.length = y.args.length := by
  intro h0
  have h1 : cmpN x.args.length y.args.length = 0 := by
    rw [hc] at h0
    split at h0
    · exact absurd h0 (by assumption)
    · split at h0
      · exact absurd h0 (by assumption)
      · omega
  have := cmpN_ok.eq _ _ h1
  omega
theorem cmpA_step {ls ms : List Tm} {i : Nat} {t u : Tm} (h1 : ls[i]? = some t) (h2 : ms[i]? = some u) : cmpList cmpT (ls.drop i) (ms.drop i) = if cmpT t u ≠ 0 then cmpT t u else cmpList cmpT (ls.drop (i + 1)) (ms.drop (i + 1)) := by
  by_cases h : cmpT t u = 0
  · rw [if_neg (by omega), cmpList_drop h1 h2 h]
  · rw [if_pos h, cmpList_hit h1 h2 h]
theorem cmpA_end {ls ms : List Tm} {i : Nat} (h1 : ls.length ≤ i) (h2 : ms.length ≤ i) : cmpList cmpT (ls.drop i) (ms.drop i) = 0 := by
  rw [List.drop_eq_nil_of_le h1, List.drop_eq_nil_of_le h2]; rfl
theorem cmpA_same (x y : At) : decide (cmpA x y = 0) = decide (x = y) := by
  rw [decide_eq_decide]
  exact ⟨cmpA_ok.eq _ _, fun e => by rw [e, cmpA_ok.refl]⟩

theorem refCmpT_calls (t u : Tm) (ht : t.s.size ≤ 1099511627776) (hu : u.s.size ≤ 1099511627776) (w : World) : Calls Tryz.prog 152 #[tmV t, tmV u] w fun e w' => e = .returned (.int .i64 (cmpT t u)) ∧ Fr0 w w' := by
  refine enterS (args := [tmV t, tmV u]) (fun _ => False) Tryz.func152 rfl Tryz.ntmps152 rfl rfl ?_
  refine Csr (WL.box rfl rfl rfl ?_)
  intro b2
  refine WL.box rfl rfl rfl ?_
  intro b3
  refine Za rfl (Nn (Cs (Csr (Zv (OV.fieldAddr0 (off := 0) rfl T.u31 rfl) (Zv (OV.load1 (v := .int .i64 t.kind) rfl T.u3 rfl (fun _ hw => (cell_at (hw.it _ (.tail _ (.head _))) (o := 0) rfl).1)) (Zv (OV.fieldAddr0 (off := 0) rfl T.u31 rfl) (Zv (OV.load1 (v := .int .i64 u.kind) rfl T.u3 rfl (fun _ hw => (cell_at (hw.it _ (.head _)) (o := 0) rfl).1)) (Zv (OV.neq rfl rfl) (Nn ?_)))))))))
  refine Cc rfl (fun c9 => ?_) (fun c9 => ?_)
  · refine Csr (Zv (OV.fieldAddr0 (off := 0) rfl T.u31 rfl) (Zv (OV.load1 (v := .int .i64 t.kind) rfl T.u3 rfl (fun _ hw => (cell_at (hw.it _ (.tail _ (.head _))) (o := 0) rfl).1)) (Zv (OV.fieldAddr0 (off := 0) rfl T.u31 rfl) (Zv (OV.load1 (v := .int .i64 u.kind) rfl T.u3 rfl (fun _ hw => (cell_at (hw.it _ (.head _)) (o := 0) rfl).1)) (WL.call0 (v := .int .i64 (cmpN t.kind u.kind)) (by kernel_rfl) rfl rfl (fun w' hw' => refInts_calls _ _ w') ?_)))))
    refine Za rfl (Nn (WC.ret ?_))
    refine Xr ?_
    exact WX.ret1 rfl rfl rfl (fun w' hw => ⟨by clear hw; rw [cmpT_k c9], hw.fr⟩)
  refine Ck (Xn (Cs (Csr (Zv (OV.fieldAddr0 (off := 1) rfl T.u31 rfl) (Zv (OV.load1 (v := .int .i64 t.n) rfl T.u3 rfl (fun _ hw => (cell_at (hw.it _ (.tail _ (.head _))) (o := 1) rfl).1)) (Zv (OV.fieldAddr0 (off := 1) rfl T.u31 rfl) (Zv (OV.load1 (v := .int .i64 u.n) rfl T.u3 rfl (fun _ hw => (cell_at (hw.it _ (.head _)) (o := 1) rfl).1)) (Zv (OV.neq rfl rfl) (Nn ?_)))))))))
  refine Cc rfl (fun c19 => ?_) (fun c19 => ?_)
  · refine Csr (Zv (OV.fieldAddr0 (off := 1) rfl T.u31 rfl) (Zv (OV.load1 (v := .int .i64 t.n) rfl T.u3 rfl (fun _ hw => (cell_at (hw.it _ (.tail _ (.head _))) (o := 1) rfl).1)) (Zv (OV.fieldAddr0 (off := 1) rfl T.u31 rfl) (Zv (OV.load1 (v := .int .i64 u.n) rfl T.u3 rfl (fun _ hw => (cell_at (hw.it _ (.head _)) (o := 1) rfl).1)) (WL.call0 (v := .int .i64 (cmpN t.n u.n)) (by kernel_rfl) rfl rfl (fun w' hw' => refInts_calls _ _ w') ?_)))))
    refine Za rfl (Nn (WC.ret ?_))
    refine Xr ?_
    exact WX.ret1 rfl rfl rfl (fun w' hw => ⟨by clear hw; rw [cmpT_n c9 c19], hw.fr⟩)
  refine Ck (Xn (Csr (Zv (OV.fieldAddr0 (off := 2) rfl T.u31 rfl) (Zv (OV.load1 (v := .string t.s) rfl T.u9 rfl (fun _ hw => (cell_at (hw.it _ (.tail _ (.head _))) (o := 2) rfl).1)) (Zv (OV.fieldAddr0 (off := 2) rfl T.u31 rfl) (Zv (OV.load1 (v := .string u.s) rfl T.u9 rfl (fun _ hw => (cell_at (hw.it _ (.head _)) (o := 2) rfl).1)) (WL.call0 (v := .int .i64 (cmpS t.s u.s)) (by kernel_rfl) rfl rfl (fun w' hw' => texts_calls _ _ ht hu w') ?_)))))))
  refine Za rfl (Nn (WC.ret ?_))
  exact WX.ret1 rfl rfl rfl (fun w' hw => ⟨by clear hw; rw [cmpT_s c9 c19], hw.fr⟩)

theorem refCmpA_calls (x y : At) (a1 a2 : Option Addr) (c1 c2 : Nat) (hx : AtS x) (hy : AtS y) (w : World) (hr1 : RT w a1 x.args) (hr2 : RT w a2 y.args) : Calls Tryz.prog 122 #[atV x a1 c1, atV y a2 c2] w fun e w' => e = .returned (.int .i64 (cmpA x y)) ∧ Fr0 w w' := by
  refine enterS (args := [atV x a1 c1, atV y a2 c2]) (fun _ => False) Tryz.func122 rfl Tryz.ntmps122 rfl rfl ?_
  refine Csr (WL.box rfl rfl rfl ?_)
  intro b2
  refine WL.box rfl rfl rfl ?_
  intro b3
  refine Za rfl (Nn (Csr (Zv (OV.fieldAddr0 (off := 3) rfl T.u34 rfl) (Zv (OV.load1 (v := .string x.name) rfl T.u9 rfl (fun _ hw => (cell_at (hw.it _ (.tail _ (.head _))) (o := 3) rfl).1)) (Zv (OV.fieldAddr0 (off := 3) rfl T.u34 rfl) (Zv (OV.load1 (v := .string y.name) rfl T.u9 rfl (fun _ hw => (cell_at (hw.it _ (.head _)) (o := 3) rfl).1)) (WL.call0 (v := .int .i64 (cmpS x.name y.name)) (by kernel_rfl) rfl rfl (fun w' hw' => texts_calls _ _ hx.name hy.name w') ?_)))))))
  refine Za rfl (Nn (Cs (Csr (Zm rfl (Zv (OV.eql rfl rfl) (Nn ?_))))))
  refine Cc rfl (fun c13 => ?_) (fun c13 => ?_)
  · refine Cr (Zv (OV.fieldAddr0 (off := 4) rfl T.u34 rfl) (Zv (OV.load1 (v := .slice a1 x.args.length c1) rfl T.u32 rfl (fun _ hw => (cell_at (hw.it _ (.tail _ (.head _))) (o := 4) rfl).1)) (Zv (OV.lenSlice rfl T.u32) (Zv (OV.fieldAddr0 (off := 4) rfl T.u34 rfl) (Zv (OV.load1 (v := .slice a2 y.args.length c2) rfl T.u32 rfl (fun _ hw => (cell_at (hw.it _ (.head _)) (o := 4) rfl).1)) (Zv (OV.lenSlice rfl T.u32) (WL.call0 (v := .int .i64 (cmpN x.args.length y.args.length)) (by kernel_rfl) rfl rfl (fun w' hw' => refInts_calls _ _ w') ?_)))))))
    refine Za rfl (Nn (Cs (Csr (Zm rfl (Zv (OV.eql rfl rfl) (Nn ?_))))))
    refine Cc rfl (fun c22 => ?_) (fun c22 => ?_)
    · refine Cr (Zv (OV.fieldAddr0 (off := 0) rfl T.u34 rfl) (Zv (OV.loadN (cs := tmC x.b) rfl T.u31 rfl T.z31 (fun _ hw j v hj => by rw [add_off]; exact own_part hw (.tail _ (.head _)) (o := 0) (cs' := tmC x.b) rfl j v hj)) (Zv (OV.fieldAddr0 (off := 0) rfl T.u34 rfl) (Zv (OV.loadN (cs := tmC y.b) rfl T.u31 rfl T.z31 (fun _ hw j v hj => by rw [add_off]; exact own_part hw (.head _) (o := 0) (cs' := tmC y.b) rfl j v hj)) (WL.call0 (v := .int .i64 (cmpT x.b y.b)) (by kernel_rfl) rfl rfl (fun w' hw' => refCmpT_calls _ _ hx.b hy.b w') ?_)))))
      refine Za rfl (Nn (Cs (Csr (Za rfl (Nn (Cb ?_))))))
      have hc0 : cmpT x.b y.b = (if cmpS x.name y.name ≠ 0 then cmpS x.name y.name else if cmpN x.args.length y.args.length ≠ 0 then cmpN x.args.length y.args.length else cmpT x.b y.b) := by rw [if_neg (by simpa using c13), if_neg (by simpa using c22)]
      refine WC.loop2 (fun (i : Nat) (c : Int) => [(2, .pointer (some ⟨b2, 0, none⟩)), (3, .pointer (some ⟨b3, 0, none⟩)), (5, .int .i64 c), (6, .int .i64 (i : Int))])
          (fun i c w' => (i ≤ x.args.length ∧ (c = 0 → x.args.length = y.args.length) ∧ cmpA x y = if c ≠ 0 then c else cmpList cmpT (x.args.drop i) (y.args.drop i)) ∧ Sat0 w (own b3 (.cells (atC y a2 c2).toArray 34 (0, 0)) :: own b2 (.cells (atC x a1 c1).toArray 34 (0, 0)) :: []) w')
          (fun i _ => x.args.length - i) 0 (cmpT x.b y.b) ⟨rfl, rfl, rfl, rfl, trivial⟩ (fun w' hw => ⟨⟨by omega, cmpA_len hc0, cmpA_go hc0⟩, hw⟩) ?_
      intro i c
      refine WC.pure (fun hi => ?_)
      obtain ⟨hi, hl, hz⟩ := hi
      refine Cs (Csr (Zm rfl (Zv (OV.eql rfl rfl) (Zm rfl ?_))))
      refine Zp (t := 30) rfl (fun g30 => ?_) (fun g30 => ?_)
      · refine Zg rfl rfl rfl (Zm rfl (Zg rfl rfl rfl (Zv (OV.fieldAddr0 (off := 4) rfl T.u34 rfl) (Zg rfl rfl rfl (Zv (OV.load1 (v := .slice a1 x.args.length c1) rfl T.u32 rfl (fun _ hw => (cell_at (hw.it _ (.tail _ (.head _))) (o := 4) rfl).1)) (Zg rfl rfl rfl (Zv (OV.lenSlice rfl T.u32) (Zg rfl rfl rfl (Zv (OV.lss rfl rfl) (Zv (OV.pickT rfl rfl) (Nn ?_)))))))))))
        refine Cc rfl (fun c36 => ?_) (fun c36 => ?_)
        · refine Ck (Xn (Cs (Cb (Hd (fun w' => (w'.heap[b2]? = some (.cells (atC x a1 c1).toArray 34 (0, 0)) ∧ w'.heap[b3]? = some (.cells (atC y a2 c2).toArray 34 (0, 0))) ∧ Keeps w w') [] (fun _ hw => ⟨⟨hw.it (own b2 (.cells (atC x a1 c1).toArray 34 (0, 0))) (by simp), hw.it (own b3 (.cells (atC y a2 c2).toArray 34 (0, 0))) (by simp)⟩, hw.keeps⟩) (m := 12) rfl ?_))))
          refine Hf 0 rfl (OV.fieldAddr0 (off := 4) rfl T.u34 rfl) (Ht 1 rfl (OV.load1 (v := .slice a1 x.args.length c1) rfl T.u32 rfl (fun _ hw => (cell_at hw.1.1 (o := 4) rfl).1)) (Hf 2 rfl (OV.move rfl) ?_))
          have hll := hl g30
          obtain ⟨q1, t1, hq1, ht1, hm1, _, hc1⟩ := hr1.get (i := i) (by omega)
          refine Hf 3 rfl ((OV.indexSlice (show _ = some (Value.slice (some q1) x.args.length c1) by rw [← hq1]; rfl) rfl T.u32 T.z31 (by omega)).cast (u := .pointer (some (q1.add (i * 3)))) (by rw [Int.toNat_natCast])) (Ht 4 rfl (OV.loadN (cs := tmC t1) rfl T.u31 rfl T.z31 (fun _ hw j v hj => hw.2 _ _ (hc1 j v hj))) (Hf 5 rfl (OV.fieldAddr0 (off := 4) rfl T.u34 rfl) (Ht 6 rfl (OV.load1 (v := .slice a2 y.args.length c2) rfl T.u32 rfl (fun _ hw => (cell_at hw.1.2 (o := 4) rfl).1)) (Hf 7 rfl (OV.move rfl) ?_))))
          obtain ⟨q2, t2, hq2, ht2, hm2, _, hc2⟩ := hr2.get (i := i) (by omega)
          refine Hf 8 rfl ((OV.indexSlice (show _ = some (Value.slice (some q2) y.args.length c2) by rw [← hq2]; rfl) rfl T.u32 T.z31 (by omega)).cast (u := .pointer (some (q2.add (i * 3)))) (by rw [Int.toNat_natCast])) (Ht 9 rfl (OV.loadN (cs := tmC t2) rfl T.u31 rfl T.z31 (fun _ hw j v hj => hw.2 _ _ (hc2 j v hj))) (Ho 10 rfl (fl' := false) rfl ?_))
          refine WL.call0 (v := .int .i64 (cmpT t1 t2)) (by kernel_rfl) rfl rfl (fun w' hw' => refCmpT_calls _ _ (hx.args _ hm1) (hy.args _ hm2) w') ?_
          refine Hc (fun _ => (fun _ hw => ⟨⟨hw.it (own b2 (.cells (atC x a1 c1).toArray 34 (0, 0))) (by simp), hw.it (own b3 (.cells (atC y a2 c2).toArray 34 (0, 0))) (by simp)⟩, hw.keeps⟩)) ?_
          refine Hf 11 rfl (OV.assign rfl) (He (Xb (Xn (Cr (Zm rfl (Zv (OV.addN (j := 1) rfl rfl (by have := hx.len; omega)) (Za rfl (Nl ?_))))))))
          have hstep := cmpA_step ht1 ht2
          refine WX.round2 (i + 1) (cmpT t1 t2) ⟨rfl, rfl, rfl, rfl, trivial⟩ (fun w' hw => ⟨⟨by omega, fun _ => hl g30, by rw [hz, if_neg (by omega), hstep]⟩, hw⟩) (by show x.args.length - (i + 1) < x.args.length - i; omega)
        refine Ce (Xe (Xe (Xh (Xn (Csr (Zm rfl (Za rfl (Nn (WC.ret ?_)))))))))
        exact WX.ret1 rfl rfl rfl (fun w' hw => ⟨by clear hw; congr 2; rw [hz]; split <;> first | rfl | (rw [cmpA_end (by omega) (by omega)]; omega) | omega, hw.fr⟩)
      refine Zs rfl rfl rfl (Zs rfl rfl rfl (Zs rfl rfl rfl (Zs rfl rfl rfl (Zs rfl rfl rfl (Zv (OV.pickF rfl rfl) (Nn (WC.condF rfl ?_)))))))
      refine Ce (Xe (Xe (Xh (Xn (Csr (Zm rfl (Za rfl (Nn (WC.ret ?_)))))))))
      exact WX.ret1 rfl rfl rfl (fun w' hw => ⟨by clear hw; congr 2; rw [hz, if_pos g30], hw.fr⟩)
    refine Ck (Xn (Cs (Csr (Za rfl (Nn (Cb ?_))))))
    have hc0 : cmpN x.args.length y.args.length = (if cmpS x.name y.name ≠ 0 then cmpS x.name y.name else if cmpN x.args.length y.args.length ≠ 0 then cmpN x.args.length y.args.length else cmpT x.b y.b) := by rw [if_neg (by simpa using c13), if_pos (by simpa using c22)]
    refine WC.loop2 (fun (i : Nat) (c : Int) => [(2, .pointer (some ⟨b2, 0, none⟩)), (3, .pointer (some ⟨b3, 0, none⟩)), (5, .int .i64 c), (6, .int .i64 (i : Int))])
        (fun i c w' => (i ≤ x.args.length ∧ (c = 0 → x.args.length = y.args.length) ∧ cmpA x y = if c ≠ 0 then c else cmpList cmpT (x.args.drop i) (y.args.drop i)) ∧ Sat0 w (own b3 (.cells (atC y a2 c2).toArray 34 (0, 0)) :: own b2 (.cells (atC x a1 c1).toArray 34 (0, 0)) :: []) w')
        (fun i _ => x.args.length - i) 0 (cmpN x.args.length y.args.length) ⟨rfl, rfl, rfl, rfl, trivial⟩ (fun w' hw => ⟨⟨by omega, cmpA_len hc0, cmpA_go hc0⟩, hw⟩) ?_
    intro i c
    refine WC.pure (fun hi => ?_)
    obtain ⟨hi, hl, hz⟩ := hi
    refine Cs (Csr (Zm rfl (Zv (OV.eql rfl rfl) (Zm rfl ?_))))
    refine Zp (t := 30) rfl (fun g30 => ?_) (fun g30 => ?_)
    · refine Zg rfl rfl rfl (Zm rfl (Zg rfl rfl rfl (Zv (OV.fieldAddr0 (off := 4) rfl T.u34 rfl) (Zg rfl rfl rfl (Zv (OV.load1 (v := .slice a1 x.args.length c1) rfl T.u32 rfl (fun _ hw => (cell_at (hw.it _ (.tail _ (.head _))) (o := 4) rfl).1)) (Zg rfl rfl rfl (Zv (OV.lenSlice rfl T.u32) (Zg rfl rfl rfl (Zv (OV.lss rfl rfl) (Zv (OV.pickT rfl rfl) (Nn ?_)))))))))))
      refine Cc rfl (fun c36 => ?_) (fun c36 => ?_)
      · refine Ck (Xn (Cs (Cb (Hd (fun w' => (w'.heap[b2]? = some (.cells (atC x a1 c1).toArray 34 (0, 0)) ∧ w'.heap[b3]? = some (.cells (atC y a2 c2).toArray 34 (0, 0))) ∧ Keeps w w') [] (fun _ hw => ⟨⟨hw.it (own b2 (.cells (atC x a1 c1).toArray 34 (0, 0))) (by simp), hw.it (own b3 (.cells (atC y a2 c2).toArray 34 (0, 0))) (by simp)⟩, hw.keeps⟩) (m := 12) rfl ?_))))
        refine Hf 0 rfl (OV.fieldAddr0 (off := 4) rfl T.u34 rfl) (Ht 1 rfl (OV.load1 (v := .slice a1 x.args.length c1) rfl T.u32 rfl (fun _ hw => (cell_at hw.1.1 (o := 4) rfl).1)) (Hf 2 rfl (OV.move rfl) ?_))
        have hll := hl g30
        obtain ⟨q1, t1, hq1, ht1, hm1, _, hc1⟩ := hr1.get (i := i) (by omega)
        refine Hf 3 rfl ((OV.indexSlice (show _ = some (Value.slice (some q1) x.args.length c1) by rw [← hq1]; rfl) rfl T.u32 T.z31 (by omega)).cast (u := .pointer (some (q1.add (i * 3)))) (by rw [Int.toNat_natCast])) (Ht 4 rfl (OV.loadN (cs := tmC t1) rfl T.u31 rfl T.z31 (fun _ hw j v hj => hw.2 _ _ (hc1 j v hj))) (Hf 5 rfl (OV.fieldAddr0 (off := 4) rfl T.u34 rfl) (Ht 6 rfl (OV.load1 (v := .slice a2 y.args.length c2) rfl T.u32 rfl (fun _ hw => (cell_at hw.1.2 (o := 4) rfl).1)) (Hf 7 rfl (OV.move rfl) ?_))))
        obtain ⟨q2, t2, hq2, ht2, hm2, _, hc2⟩ := hr2.get (i := i) (by omega)
        refine Hf 8 rfl ((OV.indexSlice (show _ = some (Value.slice (some q2) y.args.length c2) by rw [← hq2]; rfl) rfl T.u32 T.z31 (by omega)).cast (u := .pointer (some (q2.add (i * 3)))) (by rw [Int.toNat_natCast])) (Ht 9 rfl (OV.loadN (cs := tmC t2) rfl T.u31 rfl T.z31 (fun _ hw j v hj => hw.2 _ _ (hc2 j v hj))) (Ho 10 rfl (fl' := false) rfl ?_))
        refine WL.call0 (v := .int .i64 (cmpT t1 t2)) (by kernel_rfl) rfl rfl (fun w' hw' => refCmpT_calls _ _ (hx.args _ hm1) (hy.args _ hm2) w') ?_
        refine Hc (fun _ => (fun _ hw => ⟨⟨hw.it (own b2 (.cells (atC x a1 c1).toArray 34 (0, 0))) (by simp), hw.it (own b3 (.cells (atC y a2 c2).toArray 34 (0, 0))) (by simp)⟩, hw.keeps⟩)) ?_
        refine Hf 11 rfl (OV.assign rfl) (He (Xb (Xn (Cr (Zm rfl (Zv (OV.addN (j := 1) rfl rfl (by have := hx.len; omega)) (Za rfl (Nl ?_))))))))
        have hstep := cmpA_step ht1 ht2
        refine WX.round2 (i + 1) (cmpT t1 t2) ⟨rfl, rfl, rfl, rfl, trivial⟩ (fun w' hw => ⟨⟨by omega, fun _ => hl g30, by rw [hz, if_neg (by omega), hstep]⟩, hw⟩) (by show x.args.length - (i + 1) < x.args.length - i; omega)
      refine Ce (Xe (Xe (Xh (Xn (Csr (Zm rfl (Za rfl (Nn (WC.ret ?_)))))))))
      exact WX.ret1 rfl rfl rfl (fun w' hw => ⟨by clear hw; congr 2; rw [hz]; split <;> first | rfl | (rw [cmpA_end (by omega) (by omega)]; omega) | omega, hw.fr⟩)
    refine Zs rfl rfl rfl (Zs rfl rfl rfl (Zs rfl rfl rfl (Zs rfl rfl rfl (Zs rfl rfl rfl (Zv (OV.pickF rfl rfl) (Nn (WC.condF rfl ?_)))))))
    refine Ce (Xe (Xe (Xh (Xn (Csr (Zm rfl (Za rfl (Nn (WC.ret ?_)))))))))
    exact WX.ret1 rfl rfl rfl (fun w' hw => ⟨by clear hw; congr 2; rw [hz, if_pos g30], hw.fr⟩)
  refine Ck (Xn (Cs (Csr (Zm rfl (Zv (OV.eql rfl rfl) (Nn (WC.condF (show _ = some (Value.bool false) from by exact congrArg (fun b => some (Value.bool b)) (decide_eq_false c13)) ?_)))))))
  refine Ck (Xn (Cs (Csr (Za rfl (Nn (Cb ?_))))))
  have hc0 : cmpS x.name y.name = (if cmpS x.name y.name ≠ 0 then cmpS x.name y.name else if cmpN x.args.length y.args.length ≠ 0 then cmpN x.args.length y.args.length else cmpT x.b y.b) := by rw [if_pos (by simpa using c13)]
  refine WC.loop2 (fun (i : Nat) (c : Int) => [(2, .pointer (some ⟨b2, 0, none⟩)), (3, .pointer (some ⟨b3, 0, none⟩)), (5, .int .i64 c), (6, .int .i64 (i : Int))])
      (fun i c w' => (i ≤ x.args.length ∧ (c = 0 → x.args.length = y.args.length) ∧ cmpA x y = if c ≠ 0 then c else cmpList cmpT (x.args.drop i) (y.args.drop i)) ∧ Sat0 w (own b3 (.cells (atC y a2 c2).toArray 34 (0, 0)) :: own b2 (.cells (atC x a1 c1).toArray 34 (0, 0)) :: []) w')
      (fun i _ => x.args.length - i) 0 (cmpS x.name y.name) ⟨rfl, rfl, rfl, rfl, trivial⟩ (fun w' hw => ⟨⟨by omega, cmpA_len hc0, cmpA_go hc0⟩, hw⟩) ?_
  intro i c
  refine WC.pure (fun hi => ?_)
  obtain ⟨hi, hl, hz⟩ := hi
  refine Cs (Csr (Zm rfl (Zv (OV.eql rfl rfl) (Zm rfl ?_))))
  refine Zp (t := 30) rfl (fun g30 => ?_) (fun g30 => ?_)
  · refine Zg rfl rfl rfl (Zm rfl (Zg rfl rfl rfl (Zv (OV.fieldAddr0 (off := 4) rfl T.u34 rfl) (Zg rfl rfl rfl (Zv (OV.load1 (v := .slice a1 x.args.length c1) rfl T.u32 rfl (fun _ hw => (cell_at (hw.it _ (.tail _ (.head _))) (o := 4) rfl).1)) (Zg rfl rfl rfl (Zv (OV.lenSlice rfl T.u32) (Zg rfl rfl rfl (Zv (OV.lss rfl rfl) (Zv (OV.pickT rfl rfl) (Nn ?_)))))))))))
    refine Cc rfl (fun c36 => ?_) (fun c36 => ?_)
    · refine Ck (Xn (Cs (Cb (Hd (fun w' => (w'.heap[b2]? = some (.cells (atC x a1 c1).toArray 34 (0, 0)) ∧ w'.heap[b3]? = some (.cells (atC y a2 c2).toArray 34 (0, 0))) ∧ Keeps w w') [] (fun _ hw => ⟨⟨hw.it (own b2 (.cells (atC x a1 c1).toArray 34 (0, 0))) (by simp), hw.it (own b3 (.cells (atC y a2 c2).toArray 34 (0, 0))) (by simp)⟩, hw.keeps⟩) (m := 12) rfl ?_))))
      refine Hf 0 rfl (OV.fieldAddr0 (off := 4) rfl T.u34 rfl) (Ht 1 rfl (OV.load1 (v := .slice a1 x.args.length c1) rfl T.u32 rfl (fun _ hw => (cell_at hw.1.1 (o := 4) rfl).1)) (Hf 2 rfl (OV.move rfl) ?_))
      have hll := hl g30
      obtain ⟨q1, t1, hq1, ht1, hm1, _, hc1⟩ := hr1.get (i := i) (by omega)
      refine Hf 3 rfl ((OV.indexSlice (show _ = some (Value.slice (some q1) x.args.length c1) by rw [← hq1]; rfl) rfl T.u32 T.z31 (by omega)).cast (u := .pointer (some (q1.add (i * 3)))) (by rw [Int.toNat_natCast])) (Ht 4 rfl (OV.loadN (cs := tmC t1) rfl T.u31 rfl T.z31 (fun _ hw j v hj => hw.2 _ _ (hc1 j v hj))) (Hf 5 rfl (OV.fieldAddr0 (off := 4) rfl T.u34 rfl) (Ht 6 rfl (OV.load1 (v := .slice a2 y.args.length c2) rfl T.u32 rfl (fun _ hw => (cell_at hw.1.2 (o := 4) rfl).1)) (Hf 7 rfl (OV.move rfl) ?_))))
      obtain ⟨q2, t2, hq2, ht2, hm2, _, hc2⟩ := hr2.get (i := i) (by omega)
      refine Hf 8 rfl ((OV.indexSlice (show _ = some (Value.slice (some q2) y.args.length c2) by rw [← hq2]; rfl) rfl T.u32 T.z31 (by omega)).cast (u := .pointer (some (q2.add (i * 3)))) (by rw [Int.toNat_natCast])) (Ht 9 rfl (OV.loadN (cs := tmC t2) rfl T.u31 rfl T.z31 (fun _ hw j v hj => hw.2 _ _ (hc2 j v hj))) (Ho 10 rfl (fl' := false) rfl ?_))
      refine WL.call0 (v := .int .i64 (cmpT t1 t2)) (by kernel_rfl) rfl rfl (fun w' hw' => refCmpT_calls _ _ (hx.args _ hm1) (hy.args _ hm2) w') ?_
      refine Hc (fun _ => (fun _ hw => ⟨⟨hw.it (own b2 (.cells (atC x a1 c1).toArray 34 (0, 0))) (by simp), hw.it (own b3 (.cells (atC y a2 c2).toArray 34 (0, 0))) (by simp)⟩, hw.keeps⟩)) ?_
      refine Hf 11 rfl (OV.assign rfl) (He (Xb (Xn (Cr (Zm rfl (Zv (OV.addN (j := 1) rfl rfl (by have := hx.len; omega)) (Za rfl (Nl ?_))))))))
      have hstep := cmpA_step ht1 ht2
      refine WX.round2 (i + 1) (cmpT t1 t2) ⟨rfl, rfl, rfl, rfl, trivial⟩ (fun w' hw => ⟨⟨by omega, fun _ => hl g30, by rw [hz, if_neg (by omega), hstep]⟩, hw⟩) (by show x.args.length - (i + 1) < x.args.length - i; omega)
    refine Ce (Xe (Xe (Xh (Xn (Csr (Zm rfl (Za rfl (Nn (WC.ret ?_)))))))))
    exact WX.ret1 rfl rfl rfl (fun w' hw => ⟨by clear hw; congr 2; rw [hz]; split <;> first | rfl | (rw [cmpA_end (by omega) (by omega)]; omega) | omega, hw.fr⟩)
  refine Zs rfl rfl rfl (Zs rfl rfl rfl (Zs rfl rfl rfl (Zs rfl rfl rfl (Zs rfl rfl rfl (Zv (OV.pickF rfl rfl) (Nn (WC.condF rfl ?_)))))))
  refine Ce (Xe (Xe (Xh (Xn (Csr (Zm rfl (Za rfl (Nn (WC.ret ?_)))))))))
  exact WX.ret1 rfl rfl rfl (fun w' hw => ⟨by clear hw; congr 2; rw [hz, if_pos g30], hw.fr⟩)

theorem refSame_calls (x y : At) (a1 a2 : Option Addr) (c1 c2 : Nat) (hx : AtS x) (hy : AtS y) (w : World) (hr1 : RT w a1 x.args) (hr2 : RT w a2 y.args) : Calls Tryz.prog 123 #[atV x a1 c1, atV y a2 c2] w fun e w' => e = .returned (.bool (decide (x = y))) ∧ Fr0 w w' := by
  refine enterS (args := [atV x a1 c1, atV y a2 c2]) (fun _ => False) Tryz.func123 rfl Tryz.ntmps123 rfl rfl ?_
  refine Csr (WL.box rfl rfl rfl ?_)
  intro b2
  refine WL.box rfl rfl rfl ?_
  intro b3
  refine Za rfl (Nn (Csr (Zv (OV.loadN (cs := atC x a1 c1) rfl T.u34 rfl T.z34 (fun _ hw j v hj => by rw [add_off, Nat.zero_add]; exact own_cells hw (.tail _ (.head _)) j v hj)) (Zv (OV.loadN (cs := atC y a2 c2) rfl T.u34 rfl T.z34 (fun _ hw j v hj => by rw [add_off, Nat.zero_add]; exact own_cells hw (.head _) j v hj)) (WL.call0 (v := .int .i64 (cmpA x y)) (by kernel_rfl) rfl rfl (fun w' hw' => refCmpA_calls x y a1 a2 c1 c2 hx hy w' (hr1.keeps hw'.keeps) (hr2.keeps hw'.keeps)) ?_)))))
  refine Zv (OV.eql rfl rfl) (Za rfl (Nn (WC.ret ?_)))
  exact WX.ret1 rfl rfl rfl (fun w' hw => ⟨by clear hw; rw [← cmpA_same], hw.fr⟩)

end Go.Proofs.YtgiiifadbnpfkaaGreatDoor

set_option maxRecDepth 10000
namespace Go.Proofs.YtgiiifadbnpfkaaGreatDoor
open Go Go.Hw
set_option linter.unusedSimpArgs false
set_option linter.unusedVariables false
section
open Go.ChangeShapes Go.WideShapes Go.ChangeAt Go.RowKit
variable {H : Type} {enc : TypeId × Value → H} {w : World} {base : Nat} {spare : Nat → Bool} {held : Bool} {r : Reach} {b0 : Nat}
def wtS (y : AG) : Nat := y.x.name.size + y.x.b.s.size + (y.x.args.map wtT).sum + 7
set_option maxRecDepth 100000 in
theorem trod_atomS {fuel : Nat} {cs : List Value} {x : DataW H × List MemPlace} (h : DataW.trod enc Tryz.prog w base spare held fuel 34 cs = some x) :
    ∃ y : AG, cs = agC y ∧ RT w y.a y.x.args ∧ wtS y ≤ Rows.uptoBulk x.1 := by
  obtain ⟨xs, n, rfl, rfl, hl, hxs, hf⟩ := DataW.trod_struct T.u34 h
  have hl5 : cs.length = 5 := by rw [hl]; kernel_rfl
  have cT : Program.cellsOf Tryz.prog 31 = 3 := by kernel_rfl
  have cS : Program.cellsOf Tryz.prog 9 = 1 := by kernel_rfl
  have cL : Program.cellsOf Tryz.prog 32 = 1 := by kernel_rfl
  match cs, hl5 with
  | [v0, v1, v2, v3, v4], _ =>
    match xs, hxs with
    | [x0, x1, x2], _ =>
      have k0 : DataW.trod enc Tryz.prog w base spare held n 31 [v0, v1, v2] = some x0 := by
        have k : DataW.trod enc Tryz.prog w base spare held n 31 (List.take (Program.cellsOf Tryz.prog 31) (List.drop 0 [v0, v1, v2, v3, v4])) = some x0 := hf 0 _ rfl
        rw [cT] at k; exact k
      have k1 : DataW.trod enc Tryz.prog w base spare held n 9 [v3] = some x1 := by
        have k : DataW.trod enc Tryz.prog w base spare held n 9 (List.take (Program.cellsOf Tryz.prog 9) (List.drop 3 [v0, v1, v2, v3, v4])) = some x1 := hf 1 _ rfl
        rw [cS] at k; exact k
      have k2 : DataW.trod enc Tryz.prog w base spare held n 32 [v4] = some x2 := by
        have k : DataW.trod enc Tryz.prog w base spare held n 32 (List.take (Program.cellsOf Tryz.prog 32) (List.drop 4 [v0, v1, v2, v3, v4])) = some x2 := hf 2 _ rfl
        rw [cL] at k; exact k
      obtain ⟨t, e0, _, b0, _⟩ := trod_term k0
      obtain ⟨s, e1, rfl, w1⟩ := DataW.trod_string T.u9 k1
      obtain ⟨a, c, ts, e2, ha, hat, _, b2⟩ := trod_listN (default : Tm) T.u32 (by kernel_rfl) tmC tmC_len (fun _ => True) wtT (fun fuel cs x hx => by
        obtain ⟨t, e, _, hb, _⟩ := trod_term hx
        exact ⟨t, e, trivial, hb⟩) k2
      simp only [tmC, List.cons.injEq, and_true] at e0 e1 e2
      obtain ⟨rfl, rfl, rfl⟩ := e0
      subst e1; subst e2
      refine ⟨⟨⟨t, s, ts⟩, a, c⟩, rfl, ⟨ha, hat⟩, ?_⟩
      have h1 := len_wt wtT (k := 1) (fun y => by unfold wtT; omega) ts
      have h2 : s.data.toList.length = s.size := by simp
      unfold wtT at b0
      simp only [List.map_cons, List.map_nil, Rows.uptoBulk, Rows.uptoBulkAll, wtS]
      omega
def wtOS (o : OpB) : Nat := wtS o.y + 4
set_option maxRecDepth 100000 in
theorem trod_opS {fuel : Nat} {cs : List Value} {x : DataW H × List MemPlace} (h : DataW.trod enc Tryz.prog w base spare held fuel 65 cs = some x) :
    ∃ o : OpB, cs = opB o ∧ RT w o.y.a o.y.x.args ∧ wtOS o ≤ Rows.uptoBulk x.1 := by
  obtain ⟨xs, n, rfl, rfl, hl, hxs, hf⟩ := DataW.trod_struct T.u65 h
  have hl8 : cs.length = 8 := by rw [hl]; kernel_rfl
  have cI : Program.cellsOf Tryz.prog 3 = 1 := by kernel_rfl
  have cA : Program.cellsOf Tryz.prog 34 = 5 := by kernel_rfl
  have cB : Program.cellsOf Tryz.prog 4 = 1 := by kernel_rfl
  match cs, hl8 with
  | [v0, v1, v2, v3, v4, v5, v6, v7], _ =>
    match xs, hxs with
    | [x0, x1, x2, x3], _ =>
      have k0 : DataW.trod enc Tryz.prog w base spare held n 3 [v0] = some x0 := by
        have k : DataW.trod enc Tryz.prog w base spare held n 3 (List.take (Program.cellsOf Tryz.prog 3) (List.drop 0 [v0, v1, v2, v3, v4, v5, v6, v7])) = some x0 := hf 0 _ rfl
        rw [cI] at k; exact k
      have k1 : DataW.trod enc Tryz.prog w base spare held n 34 [v1, v2, v3, v4, v5] = some x1 := by
        have k : DataW.trod enc Tryz.prog w base spare held n 34 (List.take (Program.cellsOf Tryz.prog 34) (List.drop 1 [v0, v1, v2, v3, v4, v5, v6, v7])) = some x1 := hf 1 _ rfl
        rw [cA] at k; exact k
      have k2 : DataW.trod enc Tryz.prog w base spare held n 3 [v6] = some x2 := by
        have k : DataW.trod enc Tryz.prog w base spare held n 3 (List.take (Program.cellsOf Tryz.prog 3) (List.drop 6 [v0, v1, v2, v3, v4, v5, v6, v7])) = some x2 := hf 2 _ rfl
        rw [cI] at k; exact k
      have k3 : DataW.trod enc Tryz.prog w base spare held n 4 [v7] = some x3 := by
        have k : DataW.trod enc Tryz.prog w base spare held n 4 (List.take (Program.cellsOf Tryz.prog 4) (List.drop 7 [v0, v1, v2, v3, v4, v5, v6, v7])) = some x3 := hf 3 _ rfl
        rw [cB] at k; exact k
      obtain ⟨kind, e0, rfl, w0⟩ := DataW.trod_int T.u3 k0
      obtain ⟨y, e1, r1, b1⟩ := trod_atomS k1
      obtain ⟨num, e2, rfl, w2⟩ := DataW.trod_int T.u3 k2
      obtain ⟨other, e3, rfl⟩ := DataW.trod_bool T.u4 k3
      simp only [agC, atC, List.cons.injEq, and_true] at e0 e1 e2 e3
      obtain ⟨rfl, rfl, rfl, rfl, rfl⟩ := e1
      subst e0; subst e2; subst e3
      refine ⟨⟨kind, y, num, other⟩, rfl, r1, ?_⟩
      simp only [List.map_cons, List.map_nil, Rows.uptoBulk, Rows.uptoBulkAll, wtOS]
      omega
set_option maxRecDepth 100000 in
theorem open_opsS {v : Value} {d : DataW H} {p : List MemPlace} (hv : Value.okWide Tryz.prog w r b0 22 v) (h : DataW.Trod enc Tryz.prog w base spare held 22 v d p) :
    ∃ a c os, v = .slice a os.length c ∧ ROp w a os ∧ (os.map wtOS).sum + 1 ≤ Rows.uptoBulk d := by
  obtain ⟨fuel, hf⟩ := h
  obtain ⟨a, c, os, e, ha, hat, hg, hb⟩ := trod_listN (⟨0, ⟨default, none, 0⟩, 0, false⟩ : OpB) (s := 8) T.u22 (by kernel_rfl) opB opB_len (fun o => RT w o.y.a o.y.x.args) wtOS (fun fuel cs x hx => by
    obtain ⟨o, e, h1, h2⟩ := trod_opS hx
    exact ⟨o, e, h1, h2⟩) hf
  exact ⟨a, c, os, slice_of_ok (P := Tryz.prog) T.u22 hv e, ⟨ha, hat, hg⟩, hb⟩

theorem wtS_AtS {y : AG} (h : wtS y ≤ 1048576) : AtS y.x := by
  unfold wtS at h
  have h1 := len_wt wtT (k := 1) (fun y => by unfold wtT; omega) y.x.args
  refine ⟨by omega, by omega, by omega, fun t ht => ?_⟩
  have h2 := le_sum wtT ht
  have h3 : wtT t = t.s.size + 4 := rfl
  omega
theorem ops_okS {os : List OpB} (h : (os.map wtOS).sum + 1 ≤ 1048576) : os.length ≤ 1048576 ∧ ∀ o ∈ os, AtS o.y.x := by
  have h1 := len_wt wtOS (k := 1) (fun y => by unfold wtOS; omega) os
  refine ⟨by omega, fun o ho => wtS_AtS ?_⟩
  have h2 := le_sum wtOS ho
  have h3 : wtOS o = wtS o.y + 4 := rfl
  omega
theorem behind_laid {fuel : Nat} {cs : Array Value} {q : List MemPlace} (hg : Program.globalNamed Tryz.prog "hearsay/hearsayref03.behindTerm" = some 0) (hv : w.var? Tryz.prog "hearsay/hearsayref03.behindTerm" = some cs) (hd : DataW.trod enc Tryz.prog w base spare held fuel 31 cs.toList = some (Rows.laid_hearsay_hearsayref03_behindTerm, q)) : BehindAt w := by
  obtain ⟨t, e, _, _, ht⟩ := trod_term hd
  have ht0 : t = TB := by
    simp only [Rows.laid_hearsay_hearsayref03_behindTerm, DataW.agg.injEq, List.cons.injEq, DataW.lit.injEq, Lit.int.injEq, true_and, Lit.string.injEq, and_true] at ht
    obtain ⟨h1, h2, h3⟩ := ht
    obtain ⟨k, n, s⟩ := t
    simp only at h1 h2 h3
    subst h1; subst h2
    have : s = ⟨#[98, 101, 104, 105, 110, 100]⟩ := by
      obtain ⟨⟨l⟩⟩ := s
      have h4 : ([98, 101, 104, 105, 110, 100] : List UInt8) = l := h3
      subst h4; rfl
    rw [this]; rfl
  intro j v hj
  rw [World.var?_cell hg hv j, ← Array.getElem?_toList, e, ht0]
  exact hj
end

end Go.Proofs.YtgiiifadbnpfkaaGreatDoor

set_option maxRecDepth 10000
namespace Go.Proofs.YtgiiifadbnpfkaaGreatDoor
open Go Go.Hw
set_option linter.unusedSimpArgs false
set_option linter.unusedVariables false
theorem snoc_ind {α : Type} {p : List α → Prop} (l : List α) (h0 : p []) (h1 : ∀ l x, p l → p (l ++ [x])) : p l := by
  have h : ∀ l : List α, p l.reverse := fun l => by
    induction l with
    | nil => exact h0
    | cons x l ih => rw [List.reverse_cons]; exact h1 _ _ ih
  have h2 := h l.reverse
  rwa [List.reverse_reverse] at h2
/-! ### The document's list of facts -/
def atD (L : List (At × Nat)) (x : At) : Nat := L.findIdx fun q => !decide (cmpA q.1 x < 0)
def insD (L : List (At × Nat)) (x : At) : List (At × Nat) := if factB x = true ∧ x ∉ L.map (·.1) then L.take (atD L x) ++ (x, 4) :: L.drop (atD L x) else L
def SD (L : List (At × Nat)) : Prop := L.Pairwise fun p q => cmpA p.1 q.1 < 0
theorem atD_le (L : List (At × Nat)) (x : At) : atD L x ≤ L.length := List.findIdx_le_length
theorem atD_lt {L : List (At × Nat)} {x : At} {j : Nat} {q : At × Nat} (hq : L[j]? = some q) (hj : j < atD L x) : cmpA q.1 x < 0 := by
  have h := List.not_of_lt_findIdx hj
  obtain ⟨hl, rfl⟩ := List.getElem?_eq_some_iff.1 hq
  simpa using h
theorem atD_at {L : List (At × Nat)} {x : At} {q : At × Nat} (hq : L[atD L x]? = some q) : ¬ cmpA q.1 x < 0 := by
  obtain ⟨hl, rfl⟩ := List.getElem?_eq_some_iff.1 hq
  have h : (!decide (cmpA (L[atD L x]).1 x < 0)) = true := List.findIdx_getElem (w := hl)
  simpa using h
theorem atD_is {L : List (At × Nat)} {x : At} {k : Nat} (hk : k ≤ L.length) (hb : ∀ j q, j < k → L[j]? = some q → cmpA q.1 x < 0) (ha : ∀ q, L[k]? = some q → ¬ cmpA q.1 x < 0) : atD L x = k := by
  rcases Nat.lt_trichotomy (atD L x) k with h | h | h
  · exact absurd (hb _ _ h (List.getElem?_eq_getElem (by omega))) (atD_at (List.getElem?_eq_getElem (by omega)))
  · exact h
  · have := atD_le L x
    exact absurd (atD_lt (List.getElem?_eq_getElem (by omega)) h) (ha _ (List.getElem?_eq_getElem (by omega)))
theorem SD.lt {L : List (At × Nat)} (h : SD L) {i j : Nat} {p q : At × Nat} (hp : L[i]? = some p) (hq : L[j]? = some q) (hij : i < j) : cmpA p.1 q.1 < 0 := by
  obtain ⟨h1, rfl⟩ := List.getElem?_eq_some_iff.1 hp
  obtain ⟨h2, rfl⟩ := List.getElem?_eq_some_iff.1 hq
  exact List.pairwise_iff_getElem.1 h i j h1 h2 hij
theorem SD.ge {L : List (At × Nat)} (h : SD L) {x : At} {j : Nat} {q : At × Nat} (hq : L[j]? = some q) (hj : atD L x ≤ j) : ¬ cmpA q.1 x < 0 := by
  have hl := (List.getElem?_eq_some_iff.1 hq).1
  rcases Nat.eq_or_lt_of_le hj with e | e
  · exact atD_at (by rw [e]; exact hq)
  · intro hh
    exact atD_at (List.getElem?_eq_getElem (by omega)) (cmpA_ok.tr _ _ _ (h.lt (List.getElem?_eq_getElem (by omega)) hq e) hh)
theorem SD.mem {L : List (At × Nat)} (h : SD L) {x : At} : x ∈ L.map (·.1) ↔ ∃ q, L[atD L x]? = some q ∧ q.1 = x := by
  constructor
  · intro hx
    obtain ⟨q, hq, rfl⟩ := List.mem_map.1 hx
    obtain ⟨j, hj⟩ := List.mem_iff_getElem?.1 hq
    have hl := (List.getElem?_eq_some_iff.1 hj).1
    rcases Nat.lt_trichotomy j (atD L q.1) with e | e | e
    · have := atD_lt hj e
      rw [cmpA_ok.refl] at this
      omega
    · exact ⟨q, by rw [← e]; exact hj, rfl⟩
    · exact absurd (h.lt (List.getElem?_eq_getElem (by omega)) hj e) (atD_at (List.getElem?_eq_getElem (by omega)))
  · rintro ⟨q, hq, rfl⟩
    exact List.mem_map.2 ⟨q, List.mem_of_getElem? hq, rfl⟩
theorem insD_perm {F L : List (At × Nat)} (h : F.Perm L) (x : At) : (addF F x).Perm (insD L x) := by
  unfold addF insD
  have h1 : (x ∉ F.map (·.1)) ↔ (x ∉ L.map (·.1)) := by rw [(h.map (·.1)).mem_iff]
  by_cases hc : factB x = true ∧ x ∉ F.map (·.1)
  · rw [if_pos hc, if_pos ⟨hc.1, h1.1 hc.2⟩]
    refine ((h.append_right _).trans List.perm_append_comm).trans ?_
    rw [List.singleton_append]
    refine (List.Perm.cons _ ?_).trans List.perm_middle.symm
    rw [List.take_append_drop]
  · rw [if_neg hc, if_neg (fun k => hc ⟨k.1, h1.2 k.2⟩)]; exact h
theorem SD.ins {L : List (At × Nat)} (h : SD L) (x : At) : SD (insD L x) := by
  unfold insD
  split
  · rename_i hc
    refine List.pairwise_append.2 ⟨List.Pairwise.sublist (List.take_sublist _ _) h, List.pairwise_cons.2 ⟨fun q hq => ?_, List.Pairwise.sublist (List.drop_sublist _ _) h⟩, fun p hp q hq => ?_⟩
    · obtain ⟨j, hj⟩ := List.mem_iff_getElem?.1 hq
      rw [List.getElem?_drop] at hj
      have h1 := h.ge (x := x) hj (by omega)
      have h2 := cmpA_ok.anti q.1 x
      have h3 : cmpA q.1 x ≠ 0 := fun e => hc.2 (by rw [← cmpA_ok.eq _ _ e]; exact List.mem_map.2 ⟨q, List.mem_of_getElem? hj, rfl⟩)
      show cmpA x q.1 < 0
      omega
    · obtain ⟨i, hi⟩ := List.mem_iff_getElem?.1 hp
      rw [List.getElem?_take] at hi
      split at hi
      · rename_i hlt
        have h1 := atD_lt hi hlt
        rcases List.mem_cons.1 hq with rfl | hq
        · exact h1
        · obtain ⟨j, hj⟩ := List.mem_iff_getElem?.1 hq
          rw [List.getElem?_drop] at hj
          exact h.lt hi hj (by omega)
      · cases hi
  · exact h
theorem SD.turn {L : List (At × Nat)} (h : SD L) : SD (turnF L) := by
  unfold turnF SD
  rw [List.pairwise_map]
  exact h
theorem SD.nodup {L : List (At × Nat)} (h : SD L) : (L.map (·.1)).Nodup := by
  unfold List.Nodup
  rw [List.pairwise_map]
  exact List.Pairwise.imp (fun {p q} hpq e => by rw [e, cmpA_ok.refl] at hpq; omega) h
theorem SD.sub {L M : List (At × Nat)} (h : SD L) (hs : M.Sublist L) : (M.map (·.1)).Pairwise fun a b => ¬ cmpA b a < 0 := by
  rw [List.pairwise_map]
  exact List.Pairwise.imp (fun {p q} hpq hh => by have := cmpA_ok.anti p.1 q.1; omega) (List.Pairwise.sublist hs h)
theorem selF_doc {F L : List (At × Nat)} (hp : F.Perm L) (h : SD L) (parts : Int) : sortA (selF F parts) = selF L parts :=
  (sortA_eq (selF_perm hp.symm parts) (h.sub List.filter_sublist)).symm
theorem foundF_doc {F L : List (At × Nat)} (hp : F.Perm L) (h : SD L) (parts : Int) (p : At) : foundF F parts p = (selF L parts).filter (matchB p) := by
  unfold foundF
  refine (sortA_eq ((selF_perm hp.symm parts).filter _) ?_).symm
  exact List.Pairwise.sublist List.filter_sublist (h.sub List.filter_sublist)
theorem partF_doc {F L : List (At × Nat)} (hp : F.Perm L) (hn : (L.map (·.1)).Nodup) (x : At) : partF F x = partF L x := by
  by_cases hx : x ∈ L.map (·.1)
  · obtain ⟨q, hq, rfl⟩ := List.mem_map.1 hx
    rw [partF_mem hn (x := q.1) (n := q.2) hq, partF_mem ((hp.map _).nodup_iff.2 hn) (x := q.1) (n := q.2) (hp.mem_iff.2 hq)]
  · rw [partF_not hx, partF_not (fun h => hx ((hp.map _).mem_iff.1 h))]
theorem n4F_doc {F L : List (At × Nat)} (hp : F.Perm L) : n4F F = n4F L := n4F_perm hp
theorem selF_take {L : List (At × Nat)} {i : Nat} {x : At} {n : Nat} (h : L[i]? = some (x, n)) {parts : Int} : selF (L.take (i + 1)) parts = selF (L.take i) parts ++ (if inP parts n = true then [x] else []) := by
  unfold selF
  rw [List.take_add_one, h, List.filter_append, List.map_append]
  congr 1
  show (List.filter _ [(x, n)]).map _ = _
  cases hp : inP parts n <;> simp [hp]
/-! ### The predicates of a list in order -/
def prD (l : List At) : List Pd := l.foldl (fun acc x => if acc.getLast? = some (predOf x) then acc else acc ++ [predOf x]) []
theorem prD_snoc (l : List At) (x : At) : prD (l ++ [x]) = if (prD l).getLast? = some (predOf x) then prD l else prD l ++ [predOf x] := by
  unfold prD; rw [List.foldl_append]; rfl
theorem orL_two (a b : Int) : orL [a, b] = if a ≠ 0 then a else b := by
  simp only [orL]
  split
  · rfl
  · split <;> omega
theorem cmpP_le {x y : At} (h : cmpA x y < 0) : ¬ cmpP (predOf y) (predOf x) < 0 := by
  have ha := cmpP_ok.anti (predOf x) (predOf y)
  rw [cmpA_eq] at h
  unfold cmpP at ha ⊢
  rw [ha]
  unfold predOf
  simp only [orL_two]
  split at h
  · rename_i h1
    rw [if_pos h1]; omega
  · rename_i h1
    have h1 : cmpS x.name y.name = 0 := by omega
    rw [if_neg (by omega)]
    split at h <;> omega
theorem prD_spec (l : List At) (h : l.Pairwise fun a b => cmpA a b < 0) : (prD l).Pairwise (fun a b => cmpP a b < 0) ∧ (∀ p, p ∈ prD l ↔ p ∈ l.map predOf) ∧ (prD l).getLast? = (l.map predOf).getLast? := by
  induction l using snoc_ind with
  | h0 => exact ⟨List.Pairwise.nil, fun p => Iff.rfl, rfl⟩
  | h1 l x ih =>
    obtain ⟨h1, _, h2⟩ := List.pairwise_append.1 h
    obtain ⟨i1, i2, i3⟩ := ih h1
    rw [prD_snoc]
    by_cases hc : (prD l).getLast? = some (predOf x)
    · rw [if_pos hc]
      refine ⟨i1, fun p => ?_, by rw [hc]; simp⟩
      rw [i2, List.map_append, List.mem_append]
      refine ⟨Or.inl, fun hh => hh.elim id fun e => ?_⟩
      simp only [List.map_cons, List.map_nil, List.mem_singleton] at e
      rw [e, ← i2]
      exact List.mem_of_getLast? hc
    · rw [if_neg hc]
      refine ⟨List.pairwise_append.2 ⟨i1, List.pairwise_singleton _ _, fun p hp q hq => ?_⟩, fun p => ?_, by simp⟩
      · simp only [List.mem_singleton] at hq
        subst hq
        have hle : ∀ r ∈ prD l, ¬ cmpP (predOf x) r < 0 := fun r hr => by
          obtain ⟨y, hy, rfl⟩ := List.mem_map.1 ((i2 r).1 hr)
          exact cmpP_le (h2 y hy x (by simp))
        have hne : prD l ≠ [] := fun e => by rw [e] at hp; cases hp
        have hla : (prD l).getLast hne ∈ prD l := List.getLast_mem hne
        have h3 : cmpP ((prD l).getLast hne) (predOf x) < 0 := by
          have h4 := hle _ hla
          have h5 := cmpP_ok.anti ((prD l).getLast hne) (predOf x)
          have h6 : cmpP ((prD l).getLast hne) (predOf x) ≠ 0 := fun e => hc (by rw [List.getLast?_eq_some_getLast hne, cmpP_ok.eq _ _ e])
          omega
        have h7 : p = (prD l).getLast hne ∨ cmpP p ((prD l).getLast hne) < 0 := by
          have e := List.dropLast_concat_getLast hne
          rw [← e] at hp i1
          rcases List.mem_append.1 hp with hh | hh
          · exact Or.inr ((List.pairwise_append.1 i1).2.2 p hh _ (by simp))
          · exact Or.inl (by simpa using hh)
        rcases h7 with h7 | h7
        · rw [h7]; exact h3
        · exact cmpP_ok.tr _ _ _ h7 h3
      · rw [List.mem_append, i2, List.map_append, List.mem_append]
        simp
theorem prD_len (l : List At) : (prD l).length ≤ l.length := by
  induction l using snoc_ind with
  | h0 => simp [prD]
  | h1 l x ih =>
    rw [prD_snoc]
    split <;> simp <;> omega
theorem prD_take {l : List At} {i : Nat} {x : At} (h : l[i]? = some x) : prD (l.take (i + 1)) = if (prD (l.take i)).getLast? = some (predOf x) then prD (l.take i) else prD (l.take i) ++ [predOf x] := by
  rw [List.take_add_one, h]; exact prD_snoc _ _
theorem preds_doc {g : BaseG} {k : Nat} {F L : List (At × Nat)} (b : BS g k F) (hp : F.Perm L) (h : SD L) : sortP (prF g.rs) = prD (L.map (·.1)) := by
  have hpw : (L.map (·.1)).Pairwise fun a b => cmpA a b < 0 := by rw [List.pairwise_map]; exact h
  obtain ⟨h1, h2, _⟩ := prD_spec _ hpw
  refine (sortP_eq ?_ (List.Pairwise.imp (fun {p q} hpq hh => by have := cmpP_ok.anti p q; omega) h1)).symm
  have hn : (prD (L.map (·.1))).Nodup := List.Pairwise.imp (fun {p q} hpq e => by rw [e, cmpP_ok.refl] at hpq; omega) h1
  refine (List.perm_ext_iff_of_nodup hn (prF_nodup b.ok)).2 fun p => ?_
  rw [h2, prF_mem b.ok]
  constructor
  · intro hh
    obtain ⟨x, hx, rfl⟩ := List.mem_map.1 hh
    exact ⟨x, (b.mem x).2 ((hp.map _).mem_iff.2 hx), rfl⟩
  · rintro ⟨x, hx, rfl⟩
    exact List.mem_map.2 ⟨x, (hp.map _).mem_iff.1 ((b.mem x).1 hx), rfl⟩

end Go.Proofs.YtgiiifadbnpfkaaGreatDoor

set_option maxRecDepth 10000
namespace Go.Proofs.YtgiiifadbnpfkaaGreatDoor
open Go Go.Hw
set_option linter.unusedSimpArgs false
set_option linter.unusedVariables false
/-- The numbers of the variables, each once. -/
def varsD (ts : List Tm) : List Int := ts.foldl (fun acc t => if varB t = true ∧ t.n ∉ acc then acc ++ [t.n] else acc) []
theorem varsD_snoc (ts : List Tm) (t : Tm) : varsD (ts ++ [t]) = if varB t = true ∧ t.n ∉ varsD ts then varsD ts ++ [t.n] else varsD ts := by
  unfold varsD; rw [List.foldl_append]; rfl
theorem varsD_take {ts : List Tm} {i : Nat} {t : Tm} (h : ts[i]? = some t) : varsD (ts.take (i + 1)) = if varB t = true ∧ t.n ∉ varsD (ts.take i) then varsD (ts.take i) ++ [t.n] else varsD (ts.take i) := by
  rw [List.take_add_one, h]; exact varsD_snoc _ _
theorem varsD_mem (ts : List Tm) (v : Int) : v ∈ varsD ts ↔ ∃ t ∈ ts, varB t = true ∧ t.n = v := by
  induction ts using snoc_ind with
  | h0 => simp [varsD]
  | h1 ts t ih =>
    rw [varsD_snoc]
    by_cases hv : varB t = true
    · by_cases hm : t.n ∈ varsD ts
      · rw [if_neg (fun h => h.2 hm), ih]
        constructor
        · rintro ⟨u, hu, h⟩; exact ⟨u, by simp [hu], h⟩
        · rintro ⟨u, hu, h1, h2⟩
          rcases List.mem_append.1 hu with hu | hu
          · exact ⟨u, hu, h1, h2⟩
          · simp only [List.mem_singleton] at hu; subst hu; exact ih.1 (h2 ▸ hm)
      · rw [if_pos ⟨hv, hm⟩, List.mem_append, ih]
        constructor
        · rintro (⟨u, hu, h⟩ | h)
          · exact ⟨u, by simp [hu], h⟩
          · simp only [List.mem_singleton] at h; exact ⟨t, by simp, hv, h.symm⟩
        · rintro ⟨u, hu, h1, h2⟩
          rcases List.mem_append.1 hu with hu | hu
          · exact .inl ⟨u, hu, h1, h2⟩
          · simp only [List.mem_singleton] at hu; subst hu; exact .inr (by simp [h2])
    · rw [if_neg (fun h => hv h.1), ih]
      constructor
      · rintro ⟨u, hu, h⟩; exact ⟨u, by simp [hu], h⟩
      · rintro ⟨u, hu, h1, h2⟩
        rcases List.mem_append.1 hu with hu | hu
        · exact ⟨u, hu, h1, h2⟩
        · simp only [List.mem_singleton] at hu; subst hu; exact absurd h1 hv
theorem fact_doc (x : At) : factB x = (decide (chkA x = 0) && decide ((varsD (plc x)).length = 0)) := by
  unfold factB
  rw [Bool.and_assoc]
  congr 1
  rw [Bool.eq_iff_iff, decide_eq_true_eq, List.length_eq_zero_iff]
  constructor
  · intro h
    refine List.eq_nil_iff_forall_not_mem.2 fun v hv => ?_
    obtain ⟨t, ht, h1, _⟩ := (varsD_mem _ _).1 hv
    simp only [Bool.and_eq_true, Bool.not_eq_true', List.any_eq_false] at h
    rcases List.mem_cons.1 ht with rfl | ht
    · rw [h.1] at h1; cases h1
    · exact h.2 t ht h1
  · intro h
    have hn : ∀ t ∈ plc x, varB t = false := fun t ht => by
      cases hv : varB t with
      | false => rfl
      | true =>
        have := (varsD_mem (plc x) t.n).2 ⟨t, ht, hv, rfl⟩
        rw [h] at this; cases this
    simp only [Bool.and_eq_true, Bool.not_eq_true', List.any_eq_false]
    exact ⟨hn _ (List.mem_cons_self ..), fun t ht => by rw [hn t (List.mem_cons_of_mem _ ht)]; simp⟩

theorem among_calls (l : List Int) (v : Int) (a : Option Addr) (m c : Nat) (hm : m ≤ 1099511627776) (w : World) (hr : RI w a m l) : Calls Tryz.prog 178 #[.slice a m c, .int .i64 v] w fun e w' => e = .returned (.bool (decide (v ∈ l))) ∧ Fr0 w w' := by
  refine enterS (args := [.slice a m c, .int .i64 v]) (fun _ => False) Tryz.func178 rfl Tryz.ntmps178 rfl rfl ?_
  refine Csr (Za rfl (Nn (Cs (Csr (Za rfl (Nn (Cb ?_)))))))
  have e1 := hr.1
  refine WC.loop1 (fun (i : Nat) => [(0, .slice a m c), (1, .int .i64 v), (5, .int .i64 (i : Int))])
      (fun i w' => (i ≤ m ∧ v ∉ l.take i) ∧ Sat0 w ([]) w')
      (fun i => m - i) 0 ⟨rfl, rfl, rfl, trivial⟩ (fun w' hw => ⟨⟨by omega, by simp⟩, hw⟩) ?_
  intro i
  refine WC.pure (fun hi => ?_)
  obtain ⟨hi, hz⟩ := hi
  refine Cs (Csr (Zm rfl (Zm rfl (Zv (OV.lenSlice rfl T.u74) (Zv (OV.lss rfl rfl) (Nn ?_))))))
  refine Cc rfl (fun c9 => ?_) (fun c9 => ?_)
  · refine Ck (Xn (Cs (Cb (Csr (Zm rfl (Zm rfl ?_))))))
    have hil : i < l.length := by omega
    obtain ⟨q1, rfl⟩ := hr.some (by omega)
    refine Zv (OV.indexSliceA (i := i) rfl rfl T.u74 T.z3 (by omega)) (Zv (OV.load1 (v := .int .i64 (l.getD i 0)) rfl T.u3 rfl (fun _ hw => (hr.sat hw).cell hil)) (Zm rfl (Zv (OV.eql rfl rfl) (Nn ?_))))
    refine Cc rfl (fun c17 => ?_) (fun c17 => ?_)
    · refine Csr (Za rfl (Nn (WC.ret ?_)))
      refine Xq (Xr (Xr (Xq (Xr ?_))))
      exact WX.ret1 rfl rfl rfl (fun w' hw => ⟨by rw [decide_eq_true (by rw [← c17, show l.getD i 0 = l[i] by simp [hil]]; exact List.getElem_mem hil)], hw.fr⟩)
    refine Ck (Xb (Xn (Cr (Zm rfl (Zv (OV.addN (j := 1) rfl rfl (by omega)) (Za rfl (Nl ?_)))))))
    exact WX.round1 (i + 1) ⟨rfl, rfl, rfl, trivial⟩ (fun w' hw => ⟨⟨by omega, by
      rw [List.take_add_one, (show l[i]? = some (l.getD i 0) by simp [hil])]
      intro hh
      rcases List.mem_append.1 hh with h | h
      · exact hz h
      · simp at h; exact c17 (by simp [hil, h])⟩, hw⟩) (by show m - (i + 1) < m - i; omega)
  refine Ce (Xe (Xe (Xh (Xn (Csr (Za rfl (Nn (WC.ret ?_))))))))
  exact WX.ret1 rfl rfl rfl (fun w' hw => ⟨by rw [List.take_of_length_le (by omega)] at hz; rw [decide_eq_false hz], hw.fr⟩)

theorem refPlaces_calls (x : At) (a : Option Addr) (c : Nat) (hl : x.args.length ≤ 1048576) (w : World) (hr : RT w a x.args) : Calls Tryz.prog 155 #[atV x a c] w fun e w' => ∃ b lc, e = .returned (.slice (some ⟨b, 0, none⟩) (plc x).length lc) ∧ Turns [] [rowT (some ⟨b, 0, none⟩) lc (plc x)] w w' := by
  refine enterS (args := [atV x a c]) (fun _ => False) Tryz.func155 rfl Tryz.ntmps155 rfl rfl ?_
  refine Csr (WL.box rfl rfl rfl ?_)
  intro b1
  refine Za rfl (Nn (Csr (Zv (OV.fieldAddr0 (off := 0) rfl T.u34 rfl) (Zv (OV.loadN (cs := tmC x.b) rfl T.u31 rfl T.z31 (fun _ hw j v hj => by rw [add_off]; exact own_part hw (.head _) (o := 0) (cs' := tmC x.b) rfl j v hj)) (WL.buildSliceA (cs := tmC x.b) T.u32 T.z31 T.zr31 rfl rfl (by omega) (by omega) rfl ?_)))))
  intro b6
  refine WL.weak (S' := Sat0 w (row 31 3 (some ⟨b6, 0, none⟩) 1 1 (tmC x.b) :: own b1 (.cells (atC x a c).toArray 34 (0, 0)) :: [])) (fun w' hw => hw.asRow (m := 1) rfl (by decide)) ?_
  refine Za rfl (Nn (Csr (Zm rfl (Zv (OV.fieldAddr0 (off := 4) rfl T.u34 rfl) (Zv (OV.load1 (v := .slice a x.args.length c) rfl T.u32 rfl (fun _ hw => (cell_at (hw.it _ (.tail _ (.head _))) (o := 4) rfl).1)) (WL.append (news := x.args.flatMap tmC) rfl rfl T.apT (fun _ _ => Src.of_rt hr.nil (fun _ hw => hr.keeps hw.keeps)) (tms_one _) ⟨by omega, by unfold maxLen; omega⟩ rfl ?_))))))
  intro a10 c10
  refine Za rfl (Nn (WC.ret ?_))
  have el : 1 + x.args.length = (plc x).length := by simp [plc]; omega
  have ef : tmC x.b ++ x.args.flatMap tmC = (plc x).flatMap tmC := rfl
  rw [el, ef]
  refine WX.know (fun w' hw => (show ∃ b, a10 = some ⟨b, 0, none⟩ from row_addrK (hw.it (rowT a10 c10 (plc x)) (.head _)) (by simp [plc]))) (fun hq => ?_)
  obtain ⟨bq, rfl⟩ := hq
  exact WX.ret1 rfl rfl rfl (fun w' hw => ⟨bq, c10, rfl, (hw.pick [[rowT (some ⟨bq, 0, none⟩) c10 (plc x)], [own b1 (.cells (atC x a c).toArray 34 (0, 0))]] [0] 2 rfl (by decide) (by decide)).turned0⟩)

set_option maxHeartbeats 1000000 in
theorem refVars_calls (x : At) (a : Option Addr) (c : Nat) (hl : x.args.length ≤ 1048575) (w : World) (hr : RT w a x.args) : Calls Tryz.prog 149 #[atV x a c] w fun e w' => ∃ la lc l, e = .returned (.slice la l.length lc) ∧ l = varsD (plc x) ∧ Turns [] [row 3 1 la l.length lc (ints l)] w w' := by
  refine enterS (args := [atV x a c]) (fun _ => False) Tryz.func149 rfl Tryz.ntmps149 rfl rfl ?_
  refine Csr (WL.box rfl rfl rfl ?_)
  intro b1
  refine Za rfl (Nn (Csr (Zv (OV.loadN (cs := atC x a c) rfl T.u34 rfl T.z34 (fun _ hw j v hj => by rw [add_off, Nat.zero_add]; exact own_cells hw (.head _) j v hj)) (WL.callTA (ι := Nat × Nat) (vs := [atV x a c]) (vv := fun q => .slice (some ⟨q.1, 0, none⟩) (plc x).length q.2) (pp := fun _ => True) [] (AA := fun q => [rowT (some ⟨q.1, 0, none⟩) q.2 (plc x)]) rfl (by kernel_rfl) rfl rfl (fun w' hw' _ => (refPlaces_calls x a c (by omega) w' (hr.keeps hw'.keeps)).mono (fun en w'' ⟨b, lc, q1, q2⟩ => ⟨(b, lc), q1, trivial, q2⟩)) ?_))))
  rintro ⟨qx, xc⟩ _
  refine Za rfl (Nn (Csr (Za rfl (Nn (Cs (Csr (Za rfl (Nn (Cb ?_)))))))))
  have hpl : (plc x).length = x.args.length + 1 := rfl
  refine WC.weak (S' := Sat0 w (row 3 1 none 0 0 [] :: rowT (some ⟨qx, 0, none⟩) xc (plc x) :: own b1 (.cells (atC x a c).toArray 34 (0, 0)) :: [])) (fun w' hw => hw.rowNil 3 1) ?_
  refine WC.loop4 (fun (i : Nat) (la : Option Addr) (lc : Nat) (l : List Int) => [(3, .slice (some ⟨qx, 0, none⟩) (plc x).length xc), (4, .slice la l.length lc), (5, .int .i64 (i : Int))])
      (fun i la lc l w' => (i ≤ (plc x).length ∧ l.length ≤ i ∧ l = varsD ((plc x).take i)) ∧ Sat0 w (row 3 1 la l.length lc (ints l) :: rowT (some ⟨qx, 0, none⟩) xc (plc x) :: own b1 (.cells (atC x a c).toArray 34 (0, 0)) :: []) w')
      (fun i _ _ _ => (plc x).length - i) 0 none 0 [] ⟨rfl, rfl, rfl, trivial⟩ (fun w' hw => ⟨⟨by omega, Nat.le_refl _, rfl⟩, hw⟩) ?_
  intro i la lc l
  refine WC.pure (fun hi => ?_)
  obtain ⟨hi, hll, hlv⟩ := hi
  refine Cs (Csr (Zm rfl (Zm rfl (Zv (OV.lenSlice rfl T.u32) (Zv (OV.lss rfl rfl) (Nn ?_))))))
  refine Cc rfl (fun c11 => ?_) (fun c11 => ?_)
  · refine Ck (Xn (Cs (Cb (Csr (Zm rfl (Zm rfl ?_))))))
    obtain ⟨t, ht⟩ : ∃ t, (plc x)[i]? = some t := ⟨_, List.getElem?_eq_getElem (by omega)⟩
    refine Zv ((OV.indexSlice rfl rfl T.u32 T.z31 (by omega)).cast (u := .pointer (some ((⟨qx, 0, none⟩ : Addr).add (i * 3)))) (by rw [Int.toNat_natCast])) ?_
    refine WL.val (OV.loadN (cs := tmC t) rfl T.u31 rfl T.z31 (fun _ hw j v hj => by have hj3 : j < 3 := (List.getElem?_eq_some_iff.1 hj).1; have h := row_cellsφE rfl (hw.it (rowT (some ⟨qx, 0, none⟩) xc (plc x)) (by simp)) (i * 3 + j) v (by rw [flat_get tmC_len _ i j t ht (by omega)]; exact hj); rwa [add_add] at h)) rfl ?_
    refine WL.call0 (v := .bool (varB t)) (by kernel_rfl) rfl rfl (fun w' hw' => refVar_calls t w') ?_
    refine Zm rfl ?_
    refine Zp (t := 19) rfl (fun g19 => ?_) (fun g19 => ?_)
    · refine Zg rfl rfl rfl (Zm rfl (Zg rfl rfl rfl (Zm rfl (Zg rfl rfl rfl (Zm rfl (Zg rfl rfl rfl (Zv ((OV.indexSlice rfl rfl T.u32 T.z31 (by omega)).cast (u := .pointer (some ((⟨qx, 0, none⟩ : Addr).add (i * 3)))) (by rw [Int.toNat_natCast])) (Zg rfl rfl rfl (Zv ((OV.fieldAddrA (off := 1) rfl T.u31 rfl).cast (u := .pointer (some (((⟨qx, 0, none⟩ : Addr).add (i * 3)).add 1))) rfl) (Zg rfl rfl rfl (Zv (OV.load1 (v := .int .i64 t.n) rfl T.u3 rfl (fun _ hw => by have h := row_cellsφE rfl (hw.it (rowT (some ⟨qx, 0, none⟩) xc (plc x)) (by simp)) (i * 3 + 1) (.int .i64 t.n) (by rw [flat_get tmC_len _ i 1 t ht (by omega)]; rfl); rwa [add_add] at h)) (Zg rfl rfl rfl (WL.call0 (v := .bool (decide (t.n ∈ l))) (by kernel_rfl) rfl rfl (fun w' hw' => among_calls l t.n la l.length lc (by omega) w' (RI.of_row (c := lc) hw' (.head _))) ?_)))))))))))))
      refine Zg rfl rfl rfl (Zv (OV.not rfl) (Zv (OV.pickT rfl rfl) (Nn ?_)))
      refine Cc rfl (fun c28 => ?_) (fun c28 => ?_)
      · refine Cr (Zm rfl (Zm rfl (Zm rfl (Zv ((OV.indexSlice rfl rfl T.u32 T.z31 (by omega)).cast (u := .pointer (some ((⟨qx, 0, none⟩ : Addr).add (i * 3)))) (by rw [Int.toNat_natCast])) (Zv ((OV.fieldAddrA (off := 1) rfl T.u31 rfl).cast (u := .pointer (some (((⟨qx, 0, none⟩ : Addr).add (i * 3)).add 1))) rfl) (Zv (OV.load1 (v := .int .i64 t.n) rfl T.u3 rfl (fun _ hw => by have h := row_cellsφE rfl (hw.it (rowT (some ⟨qx, 0, none⟩) xc (plc x)) (by simp)) (i * 3 + 1) (.int .i64 t.n) (by rw [flat_get tmC_len _ i 1 t ht (by omega)]; rfl); rwa [add_add] at h)) (WL.buildSlice1 (v := .int .i64 t.n) T.u74 T.z3 T.zr3 rfl rfl rfl ?_)))))))
        intro b35
        refine WL.focus perm1 (WL.append (news := [.int .i64 t.n]) rfl rfl T.apI (fun _ _ => own_src (.tail _ (.head _)) rfl) (ints_one [t.n]) ⟨by omega, by unfold maxLen; omega⟩ rfl ?_)
        intro a36 c36
        refine Za rfl (Nl (Xb (Xn (Cr (Zm rfl (Zv (OV.addN (j := 1) rfl rfl (by omega)) (Za rfl (Nl ?_))))))))
        have hv : varB t = true ∧ t.n ∉ l := ⟨by simpa using g19, by simpa using c28⟩
        have el : l.length + 1 = (l ++ [t.n]).length := by simp
        have ef : ints l ++ [.int .i64 t.n] = ints (l ++ [t.n]) := by simp [ints]
        exact WX.round4 (i + 1) a36 c36 (l ++ [t.n]) ⟨rfl, by rw [← el]; rfl, rfl, trivial⟩ (fun w' hw => ⟨⟨by omega, by simp; omega, by rw [varsD_take ht, ← hlv, if_pos hv]⟩, by
          rw [el, ef] at hw
          exact hw.pick [[row 3 1 a36 (l ++ [t.n]).length c36 (ints (l ++ [t.n]))], [own b35 (.cells [Value.int .i64 t.n].toArray 3 (0, 0))], [rowT (some ⟨qx, 0, none⟩) xc (plc x)], [own b1 (.cells (atC x a c).toArray 34 (0, 0))]] [0, 2, 3] 4 rfl (by decide) (by decide)⟩) (by show (plc x).length - (i + 1) < (plc x).length - i; omega)
      refine Ck (Xb (Xn (Cr (Zm rfl (Zv (OV.addN (j := 1) rfl rfl (by omega)) (Za rfl (Nl ?_)))))))
      exact WX.round4 (i + 1) la lc l ⟨rfl, rfl, rfl, trivial⟩ (fun w' hw => ⟨⟨by omega, by omega, by rw [varsD_take ht, ← hlv, if_neg (fun h => h.2 (by simpa using c28))]⟩, hw⟩) (by show (plc x).length - (i + 1) < (plc x).length - i; omega)
    refine Zs rfl rfl rfl (Zs rfl rfl rfl (Zs rfl rfl rfl (Zs rfl rfl rfl (Zs rfl rfl rfl (Zs rfl rfl rfl (Zs rfl rfl rfl (Zs rfl rfl rfl (Zv (OV.pickF rfl rfl) (Nn (WC.condF rfl ?_))))))))))
    refine Ck (Xb (Xn (Cr (Zm rfl (Zv (OV.addN (j := 1) rfl rfl (by omega)) (Za rfl (Nl ?_)))))))
    exact WX.round4 (i + 1) la lc l ⟨rfl, rfl, rfl, trivial⟩ (fun w' hw => ⟨⟨by omega, by omega, by rw [varsD_take ht, ← hlv, if_neg (fun h => by rw [h.1] at g19; cases g19)]⟩, hw⟩) (by show (plc x).length - (i + 1) < (plc x).length - i; omega)
  refine Ce (Xe (Xe (Xh (Xn (Csr (Zm rfl (Za rfl (Nn (WC.ret ?_)))))))))
  rw [List.take_of_length_le (by omega)] at hlv
  exact WX.ret1 rfl rfl rfl (fun w' hw => ⟨la, lc, l, rfl, hlv, (hw.pick [[row 3 1 la l.length lc (ints l)], [rowT (some ⟨qx, 0, none⟩) xc (plc x)], [own b1 (.cells (atC x a c).toArray 34 (0, 0))]] [0] 3 rfl (by decide) (by decide)).turned0⟩)

theorem refFact_calls (x : At) (a : Option Addr) (c : Nat) (hx : AtS x) (w : World) (hr : RT w a x.args) : Calls Tryz.prog 121 #[atV x a c] w fun e w' => e = .returned (.bool (factB x)) ∧ Fr0 w w' := by
  refine enterS (args := [atV x a c]) (fun _ => False) Tryz.func121 rfl Tryz.ntmps121 rfl rfl ?_
  refine Csr (WL.box rfl rfl rfl ?_)
  intro b1
  refine Za rfl (Nn (Csr (Zv (OV.loadN (cs := atC x a c) rfl T.u34 rfl T.z34 (fun _ hw j v hj => by rw [add_off, Nat.zero_add]; exact own_cells hw (.head _) j v hj)) (WL.call0 (v := .int .i64 (chkA x)) (by kernel_rfl) rfl rfl (fun w' hw' => refChk_calls x a c (by have := hx.len; omega) hx.name w' (hr.keeps hw'.keeps)) ?_))))
  refine Zv (OV.eql rfl rfl) (Zm rfl ?_)
  refine Zp (t := 6) rfl (fun g6 => ?_) (fun g6 => ?_)
  · refine Zg rfl rfl rfl (Zv (OV.loadN (cs := atC x a c) rfl T.u34 rfl T.z34 (fun _ hw j v hj => by rw [add_off, Nat.zero_add]; exact own_cells hw (.head _) j v hj)) (Zg rfl rfl rfl (WL.callTA (ι := Option Addr × Nat × List Int) (vs := [atV x a c]) (vv := fun q => .slice q.1 q.2.2.length q.2.1) (pp := fun q => q.2.2 = varsD (plc x)) [] (AA := fun q => [row 3 1 q.1 q.2.2.length q.2.1 (ints q.2.2)]) rfl (by kernel_rfl) rfl rfl (fun w' hw' _ => (refVars_calls x a c hx.len w' (hr.keeps hw'.keeps)).mono (fun en w'' ⟨la, lc, l, q1, q2, q3⟩ => ⟨(la, lc, l), q1, q2, q3⟩)) ?_)))
    rintro ⟨la, lc, l⟩ hlv
    have hlv : l = varsD (plc x) := hlv
    refine Zg rfl rfl rfl (Zv (OV.lenSlice rfl T.u74) (Zg rfl rfl rfl (Zv (OV.eql rfl rfl) (Zv (OV.pickT rfl rfl) (Za rfl (Nn (WC.ret ?_)))))))
    exact WX.ret1 rfl rfl rfl (fun w' hw => ⟨by rw [fact_doc, ← hlv, decide_eq_true g6, Bool.true_and]; congr 2; show decide ((l.length : Int) = 0) = _; rw [decide_eq_decide]; omega, hw.fr⟩)
  refine Zs rfl rfl rfl (Zs rfl rfl rfl (Zs rfl rfl rfl (Zs rfl rfl rfl (Zv (OV.pickF rfl rfl) (Za rfl (Nn (WC.ret ?_)))))))
  exact WX.ret1 rfl rfl rfl (fun w' hw => ⟨by rw [fact_doc, decide_eq_false g6, Bool.false_and], hw.fr⟩)

end Go.Proofs.YtgiiifadbnpfkaaGreatDoor

set_option maxRecDepth 10000
namespace Go.Proofs.YtgiiifadbnpfkaaGreatDoor
open Go Go.Hw
set_option linter.unusedSimpArgs false
set_option linter.unusedVariables false
/-- What the document's Match notes: each variable's first place. -/
def bindD : List (Int × Tm) → List Tm → List Tm → List (Int × Tm)
  | m, t :: ts, u :: us => bindD (if varB t = true ∧ (gotT m t.n).isSome = false then m ++ [(t.n, u)] else m) ts us
  | m, _, _ => m
def becD (s : List (Int × Tm)) (t : Tm) : Tm := if varB t = true then (gotT s t.n).getD t else t
theorem gotT_append (k : Int) (u : Tm) (v : Int) : ∀ m : List (Int × Tm), gotT (m ++ [(k, u)]) v = if (gotT m v).isSome = true then gotT m v else if v = k then some u else none
  | [] => by simp [gotT]
  | q :: m => by
    show (if v = q.1 then some q.2 else gotT (m ++ [(k, u)]) v) = if (if v = q.1 then some q.2 else gotT m v).isSome = true then (if v = q.1 then some q.2 else gotT m v) else if v = k then some u else none
    by_cases h : v = q.1
    · simp [h]
    · rw [if_neg h, if_neg h]; exact gotT_append k u v m
theorem gotT_ups (k : Int) (u : Tm) (v : Int) : ∀ m : List (Int × Tm), gotT (upsT m k u) v = if v = k then some u else gotT m v
  | [] => by simp [gotT, upsT]
  | q :: m => by
    unfold upsT
    by_cases h : k = q.1
    · rw [if_pos h]
      show (if v = k then some u else gotT m v) = if v = k then some u else if v = q.1 then some q.2 else gotT m v
      by_cases h2 : v = k
      · rw [if_pos h2, if_pos h2]
      · rw [if_neg h2, if_neg h2, if_neg (fun e => h2 (e.trans h.symm))]
    · rw [if_neg h]
      show (if v = q.1 then some q.2 else gotT (upsT m k u) v) = if v = k then some u else if v = q.1 then some q.2 else gotT m v
      rw [gotT_ups k u v m]
      by_cases h2 : v = q.1
      · rw [if_pos h2, if_neg (fun e => h (e.symm.trans h2)), if_pos h2]
      · rw [if_neg h2, if_neg h2]
theorem bindD_ext : ∀ (ts us : List Tm) (m : List (Int × Tm)) (v : Int) (z : Tm), gotT m v = some z → gotT (bindD m ts us) v = some z
  | [], _, m, v, z, h => by simpa [bindD] using h
  | _ :: _, [], m, v, z, h => by simpa [bindD] using h
  | t :: ts, u :: us, m, v, z, h => by
    refine bindD_ext ts us _ v z ?_
    split
    · rw [gotT_append, h]; rfl
    · exact h
theorem match_doc : ∀ (ts us : List Tm) (m m' : List (Int × Tm)), ts.length = us.length → (∀ v, gotT m v = gotT m' v) → (matchGo m ts us = true ↔ ts.map (becD (bindD m' ts us)) = us)
  | [], [], m, m', _, _ => by simp [matchGo]
  | [], _ :: _, m, m', h, _ => by simp at h
  | _ :: _, [], m, m', h, _ => by simp at h
  | t :: ts, u :: us, m, m', hl, hm => by
    have hl2 : ts.length = us.length := by simpa using hl
    rw [matchGo, bindD, List.map_cons, List.cons.injEq]
    by_cases hv : varB t = true
    · rw [if_neg (show ¬ varB t = false by rw [hv]; simp)]
      by_cases hs : (gotT m' t.n).isSome = true
      · obtain ⟨z, hz⟩ := Option.isSome_iff_exists.1 hs
        rw [if_neg (show ¬ (varB t = true ∧ (gotT m' t.n).isSome = false) from fun h => by rw [hs] at h; cases h.2)]
        have hb : becD (bindD m' ts us) t = z := by unfold becD; rw [if_pos hv, bindD_ext _ _ _ _ _ hz]; rfl
        rw [hb, hm, hz]
        by_cases hzu : z = u
        · subst hzu
          rw [if_neg (show ¬ ((some z).isSome = true ∧ (some z).getD T0 ≠ z) from fun h => h.2 rfl), match_doc ts us _ m' hl2 (fun v => by
            rw [gotT_ups, hm]
            by_cases e : v = t.n
            · rw [if_pos e, e, hz]
            · rw [if_neg e])]
          simp
        · rw [if_pos (show ((some z).isSome = true ∧ (some z).getD T0 ≠ u) from ⟨rfl, hzu⟩)]
          simp [hzu]
      · have hz : gotT m' t.n = none := by simpa using hs
        rw [if_pos (show (varB t = true ∧ (gotT m' t.n).isSome = false) from ⟨hv, by rw [hz]; rfl⟩), if_neg (show ¬ ((gotT m t.n).isSome = true ∧ (gotT m t.n).getD T0 ≠ u) from fun h => by rw [hm, hz] at h; cases h.1)]
        have hb : becD (bindD (m' ++ [(t.n, u)]) ts us) t = u := by
          unfold becD
          rw [if_pos hv, bindD_ext ts us (m' ++ [(t.n, u)]) t.n u (by rw [gotT_append, hz]; simp)]
          rfl
        rw [hb, match_doc ts us _ (m' ++ [(t.n, u)]) hl2 (fun v => by
          rw [gotT_ups, gotT_append, hm]
          by_cases h : v = t.n
          · subst h; rw [hz]; simp
          · rw [if_neg h, if_neg h]; cases gotT m' v <;> rfl)]
        simp
    · have hv2 : varB t = false := by simpa using hv
      rw [if_pos hv2, if_neg (show ¬ (varB t = true ∧ (gotT m' t.n).isSome = false) from fun h => hv h.1)]
      have hb : becD (bindD m' ts us) t = t := by unfold becD; rw [if_neg hv]
      rw [hb]
      by_cases htu : t = u
      · rw [if_pos htu, match_doc ts us m m' hl2 hm]
        simp [htu]
      · rw [if_neg htu]
        simp [htu]
def appD (s : List (Int × Tm)) (x : At) : At := ⟨becD s x.b, x.name, x.args.map (becD s)⟩
theorem matchB_doc {p x : At} (hn : p.name = x.name) (hl : p.args.length = x.args.length) (hk : ¬ (varB p.b = true ∧ x.b.kind = 0)) : matchB p x = decide (appD (bindD [] (plc p) (plc x)) p = x) := by
  unfold matchB
  rw [decide_eq_true ⟨hn, hl, hk⟩, Bool.true_and, Bool.eq_iff_iff, match_doc _ _ [] [] (by simp [plc, hl]) (fun _ => rfl), decide_eq_true_eq]
  obtain ⟨b, n, vs⟩ := p
  obtain ⟨b2, n2, vs2⟩ := x
  simp only at hn
  subst hn
  simp [appD, plc]
theorem appD_nil (x : At) : appD [] x = x := by
  have h : ∀ t, becD [] t = t := fun t => by unfold becD; split <;> rfl
  obtain ⟨b, n, vs⟩ := x
  show (⟨becD [] b, n, vs.map (becD [])⟩ : At) = ⟨b, n, vs⟩
  rw [h b, List.map_congr_left (g := id) (fun t _ => h t), List.map_id]
theorem bindD_drop {m : List (Int × Tm)} {ts us : List Tm} {i : Nat} {t u : Tm} (h1 : ts[i]? = some t) (h2 : us[i]? = some u) : bindD m (ts.drop i) (us.drop i) = bindD (if varB t = true ∧ (gotT m t.n).isSome = false then m ++ [(t.n, u)] else m) (ts.drop (i + 1)) (us.drop (i + 1)) := by
  rw [drop_cons h1, drop_cons h2]; rfl

end Go.Proofs.YtgiiifadbnpfkaaGreatDoor

set_option maxRecDepth 10000
namespace Go.Proofs.YtgiiifadbnpfkaaGreatDoor
open Go Go.Hw
set_option linter.unusedSimpArgs false
set_option linter.unusedVariables false
/-- Binds that lie one behind the other. -/
structure RBd (w : World) (a : Option Addr) (ys : List Bd) : Prop where
  nil : a = none → ys.length = 0
  at_ : ∀ q, a = some q → ∀ i y, ys[i]? = some y → ∀ j v, (bdC y)[j]? = some v → w.cell? ((q.add (i * 4)).add j) = some v
theorem RBd.keeps {w w' : World} {a : Option Addr} {ys : List Bd} (h : RBd w a ys) (k : Keeps w w') : RBd w' a ys := ⟨h.nil, fun q hq i t ht j v hv => k _ _ (h.at_ q hq i t ht j v hv)⟩
theorem RBd.nil0 (w : World) : RBd w none [] := ⟨fun _ => rfl, fun q hq => by cases hq⟩
theorem RBd.get {w : World} {a : Option Addr} {ys : List Bd} (h : RBd w a ys) {i : Nat} (hi : i < ys.length) : ∃ q y, a = some q ∧ ys[i]? = some y ∧ y ∈ ys ∧ ∀ j v, (bdC y)[j]? = some v → w.cell? ((q.add (i * 4)).add j) = some v := by
  cases a with
  | none => have := h.nil rfl; omega
  | some q => exact ⟨q, ys[i], rfl, List.getElem?_eq_getElem hi, List.getElem_mem hi, h.at_ q rfl i _ (List.getElem?_eq_getElem hi)⟩
theorem RBd.of_row {w0 ws w : World} {M I : Nat → Prop} {ow : List Hw.Item} {a : Option Addr} {c : Nat} {ys : List Bd} (hw : Sat w0 M I ws ow w) (hm : rowB a c ys ∈ ow) : RBd w a ys := by
  refine ⟨fun ha => ?_, fun q hq i t ht j v hv => ?_⟩
  · rcases (row_base hw hm).2 with ⟨_, h, _⟩ | ⟨b, hb, _⟩
    · exact h
    · rw [ha] at hb; cases hb
  · subst hq
    have hj : j < 4 := (List.getElem?_eq_some_iff.1 hv).1
    have h1 := row_cells hw hm (i * 4 + j) v (by rw [flat_get bdC_len ys i j t ht hj]; exact hv)
    rwa [add_add] at h1
def sb (ys : List Bd) : List (Int × Tm) := ys.map fun b => (b.v, b.t)
theorem gotT_at {v : Int} : ∀ {ys : List Bd} {i : Nat} {y : Bd}, ys[i]? = some y → y.v = v → (∀ (j : Nat) (z : Bd), j < i → ys[j]? = some z → z.v ≠ v) → gotT (sb ys) v = some y.t
  | [], i, y, h, _, _ => by simp at h
  | x :: ys, i, y, h, hv, hn => by
    show (if v = x.v then some x.t else gotT (sb ys) v) = some y.t
    cases i with
    | zero => simp only [List.getElem?_cons_zero, Option.some.injEq] at h; subst h; rw [if_pos hv.symm]
    | succ i =>
      rw [if_neg (fun e => hn 0 x (by omega) rfl e.symm)]
      exact gotT_at (i := i) (by simpa using h) hv (fun j z hj hz => hn (j + 1) z (by omega) (by simpa using hz))
theorem gotT_no {v : Int} : ∀ {ys : List Bd}, (∀ (j : Nat) (z : Bd), ys[j]? = some z → z.v ≠ v) → gotT (sb ys) v = none
  | [], _ => rfl
  | x :: ys, hn => by
    show (if v = x.v then some x.t else gotT (sb ys) v) = none
    rw [if_neg (fun e => hn 0 x rfl e.symm)]
    exact gotT_no (fun j z hz => hn (j + 1) z (by simpa using hz))

theorem look_calls (ys : List Bd) (v : Int) (a : Option Addr) (c : Nat) (hl : ys.length ≤ 1099511627776) (w : World) (hr : RBd w a ys) : Calls Tryz.prog 156 #[.slice a ys.length c, .int .i64 v] w fun e w' => e = .returned (.tuple #[tmV ((gotT (sb ys) v).getD T0), .bool (gotT (sb ys) v).isSome]) ∧ Fr0 w w' := by
  refine enterS (args := [.slice a ys.length c, .int .i64 v]) (fun _ => False) Tryz.func156 rfl Tryz.ntmps156 rfl rfl ?_
  refine Csr (WL.alloc T.zr31 rfl ?_)
  intro b4
  refine Za rfl (Nn (Cs (Csr (Za rfl (Nn (Cb ?_))))))
  refine WC.loop1 (fun (i : Nat) => [(0, .slice a ys.length c), (1, .int .i64 v), (4, .pointer (some ⟨b4, 0, none⟩)), (6, .int .i64 (i : Int))])
      (fun i w' => (i ≤ ys.length ∧ ∀ j z, j < i → ys[j]? = some z → z.v ≠ v) ∧ Sat0 w (own b4 (.cells (tmC T0).toArray 31 (0, 0)) :: []) w')
      (fun i => ys.length - i) 0 ⟨rfl, rfl, rfl, rfl, trivial⟩ (fun w' hw => ⟨⟨by omega, fun j z hj => by omega⟩, hw⟩) ?_
  intro i
  refine WC.pure (fun hi => ?_)
  obtain ⟨hi, hz⟩ := hi
  refine Cs (Csr (Zm rfl (Zm rfl (Zv (OV.lenSlice rfl T.u48) (Zv (OV.lss rfl rfl) (Nn ?_))))))
  refine Cc rfl (fun c10 => ?_) (fun c10 => ?_)
  · refine Ck (Xn (Cs (Cb (Csr (Zm rfl (Zm rfl ?_))))))
    obtain ⟨q1, y, hq1, hy, hym, hc1⟩ := hr.get (i := i) (by omega)
    refine Zv ((OV.indexSlice (show _ = some (Value.slice (some q1) ys.length c) by rw [← hq1]; rfl) rfl T.u48 T.z103 (by omega)).cast (u := .pointer (some (q1.add (i * 4)))) (by rw [Int.toNat_natCast])) (Zv ((OV.fieldAddrA (off := 0) rfl T.u103 rfl).cast (u := .pointer (some (q1.add (i * 4)))) (by rw [addr_add0])) (Zv (OV.load1 (v := .int .i64 y.v) rfl T.u3 rfl (fun _ hw => hw.keeps _ _ (by have h := hc1 0 (.int .i64 y.v) rfl; rwa [addr_add0] at h))) (Zm rfl (Zv (OV.eql rfl rfl) (Nn ?_)))))
    refine Cc rfl (fun c19 => ?_) (fun c19 => ?_)
    · refine Csr (Zm rfl (Zm rfl (Zv ((OV.indexSlice (show _ = some (Value.slice (some q1) ys.length c) by rw [← hq1]; rfl) rfl T.u48 T.z103 (by omega)).cast (u := .pointer (some (q1.add (i * 4)))) (by rw [Int.toNat_natCast])) (Zv ((OV.fieldAddrA (off := 1) rfl T.u103 rfl).cast (u := .pointer (some ((q1.add (i * 4)).add 1))) rfl) (Zv (OV.loadN (cs := tmC y.t) rfl T.u31 rfl T.z31 (fun _ hw j u hj => hw.keeps _ _ (by have h := hc1 (1 + j) u (by rw [Nat.add_comm]; exact hj); rwa [add_add] at h))) (WL.storeAll (vs := tmC y.t) rfl rfl rfl T.z31 rfl ?_))))))
      refine Za rfl (Nn (WC.ret ?_))
      refine Xq (Xr (Xr (Xq (Xr ?_))))
      have hg := gotT_at hy c19 hz
      exact WX.retC2 (cs := tmC y.t) rfl rfl rfl rfl T.u31 rfl T.z31 (fun w' hw j v hj => own_cells hw (.head _) j v hj) (fun w' hw => ⟨by rw [hg]; rfl, hw.fr⟩)
    refine Ck (Xb (Xn (Cr (Zm rfl (Zv (OV.addN (j := 1) rfl rfl (by omega)) (Za rfl (Nl ?_)))))))
    exact WX.round1 (i + 1) ⟨rfl, rfl, rfl, rfl, trivial⟩ (fun w' hw => ⟨⟨by omega, fun j z hj hjz => by
      rcases Nat.lt_or_ge j i with h | h
      · exact hz j z h hjz
      · rw [show j = i by omega, hy] at hjz
        rw [← Option.some.inj hjz]; exact c19⟩, hw⟩) (by show ys.length - (i + 1) < ys.length - i; omega)
  refine Ce (Xe (Xe (Xh (Xn (Csr (Zv (OV.buildStruct (xs := []) (pl := [(0, 1), (1, 1), (2, 1)]) (cs := tmC T0) T.u31 T.zr31 (by kernel_rfl) rfl rfl) (WL.storeAll (vs := tmC T0) rfl rfl rfl T.z31 rfl ?_)))))))
  refine Za rfl (Nn (WC.ret ?_))
  have hg := gotT_no (v := v) (ys := ys) (fun j z hjz => hz j z (by have := (List.getElem?_eq_some_iff.1 hjz).1; omega) hjz)
  exact WX.retC2 (cs := tmC T0) rfl rfl rfl rfl T.u31 rfl T.z31 (fun w' hw j v hj => own_cells hw (.head _) j v hj) (fun w' hw => ⟨by rw [hg]; rfl, hw.fr⟩)

theorem become_calls (ys : List Bd) (t : Tm) (a : Option Addr) (c : Nat) (hl : ys.length ≤ 1099511627776) (w : World) (hr : RBd w a ys) : Calls Tryz.prog 179 #[.slice a ys.length c, tmV t] w fun e w' => e = .returned (tmV (becD (sb ys) t)) ∧ Fr0 w w' := by
  refine enterS (args := [.slice a ys.length c, tmV t]) (fun _ => False) Tryz.func179 rfl Tryz.ntmps179 rfl rfl ?_
  refine Csr (WL.box rfl rfl rfl ?_)
  intro b3
  refine WL.alloc T.zr31 rfl ?_
  intro b4
  refine Nn (Cs (Csr (Zv (OV.loadN (cs := tmC t) rfl T.u31 rfl T.z31 (fun _ hw j v hj => by rw [add_off, Nat.zero_add]; exact own_cells hw (.tail _ (.head _)) j v hj)) (WL.call0 (v := .bool (varB t)) (by kernel_rfl) rfl rfl (fun w' hw' => refVar_calls t w') ?_))))
  refine Nn ?_
  refine Cc rfl (fun c8 => ?_) (fun c8 => ?_)
  · refine Csr (Zm rfl (Zv (OV.fieldAddr0 (off := 1) rfl T.u31 rfl) (Zv (OV.load1 (v := .int .i64 t.n) rfl T.u3 rfl (fun _ hw => (cell_at (hw.it _ (.tail _ (.head _))) (o := 1) rfl).1)) (WL.call0 (v := .tuple #[tmV ((gotT (sb ys) t.n).getD T0), .bool (gotT (sb ys) t.n).isSome]) (by kernel_rfl) rfl rfl (fun w' hw' => look_calls ys t.n a c hl w' (hr.keeps hw'.keeps)) ?_))))
    refine Zm rfl (Zv (OV.extract rfl rfl) (Zv (OV.extract rfl rfl) (WL.alloc T.zr31 rfl ?_)))
    intro b5
    refine WL.storeAll (vs := tmC ((gotT (sb ys) t.n).getD T0)) rfl rfl rfl T.z31 rfl ?_
    refine Za rfl (Nn (Csr (Zm rfl (Nn ?_))))
    refine Cc rfl (fun c16 => ?_) (fun c16 => ?_)
    · refine Csr (Zv (OV.loadN (cs := tmC ((gotT (sb ys) t.n).getD T0)) rfl T.u31 rfl T.z31 (fun _ hw j v hj => by rw [add_off, Nat.zero_add]; exact own_cells hw (.head _) j v hj)) ?_)
      refine WL.focus perm1 (WL.storeAll (vs := tmC ((gotT (sb ys) t.n).getD T0)) rfl rfl rfl T.z31 rfl ?_)
      refine Nn (WC.ret ?_)
      refine Xr ?_
      exact WX.retC (cs := tmC ((gotT (sb ys) t.n).getD T0)) rfl rfl rfl T.u31 rfl T.z31 (fun w' hw j v hj => own_cells hw (.head _) j v hj) (fun w' hw => ⟨by unfold becD; rw [if_pos c8]; cases hg : gotT (sb ys) t.n with | none => rw [hg] at c16; cases c16 | some z => rfl, hw.fr⟩)
    refine Ck (Xn (Csr (Zv (OV.loadN (cs := tmC t) rfl T.u31 rfl T.z31 (fun _ hw j v hj => by rw [add_off, Nat.zero_add]; exact own_cells hw (.tail _ (.tail _ (.head _))) j v hj)) ?_)))
    refine WL.focus perm1 (WL.storeAll (vs := tmC t) rfl rfl rfl T.z31 rfl ?_)
    refine Nn (WC.ret ?_)
    exact WX.retC (cs := tmC t) rfl rfl rfl T.u31 rfl T.z31 (fun w' hw j v hj => own_cells hw (.head _) j v hj) (fun w' hw => ⟨by unfold becD; rw [if_pos c8]; cases hg : gotT (sb ys) t.n with | none => rfl | some z => rw [hg] at c16; exact (by cases c16), hw.fr⟩)
  refine Ck (Xn (Csr (Zv (OV.loadN (cs := tmC t) rfl T.u31 rfl T.z31 (fun _ hw j v hj => by rw [add_off, Nat.zero_add]; exact own_cells hw (.tail _ (.head _)) j v hj)) (WL.storeAll (vs := tmC t) rfl rfl rfl T.z31 rfl ?_))))
  refine Nn (WC.ret ?_)
  exact WX.retC (cs := tmC t) rfl rfl rfl T.u31 rfl T.z31 (fun w' hw j v hj => own_cells hw (.head _) j v hj) (fun w' hw => ⟨by unfold becD; rw [if_neg (by simpa using c8)], hw.fr⟩)

set_option maxHeartbeats 1000000 in
theorem apply_calls (ys : List Bd) (x : At) (a1 a2 : Option Addr) (c1 c2 : Nat) (hl : ys.length ≤ 1099511627776) (hx : x.args.length ≤ 1048576) (w : World) (hr1 : RBd w a1 ys) (hr2 : RT w a2 x.args) : Calls Tryz.prog 153 #[.slice a1 ys.length c1, atV x a2 c2] w fun e w' => ∃ z : Option Addr × Nat, e = .returned (atV (appD (sb ys) x) z.1 z.2) ∧ Turns [] [rowT z.1 z.2 (appD (sb ys) x).args] w w' := by
  refine enterS (args := [.slice a1 ys.length c1, atV x a2 c2]) (fun _ => False) Tryz.func153 rfl Tryz.ntmps153 rfl rfl ?_
  refine Csr (WL.box rfl rfl rfl ?_)
  intro b3
  refine WL.alloc T.zr34 rfl ?_
  intro b4
  refine Nn (Cs (Hd (fun w' => w'.heap[b3]? = some (.cells (atC x a2 c2).toArray 34 (0, 0))) [] (fun _ hw => hw.it (own b3 (.cells (atC x a2 c2).toArray 34 (0, 0))) (by simp)) (m := 9) rfl ?_))
  refine Hf 0 rfl (OV.move rfl) (Hf 1 rfl (OV.fieldAddr0 (off := 0) rfl T.u34 rfl) (Ht 2 rfl (OV.loadN (cs := tmC x.b) rfl T.u31 rfl T.z31 (fun _ hw j v hj => by rw [add_off]; exact heap_part hw (o := 0) (cs' := tmC x.b) rfl j v hj)) (Hf 4 rfl (OV.fieldAddr0 (off := 3) rfl T.u34 rfl) (Ht 5 rfl (OV.load1 (v := .string x.name) rfl T.u9 rfl (fun _ hw => (cell_at hw (o := 3) rfl).1)) ?_))))
  refine Hr (WH.two 3 7 rfl rfl (by kernel_rfl) (listed1 := [true, true, true, true, true, true, false, false, false]) rfl (listed2 := [true, true, true, false, true, true, false, true, false]) rfl (fl1 := false) rfl (fl2 := false) rfl ?_ ?_)
  · refine WL.call0 (v := tmV (becD (sb ys) x.b)) (by kernel_rfl) rfl rfl (fun w' hw' => become_calls ys x.b a1 c1 hl w' (hr1.keeps hw'.keeps)) ?_
    refine Hc (fun _ => (fun _ hw => hw.it (own b3 (.cells (atC x a2 c2).toArray 34 (0, 0))) (by simp))) ?_
    refine Hf 6 rfl (OV.buildStruct (xs := [(0, .tmp 10), (1, .tmp 12)]) (pl := [(0, 3), (3, 1), (4, 1)]) (cs := atC ⟨becD (sb ys) x.b, x.name, []⟩ none 0) T.u34 T.zr34 (by kernel_rfl) rfl (fill_cons (us := tmC (becD (sb ys) x.b)) rfl rfl (Nat.le_of_ble_eq_true rfl) (fill_cons (us := [_]) rfl rfl (Nat.le_of_ble_eq_true rfl) rfl))) (Ho 7 rfl (fl' := false) rfl ?_)
    refine WL.alloc T.zr34 rfl ?_
    intro b5
    refine Hc (fun _ => (fun _ hw => hw.it (own b3 (.cells (atC x a2 c2).toArray 34 (0, 0))) (by simp))) ?_
    refine Ho 8 rfl (fl' := false) rfl ?_
    refine WL.storeAll (vs := atC ⟨becD (sb ys) x.b, x.name, []⟩ none 0) rfl rfl rfl T.z34 rfl ?_
    refine Hc (fun _ => (fun _ hw => hw.it (own b3 (.cells (atC x a2 c2).toArray 34 (0, 0))) (by simp))) ?_
    refine He (Xn (Cs (Csr (Za rfl (Nn (Cb (WC.weak (S' := Sat0 w (own b5 (.cells (atC ⟨becD (sb ys) x.b, x.name, []⟩ none 0).toArray 34 (0, 0)) :: own b4 (.cells (atC ⟨T0, E0, []⟩ none 0).toArray 34 (0, 0)) :: own b3 (.cells (atC x a2 c2).toArray 34 (0, 0)) :: row 31 3 none 0 0 [] :: [])) (fun w' hw => (hw.rowNil 31 3).perm (perm_pick [_, _, _, _] [1, 2, 3, 0] (by decide) rfl)) ?_)))))))
    refine WC.loop4 (fun (i : Nat) (la : Option Addr) (lc : Nat) (args : List Tm) => [(0, .slice a1 ys.length c1), (3, .pointer (some ⟨b3, 0, none⟩)), (4, .pointer (some ⟨b4, 0, none⟩)), (5, .pointer (some ⟨b5, 0, none⟩)), (6, .int .i64 (i : Int))])
        (fun i la lc args w' => (i ≤ x.args.length ∧ args.length = i ∧ args = (x.args.take i).map (becD (sb ys))) ∧ Sat0 w (own b5 (.cells (atC ⟨becD (sb ys) x.b, x.name, args⟩ la lc).toArray 34 (0, 0)) :: own b4 (.cells (atC ⟨T0, E0, []⟩ none 0).toArray 34 (0, 0)) :: own b3 (.cells (atC x a2 c2).toArray 34 (0, 0)) :: rowT la lc args :: []) w')
        (fun i _ _ _ => x.args.length - i) 0 none 0 [] ⟨rfl, rfl, rfl, rfl, rfl, trivial⟩ (fun w' hw => ⟨⟨by omega, rfl, rfl⟩, hw⟩) ?_
    intro i la lc args
    refine WC.pure (fun hi => ?_)
    obtain ⟨hi, hal, hae⟩ := hi
    refine Cs (Csr (Zm rfl (Zv (OV.fieldAddr0 (off := 4) rfl T.u34 rfl) (Zv (OV.load1 (v := .slice a2 x.args.length c2) rfl T.u32 rfl (fun _ hw => (cell_at (hw.it _ (.tail _ (.tail _ (.head _)))) (o := 4) rfl).1)) (Zv (OV.lenSlice rfl T.u32) (Zv (OV.lss rfl rfl) (Nn ?_)))))))
    refine Cc rfl (fun c18 => ?_) (fun c18 => ?_)
    · refine Ck (Xn (Cs (Cb (Hd (fun w' => (w'.heap[b5]? = some (.cells (atC ⟨becD (sb ys) x.b, x.name, args⟩ la lc).toArray 34 (0, 0)) ∧ w'.heap[b3]? = some (.cells (atC x a2 c2).toArray 34 (0, 0))) ∧ Keeps w w') [12] (fun _ hw => ⟨⟨hw.it (own b5 (.cells (atC ⟨becD (sb ys) x.b, x.name, args⟩ la lc).toArray 34 (0, 0))) (by simp), hw.it (own b3 (.cells (atC x a2 c2).toArray 34 (0, 0))) (by simp)⟩, hw.keeps⟩) (m := 13) rfl ?_))))
      refine Hf 0 rfl (OV.fieldAddr0 (off := 4) rfl T.u34 rfl) (Ht 1 rfl (OV.load1 (v := .slice la args.length lc) rfl T.u32 rfl (fun _ hw => (cell_at hw.1.1 (o := 4) rfl).1)) (Hf 2 rfl (OV.move rfl) (Hf 3 rfl (OV.fieldAddr0 (off := 4) rfl T.u34 rfl) (Ht 4 rfl (OV.load1 (v := .slice a2 x.args.length c2) rfl T.u32 rfl (fun _ hw => (cell_at hw.1.2 (o := 4) rfl).1)) (Hf 5 rfl (OV.move rfl) ?_)))))
      obtain ⟨q1, t, hq1, ht, htm, _, hc1⟩ := hr2.get (i := i) (by omega)
      refine Hf 6 rfl ((OV.indexSlice (show _ = some (Value.slice (some q1) x.args.length c2) by rw [← hq1]; rfl) rfl T.u32 T.z31 (by omega)).cast (u := .pointer (some (q1.add (i * 3)))) (by rw [Int.toNat_natCast])) (Ht 7 rfl (OV.loadN (cs := tmC t) rfl T.u31 rfl T.z31 (fun _ hw j v hj => hw.2 _ _ (hc1 j v hj))) (Ho 8 rfl (fl' := false) rfl ?_))
      refine WL.call0 (v := tmV (becD (sb ys) t)) (by kernel_rfl) rfl rfl (fun w' hw' => become_calls ys t a1 c1 hl w' (hr1.keeps hw'.keeps)) ?_
      refine Hc (fun _ => (fun _ hw => ⟨⟨hw.it (own b5 (.cells (atC ⟨becD (sb ys) x.b, x.name, args⟩ la lc).toArray 34 (0, 0))) (by simp), hw.it (own b3 (.cells (atC x a2 c2).toArray 34 (0, 0))) (by simp)⟩, hw.keeps⟩)) ?_
      refine Ho 9 rfl (fl' := false) rfl ?_
      refine WL.buildSliceA (cs := tmC (becD (sb ys) t)) T.u32 T.z31 T.zr31 rfl rfl (by omega) (by omega) rfl ?_
      intro b30
      refine Hc (fun _ => (fun _ hw => ⟨⟨hw.it (own b5 (.cells (atC ⟨becD (sb ys) x.b, x.name, args⟩ la lc).toArray 34 (0, 0))) (by simp), hw.it (own b3 (.cells (atC x a2 c2).toArray 34 (0, 0))) (by simp)⟩, hw.keeps⟩)) ?_
      refine Ho 10 rfl (fl' := false) rfl ?_
      refine WL.focus (ow' := rowT la lc args :: own b30 (.cells (tmC (becD (sb ys) t)).toArray 31 (0, 0)) :: own b5 (.cells (atC ⟨becD (sb ys) x.b, x.name, args⟩ la lc).toArray 34 (0, 0)) :: own b4 (.cells (atC ⟨T0, E0, []⟩ none 0).toArray 34 (0, 0)) :: own b3 (.cells (atC x a2 c2).toArray 34 (0, 0)) :: []) (perm_pick [_, _, _, _, _] [4, 0, 1, 2, 3] (by decide) rfl) ?_
      refine WL.append (news := tmC (becD (sb ys) t)) rfl rfl T.apT (fun _ _ => own_srcN (.tail _ (.head _)) rfl) (tmC_one _) ⟨by omega, by unfold maxLen; omega⟩ rfl ?_
      intro a31 c31
      refine Hc (fun _ => (fun _ hw => ⟨⟨hw.it (own b5 (.cells (atC ⟨becD (sb ys) x.b, x.name, args⟩ la lc).toArray 34 (0, 0))) (by simp), hw.it (own b3 (.cells (atC x a2 c2).toArray 34 (0, 0))) (by simp)⟩, hw.keeps⟩)) ?_
      refine Hf 11 rfl (OV.fieldAddr0 (off := 4) rfl T.u34 rfl) (Ho 12 rfl (fl' := true) rfl ?_)
      refine WL.focus perm2 (WL.store1 (o := 4) rfl rfl rfl T.z32 (by show 4 < 5; omega) ?_)
      refine Hc (fun h => by cases h) ?_
      refine He (Xb (Xn (Cr (Zm rfl (Zv (OV.addN (j := 1) rfl rfl (by omega)) (Za rfl (Nl ?_)))))))
      have el : args.length + 1 = (args ++ [(becD (sb ys) t)]).length := by simp
      have ef : args.flatMap tmC ++ tmC (becD (sb ys) t) = (args ++ [(becD (sb ys) t)]).flatMap tmC := by simp
      exact WX.round4 (i + 1) a31 c31 (args ++ [(becD (sb ys) t)]) ⟨rfl, rfl, rfl, rfl, rfl, trivial⟩ (fun w' hw => ⟨⟨by omega, by simp [hal], by
        rw [List.take_add_one, List.map_append, ← hae, ht]
        rfl⟩, by
        rw [el, ef] at hw
        exact hw.pick [[own b5 (.cells (atC ⟨becD (sb ys) x.b, x.name, (args ++ [(becD (sb ys) t)])⟩ a31 c31).toArray 34 (0, 0))], [rowT a31 c31 (args ++ [(becD (sb ys) t)])], [own b30 (.cells (tmC (becD (sb ys) t)).toArray 31 (0, 0))], [own b4 (.cells (atC ⟨T0, E0, []⟩ none 0).toArray 34 (0, 0))], [own b3 (.cells (atC x a2 c2).toArray 34 (0, 0))]] [0, 3, 4, 1] 5 rfl (by decide) (by decide)⟩) (by show x.args.length - (i + 1) < x.args.length - i; omega)
    refine Ce (Xe (Xe (Xh (Xn (Csr (Zv (OV.loadN (cs := atC ⟨becD (sb ys) x.b, x.name, args⟩ la lc) rfl T.u34 rfl T.z34 (fun _ hw j v hj => by rw [add_off, Nat.zero_add]; exact own_cells hw (.head _) j v hj)) ?_))))))
    refine WL.focus perm1 (WL.storeAll (vs := atC ⟨becD (sb ys) x.b, x.name, args⟩ la lc) rfl rfl rfl T.z34 rfl ?_)
    refine Nn (WC.ret ?_)
    rw [List.take_of_length_le (by omega)] at hae
    have hat : appD (sb ys) x = ⟨becD (sb ys) x.b, x.name, args⟩ := by rw [hae]; rfl
    rw [hat]
    refine WX.retC (cs := atC ⟨becD (sb ys) x.b, x.name, args⟩ la lc) rfl rfl rfl T.u34 rfl T.z34 (fun w' hw j v hj => own_cells hw (.head _) j v hj) (fun w' hw => ⟨(la, lc), rfl, ?_⟩)
    exact (hw.pick [[own b4 (.cells (atC ⟨becD (sb ys) x.b, x.name, args⟩ la lc).toArray 34 (0, 0))], [own b5 (.cells (atC ⟨becD (sb ys) x.b, x.name, args⟩ la lc).toArray 34 (0, 0))], [own b3 (.cells (atC x a2 c2).toArray 34 (0, 0))], [rowT la lc args]] [3] 4 rfl (by decide) (by decide)).turned0
  refine WL.alloc T.zr34 rfl ?_
  intro b5
  refine Hc (fun _ => (fun _ hw => hw.it (own b3 (.cells (atC x a2 c2).toArray 34 (0, 0))) (by simp))) ?_
  refine Ho 3 rfl (fl' := false) rfl ?_
  refine WL.call0 (v := tmV (becD (sb ys) x.b)) (by kernel_rfl) rfl rfl (fun w' hw' => become_calls ys x.b a1 c1 hl w' (hr1.keeps hw'.keeps)) ?_
  refine Hc (fun _ => (fun _ hw => hw.it (own b3 (.cells (atC x a2 c2).toArray 34 (0, 0))) (by simp))) ?_
  refine Hf 6 rfl (OV.buildStruct (xs := [(0, .tmp 10), (1, .tmp 12)]) (pl := [(0, 3), (3, 1), (4, 1)]) (cs := atC ⟨becD (sb ys) x.b, x.name, []⟩ none 0) T.u34 T.zr34 (by kernel_rfl) rfl (fill_cons (us := tmC (becD (sb ys) x.b)) rfl rfl (Nat.le_of_ble_eq_true rfl) (fill_cons (us := [_]) rfl rfl (Nat.le_of_ble_eq_true rfl) rfl))) (Ho 8 rfl (fl' := false) rfl ?_)
  refine WL.storeAll (vs := atC ⟨becD (sb ys) x.b, x.name, []⟩ none 0) rfl rfl rfl T.z34 rfl ?_
  refine Hc (fun _ => (fun _ hw => hw.it (own b3 (.cells (atC x a2 c2).toArray 34 (0, 0))) (by simp))) ?_
  refine He (Xn (Cs (Csr (Za rfl (Nn (Cb (WC.weak (S' := Sat0 w (own b5 (.cells (atC ⟨becD (sb ys) x.b, x.name, []⟩ none 0).toArray 34 (0, 0)) :: own b4 (.cells (atC ⟨T0, E0, []⟩ none 0).toArray 34 (0, 0)) :: own b3 (.cells (atC x a2 c2).toArray 34 (0, 0)) :: row 31 3 none 0 0 [] :: [])) (fun w' hw => (hw.rowNil 31 3).perm (perm_pick [_, _, _, _] [1, 2, 3, 0] (by decide) rfl)) ?_)))))))
  refine WC.loop4 (fun (i : Nat) (la : Option Addr) (lc : Nat) (args : List Tm) => [(0, .slice a1 ys.length c1), (3, .pointer (some ⟨b3, 0, none⟩)), (4, .pointer (some ⟨b4, 0, none⟩)), (5, .pointer (some ⟨b5, 0, none⟩)), (6, .int .i64 (i : Int))])
      (fun i la lc args w' => (i ≤ x.args.length ∧ args.length = i ∧ args = (x.args.take i).map (becD (sb ys))) ∧ Sat0 w (own b5 (.cells (atC ⟨becD (sb ys) x.b, x.name, args⟩ la lc).toArray 34 (0, 0)) :: own b4 (.cells (atC ⟨T0, E0, []⟩ none 0).toArray 34 (0, 0)) :: own b3 (.cells (atC x a2 c2).toArray 34 (0, 0)) :: rowT la lc args :: []) w')
      (fun i _ _ _ => x.args.length - i) 0 none 0 [] ⟨rfl, rfl, rfl, rfl, rfl, trivial⟩ (fun w' hw => ⟨⟨by omega, rfl, rfl⟩, hw⟩) ?_
  intro i la lc args
  refine WC.pure (fun hi => ?_)
  obtain ⟨hi, hal, hae⟩ := hi
  refine Cs (Csr (Zm rfl (Zv (OV.fieldAddr0 (off := 4) rfl T.u34 rfl) (Zv (OV.load1 (v := .slice a2 x.args.length c2) rfl T.u32 rfl (fun _ hw => (cell_at (hw.it _ (.tail _ (.tail _ (.head _)))) (o := 4) rfl).1)) (Zv (OV.lenSlice rfl T.u32) (Zv (OV.lss rfl rfl) (Nn ?_)))))))
  refine Cc rfl (fun c18 => ?_) (fun c18 => ?_)
  · refine Ck (Xn (Cs (Cb (Hd (fun w' => (w'.heap[b5]? = some (.cells (atC ⟨becD (sb ys) x.b, x.name, args⟩ la lc).toArray 34 (0, 0)) ∧ w'.heap[b3]? = some (.cells (atC x a2 c2).toArray 34 (0, 0))) ∧ Keeps w w') [12] (fun _ hw => ⟨⟨hw.it (own b5 (.cells (atC ⟨becD (sb ys) x.b, x.name, args⟩ la lc).toArray 34 (0, 0))) (by simp), hw.it (own b3 (.cells (atC x a2 c2).toArray 34 (0, 0))) (by simp)⟩, hw.keeps⟩) (m := 13) rfl ?_))))
    refine Hf 0 rfl (OV.fieldAddr0 (off := 4) rfl T.u34 rfl) (Ht 1 rfl (OV.load1 (v := .slice la args.length lc) rfl T.u32 rfl (fun _ hw => (cell_at hw.1.1 (o := 4) rfl).1)) (Hf 2 rfl (OV.move rfl) (Hf 3 rfl (OV.fieldAddr0 (off := 4) rfl T.u34 rfl) (Ht 4 rfl (OV.load1 (v := .slice a2 x.args.length c2) rfl T.u32 rfl (fun _ hw => (cell_at hw.1.2 (o := 4) rfl).1)) (Hf 5 rfl (OV.move rfl) ?_)))))
    obtain ⟨q1, t, hq1, ht, htm, _, hc1⟩ := hr2.get (i := i) (by omega)
    refine Hf 6 rfl ((OV.indexSlice (show _ = some (Value.slice (some q1) x.args.length c2) by rw [← hq1]; rfl) rfl T.u32 T.z31 (by omega)).cast (u := .pointer (some (q1.add (i * 3)))) (by rw [Int.toNat_natCast])) (Ht 7 rfl (OV.loadN (cs := tmC t) rfl T.u31 rfl T.z31 (fun _ hw j v hj => hw.2 _ _ (hc1 j v hj))) (Ho 8 rfl (fl' := false) rfl ?_))
    refine WL.call0 (v := tmV (becD (sb ys) t)) (by kernel_rfl) rfl rfl (fun w' hw' => become_calls ys t a1 c1 hl w' (hr1.keeps hw'.keeps)) ?_
    refine Hc (fun _ => (fun _ hw => ⟨⟨hw.it (own b5 (.cells (atC ⟨becD (sb ys) x.b, x.name, args⟩ la lc).toArray 34 (0, 0))) (by simp), hw.it (own b3 (.cells (atC x a2 c2).toArray 34 (0, 0))) (by simp)⟩, hw.keeps⟩)) ?_
    refine Ho 9 rfl (fl' := false) rfl ?_
    refine WL.buildSliceA (cs := tmC (becD (sb ys) t)) T.u32 T.z31 T.zr31 rfl rfl (by omega) (by omega) rfl ?_
    intro b30
    refine Hc (fun _ => (fun _ hw => ⟨⟨hw.it (own b5 (.cells (atC ⟨becD (sb ys) x.b, x.name, args⟩ la lc).toArray 34 (0, 0))) (by simp), hw.it (own b3 (.cells (atC x a2 c2).toArray 34 (0, 0))) (by simp)⟩, hw.keeps⟩)) ?_
    refine Ho 10 rfl (fl' := false) rfl ?_
    refine WL.focus (ow' := rowT la lc args :: own b30 (.cells (tmC (becD (sb ys) t)).toArray 31 (0, 0)) :: own b5 (.cells (atC ⟨becD (sb ys) x.b, x.name, args⟩ la lc).toArray 34 (0, 0)) :: own b4 (.cells (atC ⟨T0, E0, []⟩ none 0).toArray 34 (0, 0)) :: own b3 (.cells (atC x a2 c2).toArray 34 (0, 0)) :: []) (perm_pick [_, _, _, _, _] [4, 0, 1, 2, 3] (by decide) rfl) ?_
    refine WL.append (news := tmC (becD (sb ys) t)) rfl rfl T.apT (fun _ _ => own_srcN (.tail _ (.head _)) rfl) (tmC_one _) ⟨by omega, by unfold maxLen; omega⟩ rfl ?_
    intro a31 c31
    refine Hc (fun _ => (fun _ hw => ⟨⟨hw.it (own b5 (.cells (atC ⟨becD (sb ys) x.b, x.name, args⟩ la lc).toArray 34 (0, 0))) (by simp), hw.it (own b3 (.cells (atC x a2 c2).toArray 34 (0, 0))) (by simp)⟩, hw.keeps⟩)) ?_
    refine Hf 11 rfl (OV.fieldAddr0 (off := 4) rfl T.u34 rfl) (Ho 12 rfl (fl' := true) rfl ?_)
    refine WL.focus perm2 (WL.store1 (o := 4) rfl rfl rfl T.z32 (by show 4 < 5; omega) ?_)
    refine Hc (fun h => by cases h) ?_
    refine He (Xb (Xn (Cr (Zm rfl (Zv (OV.addN (j := 1) rfl rfl (by omega)) (Za rfl (Nl ?_)))))))
    have el : args.length + 1 = (args ++ [(becD (sb ys) t)]).length := by simp
    have ef : args.flatMap tmC ++ tmC (becD (sb ys) t) = (args ++ [(becD (sb ys) t)]).flatMap tmC := by simp
    exact WX.round4 (i + 1) a31 c31 (args ++ [(becD (sb ys) t)]) ⟨rfl, rfl, rfl, rfl, rfl, trivial⟩ (fun w' hw => ⟨⟨by omega, by simp [hal], by
      rw [List.take_add_one, List.map_append, ← hae, ht]
      rfl⟩, by
      rw [el, ef] at hw
      exact hw.pick [[own b5 (.cells (atC ⟨becD (sb ys) x.b, x.name, (args ++ [(becD (sb ys) t)])⟩ a31 c31).toArray 34 (0, 0))], [rowT a31 c31 (args ++ [(becD (sb ys) t)])], [own b30 (.cells (tmC (becD (sb ys) t)).toArray 31 (0, 0))], [own b4 (.cells (atC ⟨T0, E0, []⟩ none 0).toArray 34 (0, 0))], [own b3 (.cells (atC x a2 c2).toArray 34 (0, 0))]] [0, 3, 4, 1] 5 rfl (by decide) (by decide)⟩) (by show x.args.length - (i + 1) < x.args.length - i; omega)
  refine Ce (Xe (Xe (Xh (Xn (Csr (Zv (OV.loadN (cs := atC ⟨becD (sb ys) x.b, x.name, args⟩ la lc) rfl T.u34 rfl T.z34 (fun _ hw j v hj => by rw [add_off, Nat.zero_add]; exact own_cells hw (.head _) j v hj)) ?_))))))
  refine WL.focus perm1 (WL.storeAll (vs := atC ⟨becD (sb ys) x.b, x.name, args⟩ la lc) rfl rfl rfl T.z34 rfl ?_)
  refine Nn (WC.ret ?_)
  rw [List.take_of_length_le (by omega)] at hae
  have hat : appD (sb ys) x = ⟨becD (sb ys) x.b, x.name, args⟩ := by rw [hae]; rfl
  rw [hat]
  refine WX.retC (cs := atC ⟨becD (sb ys) x.b, x.name, args⟩ la lc) rfl rfl rfl T.u34 rfl T.z34 (fun w' hw j v hj => own_cells hw (.head _) j v hj) (fun w' hw => ⟨(la, lc), rfl, ?_⟩)
  exact (hw.pick [[own b4 (.cells (atC ⟨becD (sb ys) x.b, x.name, args⟩ la lc).toArray 34 (0, 0))], [own b5 (.cells (atC ⟨becD (sb ys) x.b, x.name, args⟩ la lc).toArray 34 (0, 0))], [own b3 (.cells (atC x a2 c2).toArray 34 (0, 0))], [rowT la lc args]] [3] 4 rfl (by decide) (by decide)).turned0

theorem own_calls (x : At) (a : Option Addr) (c : Nat) (hx : x.args.length ≤ 1048576) (w : World) (hr : RT w a x.args) : Calls Tryz.prog 124 #[atV x a c] w fun e w' => ∃ z : Option Addr × Nat, e = .returned (atV x z.1 z.2) ∧ Turns [] [rowT z.1 z.2 x.args] w w' := by
  refine enterS (args := [atV x a c]) (fun _ => False) Tryz.func124 rfl Tryz.ntmps124 rfl rfl ?_
  refine Csr (WL.box rfl rfl rfl ?_)
  intro b1
  refine WL.alloc T.zr34 rfl ?_
  intro b2
  refine Nn (Csr (Zv (OV.loadN (cs := atC x a c) rfl T.u34 rfl T.z34 (fun _ hw j v hj => by rw [add_off, Nat.zero_add]; exact own_cells hw (.tail _ (.head _)) j v hj)) (WL.callTA (ι := Option Addr × Nat) (vs := [.slice none 0 0, atV x a c]) (vv := fun q => atV x q.1 q.2) (pp := fun _ => True) [] (AA := fun q => [rowT q.1 q.2 x.args]) rfl (by kernel_rfl) rfl rfl (fun w' hw' _ => (apply_calls [] x none a 0 c (by simp) hx w' (RBd.nil0 _) (hr.keeps hw'.keeps)).mono (fun en w'' ⟨q, q1, q2⟩ => ⟨q, by rw [q1, show sb [] = [] from rfl, appD_nil], trivial, by rw [show sb [] = [] from rfl, appD_nil] at q2; exact q2⟩)) ?_)))
  rintro ⟨la, lc⟩ _
  refine WL.focus perm1 (WL.storeAll (vs := atC x la lc) rfl rfl rfl T.z34 rfl ?_)
  refine Nn (WC.ret ?_)
  refine WX.retC (cs := atC x la lc) rfl rfl rfl T.u34 rfl T.z34 (fun w' hw j v hj => own_cells hw (.head _) j v hj) (fun w' hw => ⟨(la, lc), rfl, ?_⟩)
  exact (hw.pick [[own b2 (.cells (atC x la lc).toArray 34 (0, 0))], [rowT la lc x.args], [own b1 (.cells (atC x a c).toArray 34 (0, 0))]] [1] 3 rfl (by decide) (by decide)).turned0

end Go.Proofs.YtgiiifadbnpfkaaGreatDoor
