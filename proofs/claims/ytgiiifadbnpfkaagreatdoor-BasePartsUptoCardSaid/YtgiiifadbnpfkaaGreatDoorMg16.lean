/- Contracts of functions of the program: what each returns and leaves in memory. Printed by gen.py and walk.py. -/
import Derived.Test.YtgiiifadbnpfkaaGreatDoorB2
namespace Go.Proofs.YtgiiifadbnpfkaaGreatDoor
open Go Go.Hw
set_option linter.unusedSimpArgs false
set_option linter.unusedVariables false
/-! ### Orders -/
structure CmpOK {α : Type} (f : α → α → Int) : Prop where
  refl : ∀ a, f a a = 0
  anti : ∀ a b, f b a = - f a b
  tr : ∀ a b c, f a b < 0 → f b c < 0 → f a c < 0
  eq : ∀ a b, f a b = 0 → a = b
theorem cmpN_ok : CmpOK cmpN where
  refl a := by unfold cmpN; omega
  anti a b := by unfold cmpN; split <;> split <;> omega
  tr a b c := by unfold cmpN; intro h1 h2; split at h1 <;> split at h2 <;> (try split) <;> (try split at h1) <;> (try split at h2) <;> (try split) <;> omega
  eq a b := by unfold cmpN; intro h; split at h <;> (try split at h) <;> omega
theorem CmpOK.lex {α β : Type} {f : α → α → Int} {g : β → β → Int} (hf : CmpOK f) (hg : CmpOK g) : CmpOK (fun a b : α × β => if f a.1 b.1 ≠ 0 then f a.1 b.1 else g a.2 b.2) where
  refl a := by simp [hf.refl, hg.refl]
  anti a b := by
    (try simp only)
    by_cases h : f a.1 b.1 = 0
    · rw [if_neg (by rw [hf.anti, h]; simp), if_neg (by simp [h]), hg.anti]
    · rw [if_pos (by rw [hf.anti]; omega), if_pos h, hf.anti]
  tr a b c := by
    (try simp only)
    intro h1 h2
    by_cases e1 : f a.1 b.1 = 0
    · rw [if_neg (by simp [e1])] at h1
      have := hf.eq _ _ e1
      rw [this]
      by_cases e2 : f b.1 c.1 = 0
      · rw [if_neg (by simp [e2])] at h2 ⊢
        exact hg.tr _ _ _ h1 h2
      · rw [if_pos e2] at h2 ⊢
        exact h2
    · rw [if_pos e1] at h1
      by_cases e2 : f b.1 c.1 = 0
      · have := hf.eq _ _ e2
        rw [← this, if_pos e1]
        exact h1
      · rw [if_pos e2] at h2
        have h3 := hf.tr _ _ _ h1 h2
        rw [if_pos (by omega)]
        exact h3
  eq a b := by
    (try simp only)
    intro h
    by_cases e1 : f a.1 b.1 = 0
    · rw [if_neg (by simp [e1])] at h
      exact Prod.ext (hf.eq _ _ e1) (hg.eq _ _ h)
    · rw [if_pos e1] at h
      exact absurd h e1
theorem CmpOK.pull {α β : Type} {f : β → β → Int} (hf : CmpOK f) (m : α → β) (hm : ∀ a b, m a = m b → a = b) : CmpOK (fun a b => f (m a) (m b)) :=
  ⟨fun a => hf.refl _, fun a b => hf.anti _ _, fun a b c h1 h2 => hf.tr _ _ _ h1 h2, fun a b h => hm _ _ (hf.eq _ _ h)⟩
theorem CmpOK.swo {α : Type} {f : α → α → Int} (hf : CmpOK f) : Go.Sort.SWO (Go.Proofs.ltOf f) where
  irrefl a := by simp [Go.Proofs.ltOf, hf.refl]
  trans a b c h1 h2 := by simp only [Go.Proofs.ltOf, decide_eq_true_eq] at *; exact hf.tr _ _ _ h1 h2
  ntrans a b c h1 h2 := by
    simp only [Go.Proofs.ltOf, decide_eq_false_iff_not] at *
    intro h
    have e1 := hf.anti a c
    rcases Int.lt_trichotomy (f a b) 0 with h3 | h3 | h3
    · exact h1 h3
    · have := hf.eq _ _ h3
      rw [this] at h
      exact h2 h
    · have h4 : f b a < 0 := by rw [hf.anti]; omega
      have h5 := hf.tr _ _ _ h4 h
      exact h2 h5
def cmpList {α : Type} (f : α → α → Int) : List α → List α → Int
  | [], [] => 0
  | [], _ :: _ => -1
  | _ :: _, [] => 1
  | a :: ls, b :: ms => if f a b ≠ 0 then f a b else cmpList f ls ms
theorem cmpList_refl {α : Type} {f : α → α → Int} (hf : CmpOK f) : ∀ a, cmpList f a a = 0
  | [] => rfl
  | a :: ls => by rw [cmpList, hf.refl]; simpa using cmpList_refl hf ls
theorem cmpList_anti {α : Type} {f : α → α → Int} (hf : CmpOK f) : ∀ a b, cmpList f b a = - cmpList f a b
  | [], [] => rfl
  | [], _ :: _ => rfl
  | _ :: _, [] => rfl
  | a :: ls, b :: ms => by
    rw [cmpList, cmpList, hf.anti a b]
    by_cases h : f a b = 0
    · rw [if_neg (by simp [h]), if_neg (by simp [h])]; exact cmpList_anti hf ls ms
    · rw [if_pos (by omega), if_pos h]
theorem cmpList_eq {α : Type} {f : α → α → Int} (hf : CmpOK f) : ∀ a b, cmpList f a b = 0 → a = b
  | [], [], _ => rfl
  | [], _ :: _, h => by simp [cmpList] at h
  | _ :: _, [], h => by simp [cmpList] at h
  | a :: ls, b :: ms, h => by
    rw [cmpList] at h
    by_cases h1 : f a b = 0
    · rw [if_neg (by simp [h1])] at h
      rw [hf.eq _ _ h1, cmpList_eq hf ls ms h]
    · rw [if_pos h1] at h; exact absurd h h1
theorem cmpList_tr {α : Type} {f : α → α → Int} (hf : CmpOK f) : ∀ a b c, cmpList f a b < 0 → cmpList f b c < 0 → cmpList f a c < 0
  | [], [], _, h, _ => by simp [cmpList] at h
  | [], _ :: _, [], _, h => by simp [cmpList] at h
  | [], _ :: _, _ :: _, _, _ => by simp [cmpList]
  | _ :: _, [], _, h, _ => by simp [cmpList] at h
  | _ :: _, _ :: _, [], _, h => by simp [cmpList] at h
  | a :: ls, b :: ms, c :: ns, h1, h2 => by
    rw [cmpList] at *
    by_cases e1 : f a b = 0
    · rw [if_neg (by simp [e1])] at h1
      have := hf.eq _ _ e1
      subst this
      by_cases e2 : f a c = 0
      · rw [if_neg (by simp [e2])] at h2 ⊢
        exact cmpList_tr hf ls ms ns h1 h2
      · rw [if_pos e2] at h2 ⊢
        exact h2
    · rw [if_pos e1] at h1
      by_cases e2 : f b c = 0
      · have := hf.eq _ _ e2
        subst this
        rw [if_pos e1]; exact h1
      · rw [if_pos e2] at h2
        have h3 := hf.tr _ _ _ h1 h2
        rw [if_pos (by omega)]; exact h3
theorem cmpList_ok {α : Type} {f : α → α → Int} (hf : CmpOK f) : CmpOK (cmpList f) := ⟨cmpList_refl hf, cmpList_anti hf, cmpList_tr hf, cmpList_eq hf⟩
theorem u8_ok : CmpOK (fun a b : UInt8 => cmpN a.toNat b.toNat) := cmpN_ok.pull (fun a : UInt8 => (a.toNat : Int)) (fun a b h => UInt8.toNat_inj.1 (Int.ofNat.inj h))
theorem cmp_step (m n : Nat) (c d : Int) (h : c = d) : (if m < n then (-1 : Int) else if n < m then 1 else c) = if cmpN m n ≠ 0 then cmpN m n else d := by
  subst h
  unfold cmpN
  by_cases h1 : m < n
  · have h1' : (m : Int) < n := by omega
    simp [h1, h1']
  · have h1' : ¬ (m : Int) < n := by omega
    by_cases h2 : n < m
    · have h2' : (n : Int) < m := by omega
      simp [h1, h2, h1', h2']
    · have h2' : ¬ (n : Int) < m := by omega
      simp [h1, h2, h1', h2']
theorem compareBytes_eq : ∀ a b : List UInt8, Lib.compareBytes a b = cmpList (fun a b : UInt8 => cmpN a.toNat b.toNat) a b
  | [], [] => rfl
  | [], _ :: _ => rfl
  | _ :: _, [] => rfl
  | a :: l, b :: m => by
    rw [Lib.compareBytes, cmpList]
    exact cmp_step a.toNat b.toNat _ _ (compareBytes_eq l m)
theorem ba_ext {a b : ByteArray} (h : a.data.toList = b.data.toList) : a = b := by
  obtain ⟨⟨a⟩⟩ := a; obtain ⟨⟨b⟩⟩ := b; simp at h; rw [h]
theorem cmpS_ok : CmpOK cmpS := by
  have h := (cmpList_ok u8_ok).pull (fun s : ByteArray => s.data.toList) (fun a b h => ba_ext h)
  have e : cmpS = fun a b : ByteArray => cmpList (fun a b : UInt8 => cmpN a.toNat b.toNat) a.data.toList b.data.toList := by
    funext a b; exact compareBytes_eq _ _
  rw [e]; exact h
theorem cmpT_ok : CmpOK cmpT := by
  have h := (cmpN_ok.lex (cmpN_ok.lex cmpS_ok)).pull (fun t : Tm => (t.kind, t.n, t.s)) (fun a b h => by cases a; cases b; simp at h; simp [h])
  have e : cmpT = fun a b : Tm => if cmpN a.kind b.kind ≠ 0 then cmpN a.kind b.kind else if cmpN a.n b.n ≠ 0 then cmpN a.n b.n else cmpS a.s b.s := by
    funext a b; simp only [cmpT, orL]; split <;> (try rfl); split <;> (try rfl); split <;> omega
  rw [e]; exact h
def cmpA (x y : At) : Int := if orL [cmpS x.name y.name, cmpN x.args.length y.args.length, cmpT x.b y.b] ≠ 0 then orL [cmpS x.name y.name, cmpN x.args.length y.args.length, cmpT x.b y.b] else cmpList cmpT x.args y.args
theorem or3 (a b c d : Int) : (if orL [a, b, c] ≠ 0 then orL [a, b, c] else d) = if a ≠ 0 then a else if b ≠ 0 then b else if c ≠ 0 then c else d := by
  simp only [orL]
  by_cases h1 : a = 0
  · by_cases h2 : b = 0
    · by_cases h3 : c = 0 <;> simp [h1, h2, h3]
    · simp [h1, h2]
  · simp [h1]
def cmpP (x y : Pd) : Int := orL [cmpS x.name y.name, cmpN x.ar y.ar]
theorem cmpP_ok : CmpOK cmpP := by
  have h := (cmpS_ok.lex cmpN_ok).pull (fun p : Pd => (p.name, (p.ar : Int))) (fun a b h => by cases a; cases b; simp at h; simp only [Pd.mk.injEq]; exact ⟨h.1, by omega⟩)
  have e : cmpP = fun a b : Pd => if cmpS a.name b.name ≠ 0 then cmpS a.name b.name else cmpN a.ar b.ar := by
    funext a b; simp only [cmpP, orL]; split <;> (try rfl); split <;> omega
  rw [e]; exact h
theorem cmpA_eq (x y : At) : cmpA x y = if cmpS x.name y.name ≠ 0 then cmpS x.name y.name else if cmpN x.args.length y.args.length ≠ 0 then cmpN x.args.length y.args.length else if cmpT x.b y.b ≠ 0 then cmpT x.b y.b else cmpList cmpT x.args y.args := or3 _ _ _ _
/-- The number of arguments goes ahead: an order all the same. -/
theorem cmpA_ok : CmpOK cmpA := by
  have hl : CmpOK (fun a b : List Tm => if cmpN a.length b.length ≠ 0 then cmpN a.length b.length else cmpList cmpT a b) := by
    have hh := cmpList_ok cmpT_ok
    refine ⟨fun a => by simp [cmpN_ok.refl, hh.refl], fun a b => ?_, fun a b c h1 h2 => ?_, fun a b h => ?_⟩
    · (try simp only)
      by_cases h : cmpN (a.length : Int) b.length = 0
      · rw [if_neg (by rw [cmpN_ok.anti, h]; simp), if_neg (by simp [h]), hh.anti]
      · rw [if_pos (by rw [cmpN_ok.anti]; omega), if_pos h, cmpN_ok.anti]
    · (try simp only at *)
      by_cases e1 : cmpN (a.length : Int) b.length = 0
      · rw [if_neg (by simp [e1])] at h1
        have hl := cmpN_ok.eq _ _ e1
        rw [hl]
        by_cases e2 : cmpN (b.length : Int) c.length = 0
        · rw [if_neg (by simp [e2])] at h2 ⊢
          exact hh.tr _ _ _ h1 h2
        · rw [if_pos e2] at h2 ⊢; exact h2
      · rw [if_pos e1] at h1
        by_cases e2 : cmpN (b.length : Int) c.length = 0
        · have hl := cmpN_ok.eq _ _ e2
          rw [← hl, if_pos e1]; exact h1
        · rw [if_pos e2] at h2
          have h3 := cmpN_ok.tr _ _ _ h1 h2
          rw [if_pos (by omega)]; exact h3
    · (try simp only at h)
      by_cases e1 : cmpN (a.length : Int) b.length = 0
      · rw [if_neg (by simp [e1])] at h; exact hh.eq _ _ h
      · rw [if_pos e1] at h; exact absurd h e1
  have hb := cmpN_ok.lex (cmpT_ok.lex (cmpList_ok cmpT_ok))
  have h := (cmpS_ok.lex hb).pull (fun x : At => (x.name, (x.args.length : Int), x.b, x.args)) (fun a b h => by cases a; cases b; simp at h; simp [h])
  have e : cmpA = fun x y : At => if cmpS x.name y.name ≠ 0 then cmpS x.name y.name else if cmpN x.args.length y.args.length ≠ 0 then cmpN x.args.length y.args.length else if cmpT x.b y.b ≠ 0 then cmpT x.b y.b else cmpList cmpT x.args y.args := by
    funext x y; exact cmpA_eq x y
  rw [e]; exact h
theorem cmpList_drop {l m : List Tm} {i : Nat} {x y : Tm} (hx : l[i]? = some x) (hy : m[i]? = some y) (h : cmpT x y = 0) : cmpList cmpT (l.drop i) (m.drop i) = cmpList cmpT (l.drop (i + 1)) (m.drop (i + 1)) := by
  obtain ⟨h1, rfl⟩ := List.getElem?_eq_some_iff.1 hx
  obtain ⟨h2, rfl⟩ := List.getElem?_eq_some_iff.1 hy
  rw [List.drop_eq_getElem_cons h1, List.drop_eq_getElem_cons h2, cmpList, if_neg (by simp [h])]
theorem cmpList_hit {l m : List Tm} {i : Nat} {x y : Tm} (hx : l[i]? = some x) (hy : m[i]? = some y) (h : cmpT x y ≠ 0) : cmpList cmpT (l.drop i) (m.drop i) = cmpT x y := by
  obtain ⟨h1, rfl⟩ := List.getElem?_eq_some_iff.1 hx
  obtain ⟨h2, rfl⟩ := List.getElem?_eq_some_iff.1 hy
  rw [List.drop_eq_getElem_cons h1, List.drop_eq_getElem_cons h2, cmpList, if_pos h]

set_option maxRecDepth 10000 in
theorem cmpF_calls (ls ms : List Tm) (a1 a2 : Option Addr) (c1 c2 : Nat) (h1 : ls.length ≤ 1099511627776) (h2 : ms.length ≤ 1099511627776) (w : World) (hr1 : RT w a1 ls) (hr2 : RT w a2 ms) : Calls Tryz.prog 70 #[.slice a1 ls.length c1, .slice a2 ms.length c2, .func (.func 69) #[] #[]] w fun e w' => e = .returned (.int .i64 (cmpList cmpT ls ms)) ∧ Fr0 w w' := by
  refine enterS (args := [.slice a1 ls.length c1, .slice a2 ms.length c2, .func (.func 69) #[] #[]]) (fun _ => False) Tryz.func70 rfl Tryz.ntmps70 rfl rfl ?_
  refine WC.seq ?_
  refine WC.region ?_
  refine WL.val (OV.assign rfl) rfl ?_
  refine WL.nil ?_
  refine WX.next ?_
  refine WC.seq ?_
  refine WC.seq ?_
  refine WC.region ?_
  refine WL.val (OV.move rfl) rfl ?_
  first
  | (refine WL.val (OV.lenSlice rfl T.u32) rfl ?_)
  | (refine WL.val (OV.lenStr rfl T.u32) rfl ?_)
  refine WL.val (OV.move rfl) rfl ?_
  refine WL.nil ?_
  refine WX.next ?_
  refine WC.block ?_
  refine WC.loop1 (fun (i : Nat) => [(0, .slice a1 ls.length c1), (1, .slice a2 ms.length c2), (2, .func (.func 69) #[] #[]), (11, .slice a1 ls.length c1), (12, .int .i64 (ls.length : Int)), (13, .int .i64 (i : Int))])
      (fun i w' => (i ≤ ls.length ∧ cmpList cmpT ls ms = cmpList cmpT (ls.drop i) (ms.drop i)) ∧ Sat w (fun _ => False) (fun b => b < w.heap.size) w ([]) w')
      (fun i => ls.length - i) 0 ⟨rfl, rfl, rfl, rfl, rfl, rfl, trivial⟩ (fun w' hw => ⟨⟨by omega, rfl⟩, hw⟩) ?_
  intro i
  refine WC.pure (fun hi => ?_)
  obtain ⟨hi, hz⟩ := hi
  refine WC.seq ?_
  refine WC.region ?_
  refine WL.val (OV.lss rfl rfl) rfl ?_
  refine WL.nil ?_
  refine WX.next ?_
  refine WC.seq ?_
  refine WC.cond rfl (fun c14 => ?_) (fun c14 => ?_)
  · try simp only [decide_eq_true_eq, decide_eq_false_iff_not, Bool.not_eq_true', Bool.not_eq_false'] at c14
    refine WC.skip ?_
    refine WX.next ?_
    refine WC.seq ?_
    refine WC.block ?_
    refine WC.seq ?_
    refine WC.region ?_
    refine WL.val (OV.move rfl) rfl ?_
    obtain ⟨q1, t1, rfl, ht1, _, _, hc1⟩ := hr1.get (i := i) (by omega)
    refine WL.val ((OV.indexSlice rfl rfl T.u32 T.z31 (by omega)).cast (u := .pointer (some (q1.add (i * 3)))) (by rw [Int.toNat_natCast])) rfl ?_
    refine WL.val (OV.loadN (cs := tmC t1) rfl T.u31 rfl T.z31 (fun _ hw j v hj => hw.keeps _ _ (hc1 j v hj))) rfl ?_
    refine WL.alloc T.zr31 rfl ?_
    intro bb8
    refine WL.val (OV.assign rfl) rfl ?_
    refine WL.storeAll (vs := tmC t1) rfl rfl rfl T.z31 rfl ?_
    refine WL.nil ?_
    refine WX.next ?_
    refine WC.seq ?_
    refine WC.seq ?_
    refine WC.region ?_
    refine WL.val (OV.move rfl) rfl ?_
    refine WL.val (OV.move rfl) rfl ?_
    first
    | (refine WL.val (OV.lenSlice rfl T.u32) rfl ?_)
    | (refine WL.val (OV.lenStr rfl T.u32) rfl ?_)
    refine WL.val (OV.geq rfl rfl) rfl ?_
    refine WL.nil ?_
    refine WX.next ?_
    refine WC.cond rfl (fun c21 => ?_) (fun c21 => ?_)
    · try simp only [decide_eq_true_eq, decide_eq_false_iff_not, Bool.not_eq_true', Bool.not_eq_false'] at c21
      refine WC.seq ?_
      refine WC.region ?_
      refine WL.val (OV.assign rfl) rfl ?_
      refine WL.nil ?_
      refine WX.next ?_
      refine WC.ret ?_
      refine WX.then_ret ?_
      refine WX.block_ret ?_
      refine WX.then_ret ?_
      refine WX.then_ret ?_
      refine WX.block_ret ?_
      refine WX.then_ret ?_
      exact WX.ret1 rfl rfl rfl (fun w' hw => ⟨by congr 2; rw [hz, (show ms.drop i = [] from List.drop_eq_nil_of_le (by omega)), List.drop_eq_getElem_cons (by omega : i < ls.length)]; rfl, hw.fr⟩)
    · try simp only [decide_eq_true_eq, decide_eq_false_iff_not, Bool.not_eq_true', Bool.not_eq_false'] at c21
      refine WC.skip ?_
      refine WX.next ?_
      refine WC.seq ?_
      refine WC.region ?_
      refine WL.val (OV.move rfl) rfl ?_
      refine WL.val (OV.move rfl) rfl ?_
      obtain ⟨q2, t2, rfl, ht2, _, _, hc2⟩ := hr2.get (i := i) (by omega)
      refine WL.val ((OV.indexSlice rfl rfl T.u32 T.z31 (by omega)).cast (u := .pointer (some (q2.add (i * 3)))) (by rw [Int.toNat_natCast])) rfl ?_
      refine WL.val (OV.loadN (cs := tmC t2) rfl T.u31 rfl T.z31 (fun _ hw j v hj => hw.keeps _ _ (hc2 j v hj))) rfl ?_
      refine WL.alloc T.zr31 rfl ?_
      intro b9
      refine WL.storeAll (vs := tmC t2) rfl rfl rfl T.z31 rfl ?_
      refine WL.nil ?_
      refine WX.next ?_
      refine WC.seq ?_
      refine WC.region ?_
      refine WL.val (OV.move rfl) rfl ?_
      refine WL.val (OV.loadN (cs := tmC t1) rfl T.u31 rfl T.z31 (fun _ hw j v hj => by rw [add_off, Nat.zero_add]; exact own_cells hw (.tail _ (.head _)) j v hj)) rfl ?_
      refine WL.val (OV.loadN (cs := tmC t2) rfl T.u31 rfl T.z31 (fun _ hw j v hj => by rw [add_off, Nat.zero_add]; exact own_cells hw (.head _) j v hj)) rfl ?_
      refine WL.callV (ι := Unit) (f := 69) (caps := []) (vs := [tmV t1, tmV t2]) (vv := fun _ => .int .i64 (cmpT t1 t2)) (SS := fun _ => Sat w (fun _ => False) (fun b => b < w.heap.size) w (own b9 (.cells (tmC t2).toArray 31 (0, 0)) :: own bb8 (.cells (tmC t1).toArray 31 (0, 0)) :: [])) (by kernel_rfl) rfl rfl rfl (fun w' hw' => (cmpT_calls t1 t2 w').mono (fun en w'' ⟨h1, h2⟩ => ⟨(), h1, hw'.keep h2⟩)) ?_
      intro _
      refine WL.val (OV.assign rfl) rfl ?_
      refine WL.nil ?_
      refine WX.next ?_
      refine WC.seq ?_
      refine WC.region ?_
      refine WL.val (OV.move rfl) rfl ?_
      refine WL.val (OV.neq rfl rfl) rfl ?_
      refine WL.nil ?_
      refine WX.next ?_
      refine WC.cond rfl (fun c31 => ?_) (fun c31 => ?_)
      · try simp only [decide_eq_true_eq, decide_eq_false_iff_not, Bool.not_eq_true', Bool.not_eq_false'] at c31
        refine WC.seq ?_
        refine WC.region ?_
        refine WL.val (OV.move rfl) rfl ?_
        refine WL.val (OV.assign rfl) rfl ?_
        refine WL.nil ?_
        refine WX.next ?_
        refine WC.ret ?_
        refine WX.block_ret ?_
        refine WX.then_ret ?_
        refine WX.then_ret ?_
        refine WX.block_ret ?_
        refine WX.then_ret ?_
        exact WX.ret1 rfl rfl rfl (fun w' hw => ⟨by congr 2; rw [hz, cmpList_hit ht1 ht2 (by simpa using c31)], hw.fr⟩)
      · try simp only [decide_eq_true_eq, decide_eq_false_iff_not, Bool.not_eq_true', Bool.not_eq_false'] at c31
        refine WC.skip ?_
        refine WX.block_normal ?_
        refine WX.next ?_
        refine WC.region ?_
        refine WL.val (OV.addN (j := 1) rfl rfl (by omega)) rfl ?_
        refine WL.val (OV.move rfl) rfl ?_
        refine WL.nil ?_
        have h0 : cmpT t1 t2 = 0 := by simpa using c31
        exact WX.round1 (i + 1) ⟨rfl, rfl, rfl, rfl, rfl, rfl, trivial⟩ (fun w' hw => ⟨⟨by omega, by rw [hz, cmpList_drop ht1 ht2 h0]⟩, hw.drop.drop⟩) (by show ls.length - (i + 1) < ls.length - i; omega)
  · try simp only [decide_eq_true_eq, decide_eq_false_iff_not, Bool.not_eq_true', Bool.not_eq_false'] at c14
    refine WC.exit ?_
    refine WX.then_exit ?_
    refine WX.then_exit ?_
    refine WX.block_hit ?_
    refine WX.next ?_
    refine WC.seq ?_
    refine WC.seq ?_
    refine WC.region ?_
    refine WL.val (OV.move rfl) rfl ?_
    first
    | (refine WL.val (OV.lenSlice rfl T.u32) rfl ?_)
    | (refine WL.val (OV.lenStr rfl T.u32) rfl ?_)
    refine WL.val (OV.move rfl) rfl ?_
    first
    | (refine WL.val (OV.lenSlice rfl T.u32) rfl ?_)
    | (refine WL.val (OV.lenStr rfl T.u32) rfl ?_)
    refine WL.val (OV.lss rfl rfl) rfl ?_
    refine WL.nil ?_
    refine WX.next ?_
    refine WC.cond rfl (fun c38 => ?_) (fun c38 => ?_)
    · try simp only [decide_eq_true_eq, decide_eq_false_iff_not, Bool.not_eq_true', Bool.not_eq_false'] at c38
      refine WC.seq ?_
      refine WC.region ?_
      refine WL.val (OV.assign rfl) rfl ?_
      refine WL.nil ?_
      refine WX.next ?_
      refine WC.ret ?_
      refine WX.then_ret ?_
      exact WX.ret1 rfl rfl rfl (fun w' hw => ⟨by congr 2; rw [hz, (show ls.drop i = [] from List.drop_eq_nil_of_le (by omega)), List.drop_eq_getElem_cons (by omega : i < ms.length)]; rfl, hw.fr⟩)
    · try simp only [decide_eq_true_eq, decide_eq_false_iff_not, Bool.not_eq_true', Bool.not_eq_false'] at c38
      refine WC.skip ?_
      refine WX.next ?_
      refine WC.seq ?_
      refine WC.region ?_
      refine WL.val (OV.assign rfl) rfl ?_
      refine WL.nil ?_
      refine WX.next ?_
      refine WC.ret ?_
      exact WX.ret1 rfl rfl rfl (fun w' hw => ⟨by congr 2; rw [hz, (show ls.drop i = [] from List.drop_eq_nil_of_le (by omega)), (show ms.drop i = [] from List.drop_eq_nil_of_le (by omega))]; rfl, hw.fr⟩)

set_option maxRecDepth 10000 in
theorem cmpA_calls (x y : At) (a1 a2 : Option Addr) (c1 c2 : Nat) (h1 : x.args.length ≤ 1099511627776) (h2 : y.args.length ≤ 1099511627776) (w : World) (hr1 : RT w a1 x.args) (hr2 : RT w a2 y.args) : Calls Tryz.prog 38 #[atV x a1 c1, atV y a2 c2] w fun e w' => e = .returned (.int .i64 (cmpA x y)) ∧ Fr0 w w' := by
  refine enterS (args := [atV x a1 c1, atV y a2 c2]) (fun _ => False) Tryz.func38 rfl Tryz.ntmps38 rfl rfl ?_
  refine WC.seq ?_
  refine WC.region ?_
  refine WL.box rfl rfl rfl ?_
  intro b2
  refine WL.box rfl rfl rfl ?_
  intro b3
  refine WL.val (OV.assign rfl) rfl ?_
  refine WL.nil ?_
  refine WX.next ?_
  refine WC.seq ?_
  refine WC.seq ?_
  refine WC.drawn (fun w' => w'.heap[b2]? = some (.cells (atC x a1 c1).toArray 34 (0, 0)) ∧ w'.heap[b3]? = some (.cells (atC y a2 c2).toArray 34 (0, 0))) [] (by kernel_rfl) (by kernel_rfl) (m := 20) rfl ?_
  first
  | (refine WH.free 0 rfl (by kernel_rfl) (by kernel_rfl) (by kernel_rfl) rfl (fun _ => (fun _ hw => ⟨hw.it (own b2 (.cells (atC x a1 c1).toArray 34 (0, 0))) (by simp), hw.it (own b3 (.cells (atC y a2 c2).toArray 34 (0, 0))) (by simp)⟩)) (OV.fieldAddr0 (off := 3) rfl T.u34 rfl) rfl (listed' := [true, false, false, false, false, false, false, false, false, false, false, false, false, false, false, false, false, false, false, false]) rfl ?_)
  | (refine WH.free 0 rfl (by kernel_rfl) (by kernel_rfl) (by kernel_rfl) rfl (fun _ => (fun _ hw => ⟨hw.it (own b2 (.cells (atC x a1 c1).toArray 34 (0, 0))) (by simp), hw.it (own b3 (.cells (atC y a2 c2).toArray 34 (0, 0))) (by simp)⟩)) (OV.fieldAddr (off := 3) rfl T.u34 rfl) rfl (listed' := [true, false, false, false, false, false, false, false, false, false, false, false, false, false, false, false, false, false, false, false]) rfl ?_)
  refine WH.take 1 rfl (by kernel_rfl) (by kernel_rfl) (by kernel_rfl) (by kernel_rfl) (fun _ hw => ⟨hw.it (own b2 (.cells (atC x a1 c1).toArray 34 (0, 0))) (by simp), hw.it (own b3 (.cells (atC y a2 c2).toArray 34 (0, 0))) (by simp)⟩) (OV.load1 (v := .string x.name) rfl T.u9 rfl (fun _ hw => (cell_at hw.1 (o := 3) rfl).1)) rfl (listed' := [true, true, false, false, false, false, false, false, false, false, false, false, false, false, false, false, false, false, false, false]) rfl ?_
  first
  | (refine WH.free 2 rfl (by kernel_rfl) (by kernel_rfl) (by kernel_rfl) rfl (fun _ => (fun _ hw => ⟨hw.it (own b2 (.cells (atC x a1 c1).toArray 34 (0, 0))) (by simp), hw.it (own b3 (.cells (atC y a2 c2).toArray 34 (0, 0))) (by simp)⟩)) (OV.fieldAddr0 (off := 3) rfl T.u34 rfl) rfl (listed' := [true, true, true, false, false, false, false, false, false, false, false, false, false, false, false, false, false, false, false, false]) rfl ?_)
  | (refine WH.free 2 rfl (by kernel_rfl) (by kernel_rfl) (by kernel_rfl) rfl (fun _ => (fun _ hw => ⟨hw.it (own b2 (.cells (atC x a1 c1).toArray 34 (0, 0))) (by simp), hw.it (own b3 (.cells (atC y a2 c2).toArray 34 (0, 0))) (by simp)⟩)) (OV.fieldAddr (off := 3) rfl T.u34 rfl) rfl (listed' := [true, true, true, false, false, false, false, false, false, false, false, false, false, false, false, false, false, false, false, false]) rfl ?_)
  refine WH.take 3 rfl (by kernel_rfl) (by kernel_rfl) (by kernel_rfl) (by kernel_rfl) (fun _ hw => ⟨hw.it (own b2 (.cells (atC x a1 c1).toArray 34 (0, 0))) (by simp), hw.it (own b3 (.cells (atC y a2 c2).toArray 34 (0, 0))) (by simp)⟩) (OV.load1 (v := .string y.name) rfl T.u9 rfl (fun _ hw => (cell_at hw.2 (o := 3) rfl).1)) rfl (listed' := [true, true, true, true, false, false, false, false, false, false, false, false, false, false, false, false, false, false, false, false]) rfl ?_
  first
  | (refine WH.free 5 rfl (by kernel_rfl) (by kernel_rfl) (by kernel_rfl) rfl (fun _ => (fun _ hw => ⟨hw.it (own b2 (.cells (atC x a1 c1).toArray 34 (0, 0))) (by simp), hw.it (own b3 (.cells (atC y a2 c2).toArray 34 (0, 0))) (by simp)⟩)) (OV.fieldAddr0 (off := 4) rfl T.u34 rfl) rfl (listed' := [true, true, true, true, false, true, false, false, false, false, false, false, false, false, false, false, false, false, false, false]) rfl ?_)
  | (refine WH.free 5 rfl (by kernel_rfl) (by kernel_rfl) (by kernel_rfl) rfl (fun _ => (fun _ hw => ⟨hw.it (own b2 (.cells (atC x a1 c1).toArray 34 (0, 0))) (by simp), hw.it (own b3 (.cells (atC y a2 c2).toArray 34 (0, 0))) (by simp)⟩)) (OV.fieldAddr (off := 4) rfl T.u34 rfl) rfl (listed' := [true, true, true, true, false, true, false, false, false, false, false, false, false, false, false, false, false, false, false, false]) rfl ?_)
  refine WH.take 6 rfl (by kernel_rfl) (by kernel_rfl) (by kernel_rfl) (by kernel_rfl) (fun _ hw => ⟨hw.it (own b2 (.cells (atC x a1 c1).toArray 34 (0, 0))) (by simp), hw.it (own b3 (.cells (atC y a2 c2).toArray 34 (0, 0))) (by simp)⟩) (OV.load1 (v := .slice a1 x.args.length c1) rfl T.u32 rfl (fun _ hw => (cell_at hw.1 (o := 4) rfl).1)) rfl (listed' := [true, true, true, true, false, true, true, false, false, false, false, false, false, false, false, false, false, false, false, false]) rfl ?_
  first
  | (refine WH.free 7 rfl (by kernel_rfl) (by kernel_rfl) (by kernel_rfl) rfl (fun _ => (fun _ hw => ⟨hw.it (own b2 (.cells (atC x a1 c1).toArray 34 (0, 0))) (by simp), hw.it (own b3 (.cells (atC y a2 c2).toArray 34 (0, 0))) (by simp)⟩)) (OV.lenSlice rfl T.u32) rfl (listed' := [true, true, true, true, false, true, true, true, false, false, false, false, false, false, false, false, false, false, false, false]) rfl ?_)
  | (refine WH.free 7 rfl (by kernel_rfl) (by kernel_rfl) (by kernel_rfl) rfl (fun _ => (fun _ hw => ⟨hw.it (own b2 (.cells (atC x a1 c1).toArray 34 (0, 0))) (by simp), hw.it (own b3 (.cells (atC y a2 c2).toArray 34 (0, 0))) (by simp)⟩)) (OV.lenStr rfl T.u32) rfl (listed' := [true, true, true, true, false, true, true, true, false, false, false, false, false, false, false, false, false, false, false, false]) rfl ?_)
  first
  | (refine WH.free 8 rfl (by kernel_rfl) (by kernel_rfl) (by kernel_rfl) rfl (fun _ => (fun _ hw => ⟨hw.it (own b2 (.cells (atC x a1 c1).toArray 34 (0, 0))) (by simp), hw.it (own b3 (.cells (atC y a2 c2).toArray 34 (0, 0))) (by simp)⟩)) (OV.fieldAddr0 (off := 4) rfl T.u34 rfl) rfl (listed' := [true, true, true, true, false, true, true, true, true, false, false, false, false, false, false, false, false, false, false, false]) rfl ?_)
  | (refine WH.free 8 rfl (by kernel_rfl) (by kernel_rfl) (by kernel_rfl) rfl (fun _ => (fun _ hw => ⟨hw.it (own b2 (.cells (atC x a1 c1).toArray 34 (0, 0))) (by simp), hw.it (own b3 (.cells (atC y a2 c2).toArray 34 (0, 0))) (by simp)⟩)) (OV.fieldAddr (off := 4) rfl T.u34 rfl) rfl (listed' := [true, true, true, true, false, true, true, true, true, false, false, false, false, false, false, false, false, false, false, false]) rfl ?_)
  refine WH.take 9 rfl (by kernel_rfl) (by kernel_rfl) (by kernel_rfl) (by kernel_rfl) (fun _ hw => ⟨hw.it (own b2 (.cells (atC x a1 c1).toArray 34 (0, 0))) (by simp), hw.it (own b3 (.cells (atC y a2 c2).toArray 34 (0, 0))) (by simp)⟩) (OV.load1 (v := .slice a2 y.args.length c2) rfl T.u32 rfl (fun _ hw => (cell_at hw.2 (o := 4) rfl).1)) rfl (listed' := [true, true, true, true, false, true, true, true, true, true, false, false, false, false, false, false, false, false, false, false]) rfl ?_
  first
  | (refine WH.free 10 rfl (by kernel_rfl) (by kernel_rfl) (by kernel_rfl) rfl (fun _ => (fun _ hw => ⟨hw.it (own b2 (.cells (atC x a1 c1).toArray 34 (0, 0))) (by simp), hw.it (own b3 (.cells (atC y a2 c2).toArray 34 (0, 0))) (by simp)⟩)) (OV.lenSlice rfl T.u32) rfl (listed' := [true, true, true, true, false, true, true, true, true, true, true, false, false, false, false, false, false, false, false, false]) rfl ?_)
  | (refine WH.free 10 rfl (by kernel_rfl) (by kernel_rfl) (by kernel_rfl) rfl (fun _ => (fun _ hw => ⟨hw.it (own b2 (.cells (atC x a1 c1).toArray 34 (0, 0))) (by simp), hw.it (own b3 (.cells (atC y a2 c2).toArray 34 (0, 0))) (by simp)⟩)) (OV.lenStr rfl T.u32) rfl (listed' := [true, true, true, true, false, true, true, true, true, true, true, false, false, false, false, false, false, false, false, false]) rfl ?_)
  first
  | (refine WH.free 12 rfl (by kernel_rfl) (by kernel_rfl) (by kernel_rfl) rfl (fun _ => (fun _ hw => ⟨hw.it (own b2 (.cells (atC x a1 c1).toArray 34 (0, 0))) (by simp), hw.it (own b3 (.cells (atC y a2 c2).toArray 34 (0, 0))) (by simp)⟩)) (OV.fieldAddr0 (off := 0) rfl T.u34 rfl) rfl (listed' := [true, true, true, true, false, true, true, true, true, true, true, false, true, false, false, false, false, false, false, false]) rfl ?_)
  | (refine WH.free 12 rfl (by kernel_rfl) (by kernel_rfl) (by kernel_rfl) rfl (fun _ => (fun _ hw => ⟨hw.it (own b2 (.cells (atC x a1 c1).toArray 34 (0, 0))) (by simp), hw.it (own b3 (.cells (atC y a2 c2).toArray 34 (0, 0))) (by simp)⟩)) (OV.fieldAddr (off := 0) rfl T.u34 rfl) rfl (listed' := [true, true, true, true, false, true, true, true, true, true, true, false, true, false, false, false, false, false, false, false]) rfl ?_)
  refine WH.take 13 rfl (by kernel_rfl) (by kernel_rfl) (by kernel_rfl) (by kernel_rfl) (fun _ hw => ⟨hw.it (own b2 (.cells (atC x a1 c1).toArray 34 (0, 0))) (by simp), hw.it (own b3 (.cells (atC y a2 c2).toArray 34 (0, 0))) (by simp)⟩) (OV.loadN (cs := tmC x.b) rfl T.u31 rfl T.z31 (fun _ hw j v hj => by rw [add_off]; exact heap_part hw.1 (o := 0) (cs' := tmC x.b) rfl j v hj)) rfl (listed' := [true, true, true, true, false, true, true, true, true, true, true, false, true, true, false, false, false, false, false, false]) rfl ?_
  first
  | (refine WH.free 14 rfl (by kernel_rfl) (by kernel_rfl) (by kernel_rfl) rfl (fun _ => (fun _ hw => ⟨hw.it (own b2 (.cells (atC x a1 c1).toArray 34 (0, 0))) (by simp), hw.it (own b3 (.cells (atC y a2 c2).toArray 34 (0, 0))) (by simp)⟩)) (OV.fieldAddr0 (off := 0) rfl T.u34 rfl) rfl (listed' := [true, true, true, true, false, true, true, true, true, true, true, false, true, true, true, false, false, false, false, false]) rfl ?_)
  | (refine WH.free 14 rfl (by kernel_rfl) (by kernel_rfl) (by kernel_rfl) rfl (fun _ => (fun _ hw => ⟨hw.it (own b2 (.cells (atC x a1 c1).toArray 34 (0, 0))) (by simp), hw.it (own b3 (.cells (atC y a2 c2).toArray 34 (0, 0))) (by simp)⟩)) (OV.fieldAddr (off := 0) rfl T.u34 rfl) rfl (listed' := [true, true, true, true, false, true, true, true, true, true, true, false, true, true, true, false, false, false, false, false]) rfl ?_)
  refine WH.take 15 rfl (by kernel_rfl) (by kernel_rfl) (by kernel_rfl) (by kernel_rfl) (fun _ hw => ⟨hw.it (own b2 (.cells (atC x a1 c1).toArray 34 (0, 0))) (by simp), hw.it (own b3 (.cells (atC y a2 c2).toArray 34 (0, 0))) (by simp)⟩) (OV.loadN (cs := tmC y.b) rfl T.u31 rfl T.z31 (fun _ hw j v hj => by rw [add_off]; exact heap_part hw.2 (o := 0) (cs' := tmC y.b) rfl j v hj)) rfl (listed' := [true, true, true, true, false, true, true, true, true, true, true, false, true, true, true, true, false, false, false, false]) rfl ?_
  refine WH.only 4 rfl (by kernel_rfl) (listed' := [true, true, true, true, true, true, true, true, true, true, true, false, true, true, true, true, false, false, false, false]) rfl (fl' := false) rfl ?_
  refine WL.call0 (v := .int .i64 (cmpS x.name y.name)) (by kernel_rfl) rfl rfl (fun w' hw' => scmp_calls _ _ w') ?_
  refine WL.nil ?_
  refine WX.contD (by kernel_rfl) (fun _ => (fun _ hw => ⟨hw.it (own b2 (.cells (atC x a1 c1).toArray 34 (0, 0))) (by simp), hw.it (own b3 (.cells (atC y a2 c2).toArray 34 (0, 0))) (by simp)⟩)) ?_
  refine WH.only 11 rfl (by kernel_rfl) (listed' := [true, true, true, true, true, true, true, true, true, true, true, true, true, true, true, true, false, false, false, false]) rfl (fl' := false) rfl ?_
  refine WL.call0 (v := .int .i64 (cmpN x.args.length y.args.length)) (by kernel_rfl) rfl rfl (fun w' hw' => cmpN_calls _ _ w') ?_
  refine WL.nil ?_
  refine WX.contD (by kernel_rfl) (fun _ => (fun _ hw => ⟨hw.it (own b2 (.cells (atC x a1 c1).toArray 34 (0, 0))) (by simp), hw.it (own b3 (.cells (atC y a2 c2).toArray 34 (0, 0))) (by simp)⟩)) ?_
  refine WH.only 16 rfl (by kernel_rfl) (listed' := [true, true, true, true, true, true, true, true, true, true, true, true, true, true, true, true, true, false, false, false]) rfl (fl' := false) rfl ?_
  refine WL.call0 (v := .int .i64 (cmpT x.b y.b)) (by kernel_rfl) rfl rfl (fun w' hw' => cmpT_calls _ _ w') ?_
  refine WL.nil ?_
  refine WX.contD (by kernel_rfl) (fun _ => (fun _ hw => ⟨hw.it (own b2 (.cells (atC x a1 c1).toArray 34 (0, 0))) (by simp), hw.it (own b3 (.cells (atC y a2 c2).toArray 34 (0, 0))) (by simp)⟩)) ?_
  refine WH.only 17 rfl (by kernel_rfl) (listed' := [true, true, true, true, true, true, true, true, true, true, true, true, true, true, true, true, true, true, false, false]) rfl (fl' := false) rfl ?_
  refine WL.buildSliceN (xs := [.tmp 10, .tmp 17, .tmp 22]) (vs := ints [cmpS x.name y.name, cmpN x.args.length y.args.length, cmpT x.b y.b]) rfl T.u74 T.z3 T.zr3 rfl rfl rfl (by decide) rfl ?_
  intro b23
  refine WL.nil ?_
  refine WX.contD (by kernel_rfl) (fun _ => (fun _ hw => ⟨hw.it (own b2 (.cells (atC x a1 c1).toArray 34 (0, 0))) (by simp), hw.it (own b3 (.cells (atC y a2 c2).toArray 34 (0, 0))) (by simp)⟩)) ?_
  refine WH.only 18 rfl (by kernel_rfl) (listed' := [true, true, true, true, true, true, true, true, true, true, true, true, true, true, true, true, true, true, true, false]) rfl (fl' := false) rfl ?_
  refine WL.call0 (v := .int .i64 (orL [cmpS x.name y.name, cmpN x.args.length y.args.length, cmpT x.b y.b])) (by kernel_rfl) rfl rfl (fun w' hw' => or_calls [cmpS x.name y.name, cmpN x.args.length y.args.length, cmpT x.b y.b] b23 (by simp) w' (hw'.it _ (.head _))) ?_
  refine WL.nil ?_
  refine WX.contD (by kernel_rfl) (fun _ => (fun _ hw => ⟨hw.it (own b2 (.cells (atC x a1 c1).toArray 34 (0, 0))) (by simp), hw.it (own b3 (.cells (atC y a2 c2).toArray 34 (0, 0))) (by simp)⟩)) ?_
  refine WH.free 19 rfl (by kernel_rfl) (by kernel_rfl) (by kernel_rfl) rfl (fun _ => (fun _ hw => ⟨hw.it (own b2 (.cells (atC x a1 c1).toArray 34 (0, 0))) (by simp), hw.it (own b3 (.cells (atC y a2 c2).toArray 34 (0, 0))) (by simp)⟩)) (OV.assign rfl) rfl (listed' := [true, true, true, true, true, true, true, true, true, true, true, true, true, true, true, true, true, true, true, true]) rfl ?_
  refine WH.done (by kernel_rfl) ?_
  refine WX.next ?_
  refine WC.seq ?_
  refine WC.region ?_
  refine WL.val (OV.move rfl) rfl ?_
  refine WL.val (OV.neq rfl rfl) rfl ?_
  refine WL.nil ?_
  refine WX.next ?_
  refine WC.cond rfl (fun c26 => ?_) (fun c26 => ?_)
  · try simp only [decide_eq_true_eq, decide_eq_false_iff_not, Bool.not_eq_true', Bool.not_eq_false'] at c26
    refine WC.seq ?_
    refine WC.region ?_
    refine WL.val (OV.move rfl) rfl ?_
    refine WL.val (OV.assign rfl) rfl ?_
    refine WL.nil ?_
    refine WX.next ?_
    refine WC.ret ?_
    refine WX.then_ret ?_
    exact WX.ret1 rfl rfl rfl (fun w' hw => ⟨by congr 2; unfold cmpA; rw [if_pos (by simpa using c26)], hw.fr⟩)
  · try simp only [decide_eq_true_eq, decide_eq_false_iff_not, Bool.not_eq_true', Bool.not_eq_false'] at c26
    refine WC.skip ?_
    refine WX.next ?_
    refine WC.seq ?_
    refine WC.region ?_
    first
    | (refine WL.val (OV.fieldAddr0 (off := 4) rfl T.u34 rfl) rfl ?_)
    | (refine WL.val (OV.fieldAddr (off := 4) rfl T.u34 rfl) rfl ?_)
    first
    | (refine WL.val (OV.load1 rfl T.u32 rfl (fun _ hw => cell_own hw (.head _) rfl)) rfl ?_)
    | (refine WL.val (OV.load1 rfl T.u32 rfl (fun _ hw => cell_own hw (.tail _ (.head _)) rfl)) rfl ?_)
    | (refine WL.val (OV.load1 rfl T.u32 rfl (fun _ hw => cell_own hw (.tail _ (.tail _ (.head _))) rfl)) rfl ?_)
    | (refine WL.val (OV.load1 rfl T.u32 rfl (fun _ hw => cell_own hw (.tail _ (.tail _ (.tail _ (.head _)))) rfl)) rfl ?_)
    first
    | (refine WL.val (OV.fieldAddr0 (off := 4) rfl T.u34 rfl) rfl ?_)
    | (refine WL.val (OV.fieldAddr (off := 4) rfl T.u34 rfl) rfl ?_)
    first
    | (refine WL.val (OV.load1 rfl T.u32 rfl (fun _ hw => cell_own hw (.head _) rfl)) rfl ?_)
    | (refine WL.val (OV.load1 rfl T.u32 rfl (fun _ hw => cell_own hw (.tail _ (.head _)) rfl)) rfl ?_)
    | (refine WL.val (OV.load1 rfl T.u32 rfl (fun _ hw => cell_own hw (.tail _ (.tail _ (.head _))) rfl)) rfl ?_)
    | (refine WL.val (OV.load1 rfl T.u32 rfl (fun _ hw => cell_own hw (.tail _ (.tail _ (.tail _ (.head _)))) rfl)) rfl ?_)
    refine WL.call0 (v := .int .i64 (cmpList cmpT x.args y.args)) (vs := [.slice a1 x.args.length c1, .slice a2 y.args.length c2, .func (.func 69) #[] #[]]) (by kernel_rfl) rfl rfl (fun w' hw' => cmpF_calls x.args y.args a1 a2 c1 c2 h1 h2 w' (hr1.keeps hw'.keeps) (hr2.keeps hw'.keeps)) ?_
    refine WL.val (OV.assign rfl) rfl ?_
    refine WL.nil ?_
    refine WX.next ?_
    refine WC.ret ?_
    exact WX.ret1 rfl rfl rfl (fun w' hw => ⟨by congr 2; unfold cmpA; rw [if_neg (by simpa using c26)], hw.fr⟩)

set_option maxRecDepth 10000 in
theorem cmpP_calls (x y : Pd) (w : World) : Calls Tryz.prog 44 #[pdV x, pdV y] w fun e w' => e = .returned (.int .i64 (cmpP x y)) ∧ Fr0 w w' := by
  refine enterS (args := [pdV x, pdV y]) (fun _ => False) Tryz.func44 rfl Tryz.ntmps44 rfl rfl ?_
  refine WC.seq ?_
  refine WC.region ?_
  refine WL.box rfl rfl rfl ?_
  intro b2
  refine WL.box rfl rfl rfl ?_
  intro b3
  refine WL.val (OV.assign rfl) rfl ?_
  refine WL.nil ?_
  refine WX.next ?_
  refine WC.seq ?_
  refine WC.drawn (fun w' => w'.heap[b2]? = some (.cells (pdC x).toArray 43 (0, 0)) ∧ w'.heap[b3]? = some (.cells (pdC y).toArray 43 (0, 0))) [] (by kernel_rfl) (by kernel_rfl) (m := 13) rfl ?_
  first
  | (refine WH.free 0 rfl (by kernel_rfl) (by kernel_rfl) (by kernel_rfl) rfl (fun _ => (fun _ hw => ⟨hw.it (own b2 (.cells (pdC x).toArray 43 (0, 0))) (by simp), hw.it (own b3 (.cells (pdC y).toArray 43 (0, 0))) (by simp)⟩)) (OV.fieldAddr0 (off := 0) rfl T.u43 rfl) rfl (listed' := [true, false, false, false, false, false, false, false, false, false, false, false, false]) rfl ?_)
  | (refine WH.free 0 rfl (by kernel_rfl) (by kernel_rfl) (by kernel_rfl) rfl (fun _ => (fun _ hw => ⟨hw.it (own b2 (.cells (pdC x).toArray 43 (0, 0))) (by simp), hw.it (own b3 (.cells (pdC y).toArray 43 (0, 0))) (by simp)⟩)) (OV.fieldAddr (off := 0) rfl T.u43 rfl) rfl (listed' := [true, false, false, false, false, false, false, false, false, false, false, false, false]) rfl ?_)
  refine WH.take 1 rfl (by kernel_rfl) (by kernel_rfl) (by kernel_rfl) (by kernel_rfl) (fun _ hw => ⟨hw.it (own b2 (.cells (pdC x).toArray 43 (0, 0))) (by simp), hw.it (own b3 (.cells (pdC y).toArray 43 (0, 0))) (by simp)⟩) (OV.load1 (v := .string x.name) rfl T.u9 rfl (fun _ hw => (cell_at hw.1 (o := 0) rfl).1)) rfl (listed' := [true, true, false, false, false, false, false, false, false, false, false, false, false]) rfl ?_
  first
  | (refine WH.free 2 rfl (by kernel_rfl) (by kernel_rfl) (by kernel_rfl) rfl (fun _ => (fun _ hw => ⟨hw.it (own b2 (.cells (pdC x).toArray 43 (0, 0))) (by simp), hw.it (own b3 (.cells (pdC y).toArray 43 (0, 0))) (by simp)⟩)) (OV.fieldAddr0 (off := 0) rfl T.u43 rfl) rfl (listed' := [true, true, true, false, false, false, false, false, false, false, false, false, false]) rfl ?_)
  | (refine WH.free 2 rfl (by kernel_rfl) (by kernel_rfl) (by kernel_rfl) rfl (fun _ => (fun _ hw => ⟨hw.it (own b2 (.cells (pdC x).toArray 43 (0, 0))) (by simp), hw.it (own b3 (.cells (pdC y).toArray 43 (0, 0))) (by simp)⟩)) (OV.fieldAddr (off := 0) rfl T.u43 rfl) rfl (listed' := [true, true, true, false, false, false, false, false, false, false, false, false, false]) rfl ?_)
  refine WH.take 3 rfl (by kernel_rfl) (by kernel_rfl) (by kernel_rfl) (by kernel_rfl) (fun _ hw => ⟨hw.it (own b2 (.cells (pdC x).toArray 43 (0, 0))) (by simp), hw.it (own b3 (.cells (pdC y).toArray 43 (0, 0))) (by simp)⟩) (OV.load1 (v := .string y.name) rfl T.u9 rfl (fun _ hw => (cell_at hw.2 (o := 0) rfl).1)) rfl (listed' := [true, true, true, true, false, false, false, false, false, false, false, false, false]) rfl ?_
  first
  | (refine WH.free 5 rfl (by kernel_rfl) (by kernel_rfl) (by kernel_rfl) rfl (fun _ => (fun _ hw => ⟨hw.it (own b2 (.cells (pdC x).toArray 43 (0, 0))) (by simp), hw.it (own b3 (.cells (pdC y).toArray 43 (0, 0))) (by simp)⟩)) (OV.fieldAddr0 (off := 1) rfl T.u43 rfl) rfl (listed' := [true, true, true, true, false, true, false, false, false, false, false, false, false]) rfl ?_)
  | (refine WH.free 5 rfl (by kernel_rfl) (by kernel_rfl) (by kernel_rfl) rfl (fun _ => (fun _ hw => ⟨hw.it (own b2 (.cells (pdC x).toArray 43 (0, 0))) (by simp), hw.it (own b3 (.cells (pdC y).toArray 43 (0, 0))) (by simp)⟩)) (OV.fieldAddr (off := 1) rfl T.u43 rfl) rfl (listed' := [true, true, true, true, false, true, false, false, false, false, false, false, false]) rfl ?_)
  refine WH.take 6 rfl (by kernel_rfl) (by kernel_rfl) (by kernel_rfl) (by kernel_rfl) (fun _ hw => ⟨hw.it (own b2 (.cells (pdC x).toArray 43 (0, 0))) (by simp), hw.it (own b3 (.cells (pdC y).toArray 43 (0, 0))) (by simp)⟩) (OV.load1 (v := .int .i64 (x.ar : Int)) rfl T.u3 rfl (fun _ hw => (cell_at hw.1 (o := 1) rfl).1)) rfl (listed' := [true, true, true, true, false, true, true, false, false, false, false, false, false]) rfl ?_
  first
  | (refine WH.free 7 rfl (by kernel_rfl) (by kernel_rfl) (by kernel_rfl) rfl (fun _ => (fun _ hw => ⟨hw.it (own b2 (.cells (pdC x).toArray 43 (0, 0))) (by simp), hw.it (own b3 (.cells (pdC y).toArray 43 (0, 0))) (by simp)⟩)) (OV.fieldAddr0 (off := 1) rfl T.u43 rfl) rfl (listed' := [true, true, true, true, false, true, true, true, false, false, false, false, false]) rfl ?_)
  | (refine WH.free 7 rfl (by kernel_rfl) (by kernel_rfl) (by kernel_rfl) rfl (fun _ => (fun _ hw => ⟨hw.it (own b2 (.cells (pdC x).toArray 43 (0, 0))) (by simp), hw.it (own b3 (.cells (pdC y).toArray 43 (0, 0))) (by simp)⟩)) (OV.fieldAddr (off := 1) rfl T.u43 rfl) rfl (listed' := [true, true, true, true, false, true, true, true, false, false, false, false, false]) rfl ?_)
  refine WH.take 8 rfl (by kernel_rfl) (by kernel_rfl) (by kernel_rfl) (by kernel_rfl) (fun _ hw => ⟨hw.it (own b2 (.cells (pdC x).toArray 43 (0, 0))) (by simp), hw.it (own b3 (.cells (pdC y).toArray 43 (0, 0))) (by simp)⟩) (OV.load1 (v := .int .i64 (y.ar : Int)) rfl T.u3 rfl (fun _ hw => (cell_at hw.2 (o := 1) rfl).1)) rfl (listed' := [true, true, true, true, false, true, true, true, true, false, false, false, false]) rfl ?_
  refine WH.only 4 rfl (by kernel_rfl) (listed' := [true, true, true, true, true, true, true, true, true, false, false, false, false]) rfl (fl' := false) rfl ?_
  refine WL.call0 (v := .int .i64 (cmpS x.name y.name)) (by kernel_rfl) rfl rfl (fun w' hw' => scmp_calls _ _ w') ?_
  refine WL.nil ?_
  refine WX.contD (by kernel_rfl) (fun _ => (fun _ hw => ⟨hw.it (own b2 (.cells (pdC x).toArray 43 (0, 0))) (by simp), hw.it (own b3 (.cells (pdC y).toArray 43 (0, 0))) (by simp)⟩)) ?_
  refine WH.only 9 rfl (by kernel_rfl) (listed' := [true, true, true, true, true, true, true, true, true, true, false, false, false]) rfl (fl' := false) rfl ?_
  refine WL.call0 (v := .int .i64 (cmpN x.ar y.ar)) (by kernel_rfl) rfl rfl (fun w' hw' => cmpN_calls _ _ w') ?_
  refine WL.nil ?_
  refine WX.contD (by kernel_rfl) (fun _ => (fun _ hw => ⟨hw.it (own b2 (.cells (pdC x).toArray 43 (0, 0))) (by simp), hw.it (own b3 (.cells (pdC y).toArray 43 (0, 0))) (by simp)⟩)) ?_
  refine WH.only 10 rfl (by kernel_rfl) (listed' := [true, true, true, true, true, true, true, true, true, true, true, false, false]) rfl (fl' := false) rfl ?_
  refine WL.buildSliceN (xs := [.tmp 9, .tmp 14]) (vs := ints [cmpS x.name y.name, cmpN x.ar y.ar]) rfl T.u74 T.z3 T.zr3 rfl rfl rfl (by decide) rfl ?_
  intro b15
  refine WL.nil ?_
  refine WX.contD (by kernel_rfl) (fun _ => (fun _ hw => ⟨hw.it (own b2 (.cells (pdC x).toArray 43 (0, 0))) (by simp), hw.it (own b3 (.cells (pdC y).toArray 43 (0, 0))) (by simp)⟩)) ?_
  refine WH.only 11 rfl (by kernel_rfl) (listed' := [true, true, true, true, true, true, true, true, true, true, true, true, false]) rfl (fl' := false) rfl ?_
  refine WL.call0 (v := .int .i64 (cmpP x y)) (by kernel_rfl) rfl rfl (fun w' hw' => or_calls [cmpS x.name y.name, cmpN x.ar y.ar] b15 (by simp) w' (hw'.it _ (.head _))) ?_
  refine WL.nil ?_
  refine WX.contD (by kernel_rfl) (fun _ => (fun _ hw => ⟨hw.it (own b2 (.cells (pdC x).toArray 43 (0, 0))) (by simp), hw.it (own b3 (.cells (pdC y).toArray 43 (0, 0))) (by simp)⟩)) ?_
  refine WH.free 12 rfl (by kernel_rfl) (by kernel_rfl) (by kernel_rfl) rfl (fun _ => (fun _ hw => ⟨hw.it (own b2 (.cells (pdC x).toArray 43 (0, 0))) (by simp), hw.it (own b3 (.cells (pdC y).toArray 43 (0, 0))) (by simp)⟩)) (OV.assign rfl) rfl (listed' := [true, true, true, true, true, true, true, true, true, true, true, true, true]) rfl ?_
  refine WH.done (by kernel_rfl) ?_
  refine WX.next ?_
  refine WC.ret ?_
  exact WX.ret1 rfl rfl rfl (fun w' hw => ⟨rfl, hw.fr⟩)

end Go.Proofs.YtgiiifadbnpfkaaGreatDoor

namespace Go.Proofs.YtgiiifadbnpfkaaGreatDoor
open Go Go.Hw
set_option linter.unusedSimpArgs false
set_option linter.unusedVariables false
/-! ### The base as it lies -/
structure BaseG where
  p : Nat
  nb : Option Nat
  va : Option Addr
  vc : Nat
  vs : List Tm
  rb : Nat
  rs : List (Pd × RelG)
def baseC (g : BaseG) : List Value := [.map g.nb, .slice g.va g.vs.length g.vc, .map (some g.rb)]
def numKV (vs : List Tm) : List (Tm × Value) := vs.zipIdx.map fun q => (q.1, .int .i64 (q.2 : Int))
def relKV (rs : List (Pd × RelG)) : List (Pd × Value) := rs.map fun q => (q.1, ptr q.2.r)
def nbA (g : BaseG) : List Hw.Item := match g.nb with | none => [] | some b => [own b (mapK tmV (numKV g.vs))]
abbrev hdB (g : BaseG) : Hw.Item := own g.p (.cells (baseC g).toArray 84 (0, 0))
abbrev rowT (a : Option Addr) (c : Nat) (ts : List Tm) : Hw.Item := row 31 3 a ts.length c (ts.flatMap tmC)
def tabA (g : BaseG) : List Hw.Item := hdB g :: rowT g.va g.vc g.vs :: nbA g
def relsA (rs : List (Pd × RelG)) : List Hw.Item := rs.flatMap fun q => relA q.2
abbrev rbA (g : BaseG) : Hw.Item := own g.rb (mapK pdV (relKV g.rs))
def baseA (g : BaseG) : List Hw.Item := tabA g ++ (rbA g :: relsA g.rs)
/-- The number of a value. -/
def numOf (vs : List Tm) (t : Tm) : Option Nat := vs.findIdx? fun u => decide (t = u)
theorem numKV_spot (t : Tm) : ∀ (vs : List Tm) (k i : Nat), spot (vs.zipIdx k |>.map fun q => (q.1, (Value.int .i64 (q.2 : Int)))) t i = (numOf vs t).map fun n => (i + n, .int .i64 ((k + n : Nat) : Int))
  | [], k, i => rfl
  | u :: vs, k, i => by
    rw [List.zipIdx_cons, List.map_cons, spot, numOf, List.findIdx?_cons]
    by_cases h : t = u
    · simp [h]
    · simp only [h, if_false, decide_false, Bool.false_eq_true]
      rw [numKV_spot t vs (k + 1) (i + 1), numOf]
      cases List.findIdx? (fun u => decide (t = u)) vs with
      | none => rfl
      | some n => simp only [Option.map_some, Option.some.injEq, Prod.mk.injEq, Value.int.injEq, true_and]; omega
theorem numKV_got (vs : List Tm) (t : Tm) : got (numKV vs) t = (numOf vs t).map fun n => .int .i64 (n : Int) := by
  rw [got, numKV, numKV_spot t vs 0 0]
  cases numOf vs t <;> simp
theorem numOf_some {vs : List Tm} {t : Tm} {n : Nat} (h : numOf vs t = some n) : vs[n]? = some t := by
  unfold numOf at h
  obtain ⟨hl, h1, _⟩ := List.findIdx?_eq_some_iff_getElem.1 h
  rw [List.getElem?_eq_getElem hl]
  simp only [decide_eq_true_eq] at h1
  rw [h1]
theorem numOf_none {vs : List Tm} {t : Tm} : numOf vs t = none ↔ t ∉ vs := by
  unfold numOf
  rw [List.findIdx?_eq_none_iff]
  constructor
  · intro h hm
    have := h t hm
    simp at this
  · intro h u hu
    simp only [decide_eq_false_iff_not]
    intro e
    exact h (e ▸ hu)
theorem numOf_nodup {vs : List Tm} (hn : vs.Nodup) {t : Tm} {n : Nat} (h : vs[n]? = some t) : numOf vs t = some n := by
  cases hc : numOf vs t with
  | none => exact absurd (List.mem_of_getElem? h) (numOf_none.1 hc)
  | some m =>
    have h2 := numOf_some hc
    rw [(List.getElem?_inj (List.getElem?_eq_some_iff.1 h).1 hn).1 (h.trans h2.symm)]
theorem numOf_lt {vs : List Tm} {t : Tm} {n : Nat} (h : numOf vs t = some n) : n < vs.length := (List.getElem?_eq_some_iff.1 (numOf_some h)).1
structure BaseOK (g : BaseG) : Prop where
  nb : g.nb = none → g.vs = []
  vn : g.vs.Nodup
  rn : (g.rs.map (·.1)).Nodup
  ok : ∀ x ∈ g.rs, RelOK x.2
  wd : ∀ x ∈ g.rs, x.2.width = x.1.ar + 1
  ar : ∀ x ∈ g.rs, x.1.ar ≤ 8
  inr : ∀ x ∈ g.rs, ∀ r ∈ (rp x.2).map (·.1), ∀ k : Int, k ∈ r → 0 ≤ k ∧ k < (g.vs.length : Int)
  vl : g.vs.length ≤ 1099511627776
  rl : g.rs.length ≤ 1099511627776
  fl : (g.rs.map fun x => x.2.es.length).sum ≤ 1099511627776
/-- A map that may be none yet. -/
theorem OV.lookupNum {n : Nat} {ds : DS} {e : Env} {S : World → Prop} {dst : Option Tmp} {t : TypeId} {p : String} {af : Array Edge} {g : Option (Nat × Bool)} {x y : Operand} {nb : Option Nat} {vs : List Tm} {u : Tm} (hx : ev e x = some (.map nb)) (hy : ev e y = some (tmV u)) (h0 : nb = none → vs = []) (hc : ∀ w, S w → ∀ b, nb = some b → w.heap[b]? = some (mapK tmV (numKV vs))) :
    OV Tryz.prog n ds e S ⟨dst, .lookup 79 x y true, t, p, af, g⟩ (.tuple #[.int .i64 (((numOf vs u).getD 0 : Nat) : Int), .bool (numOf vs u).isSome]) := by
  cases nb with
  | some b =>
    have h := OV.lookupOk (P := Tryz.prog) (n := n) (ds := ds) (e := e) (S := S) (dst := dst) (t := t) (p := p) (af := af) (g := g) (kv := numKV vs) tmKey T.u79 (show Program.zv Tryz.prog 3 = some (.int .i64 0) by kernel_rfl) hx hy (fun w hw => hc w hw b rfl)
    refine h.cast ?_
    rw [numKV_got]
    cases numOf vs u <;> rfl
  | none =>
    intro a w ha hw
    have e0 : (Instr.lookup 79 (.map none) (tmV u) true).run Tryz.prog w = .ok (.tuple #[.int .i64 0, .bool false]) w := by
      unfold Instr.lookup
      simp only [Sem.run_bind, run_underlying T.u79, Result.andThen_ok, Sem.run_pure, tm_check]
      have h1 := tmKey.find u [] w
      simp only [mapEs, List.zipIdx_nil, List.map_nil] at h1
      simp [h1, spot, run_zv (show Program.zv Tryz.prog 3 = some (.int .i64 0) by kernel_rfl)]
    have hv : vs = [] := h0 rfl
    subst hv
    simp [execOp, ha.eval hx, ha.eval hy, e0, numOf]

set_option maxRecDepth 10000 in
theorem bnew_calls (w : World) : Calls Tryz.prog 28 #[] w fun e w' => ∃ p rb, e = .returned (ptr p) ∧ Turns [] (baseA ⟨p, none, none, 0, [], rb, []⟩) w w' := by
  refine enterS (args := []) (fun _ => False) Tryz.func28 rfl Tryz.ntmps28 rfl rfl ?_
  refine WC.seq ?_
  refine WC.region ?_
  refine WL.val (OV.assign rfl) rfl ?_
  refine WL.nil ?_
  refine WX.next ?_
  refine WC.seq ?_
  refine WC.region ?_
  refine WL.makeMap (pdV) rfl ?_
  intro m1
  refine WL.val (OV.buildStruct (xs := [(1, .tmp 1)]) (pl := [(0, 2), (2, 1)]) (cs := [.map none, .slice none 0 0, .map (some m1)]) T.u84 T.zr84 (by kernel_rfl) rfl (fill_cons (us := [_]) rfl rfl (by first | decide | simp) rfl)) rfl ?_
  refine WL.box rfl rfl rfl ?_
  intro b3
  refine WL.val (OV.assign rfl) rfl ?_
  refine WL.nil ?_
  refine WX.next ?_
  refine WC.ret ?_
  refine WX.ret1 rfl rfl rfl (fun w' hw => ⟨b3, m1, rfl, ?_⟩)
  exact ((hw.rowNil 31 3).perm (perm_pick [_, _, _] [1, 0, 2] (by decide) rfl)).turned0

set_option maxRecDepth 10000 in
theorem pred_calls (x : At) (a : Option Addr) (c : Nat) (w : World) : Calls Tryz.prog 39 #[atV x a c] w fun e w' => e = .returned (pdV ⟨x.name, x.args.length⟩) ∧ Fr0 w w' := by
  refine enterS (args := [atV x a c]) (fun _ => False) Tryz.func39 rfl Tryz.ntmps39 rfl rfl ?_
  refine WC.seq ?_
  refine WC.region ?_
  refine WL.box rfl rfl rfl ?_
  intro b1
  refine WL.alloc T.zr43 rfl ?_
  intro b2
  refine WL.nil ?_
  refine WX.next ?_
  refine WC.seq ?_
  refine WC.region ?_
  first
  | (refine WL.val (OV.fieldAddr0 (off := 3) rfl T.u34 rfl) rfl ?_)
  | (refine WL.val (OV.fieldAddr (off := 3) rfl T.u34 rfl) rfl ?_)
  refine WL.val (OV.load1 (v := .string x.name) rfl T.u9 rfl (fun _ hw => (cell_at (hw.it _ (.tail _ (.head _))) (o := 3) rfl).1)) rfl ?_
  first
  | (refine WL.val (OV.fieldAddr0 (off := 4) rfl T.u34 rfl) rfl ?_)
  | (refine WL.val (OV.fieldAddr (off := 4) rfl T.u34 rfl) rfl ?_)
  refine WL.val (OV.load1 (v := .slice a x.args.length c) rfl T.u32 rfl (fun _ hw => (cell_at (hw.it _ (.tail _ (.head _))) (o := 4) rfl).1)) rfl ?_
  first
  | (refine WL.val (OV.lenSlice rfl T.u32) rfl ?_)
  | (refine WL.val (OV.lenStr rfl T.u32) rfl ?_)
  refine WL.val (OV.buildStruct (xs := [(0, .tmp 4), (1, .tmp 7)]) (pl := [(0, 1), (1, 1)]) (cs := pdC ⟨x.name, x.args.length⟩) T.u43 T.zr43 (by kernel_rfl) rfl (fill_cons (us := [_]) rfl rfl (by first | decide | simp) (fill_cons (us := [_]) rfl rfl (by first | decide | simp) rfl))) rfl ?_
  refine WL.storeAll (vs := pdC ⟨x.name, x.args.length⟩) rfl rfl rfl T.z43 rfl ?_
  refine WL.nil ?_
  refine WX.next ?_
  refine WC.ret ?_
  exact WX.retC (cs := pdC ⟨x.name, x.args.length⟩) rfl rfl rfl T.u43 rfl T.z43 (fun w' hw j v hj => own_cells hw (.head _) j v hj) (fun w' hw => ⟨rfl, hw.fr⟩)

theorem nb_get {w0 ws w : World} {M I : Nat → Prop} {ow : List Hw.Item} {g : BaseG} (h : Sat w0 M I ws ow w) (hm : ∀ i ∈ nbA g, i ∈ ow) : ∀ b, g.nb = some b → w.heap[b]? = some (mapK tmV (numKV g.vs)) := by
  intro b hb
  exact h.it (own b (mapK tmV (numKV g.vs))) (hm _ (by rw [nbA, hb]; exact .head _))
theorem nb_holds {w : World} {g : BaseG} (h : Holds (tabA g) w) : ∀ b, g.nb = some b → w.heap[b]? = some (mapK tmV (numKV g.vs)) := by
  intro b hb
  exact h.φ (own b (mapK tmV (numKV g.vs))) (.tail _ (.tail _ (by rw [nbA, hb]; exact .head _)))

set_option maxRecDepth 10000 in
theorem known_calls (g : BaseG) (ok : BaseOK g) (t : Tm) (w : World) (hA : Holds (tabA g) w) : Calls Tryz.prog 71 #[ptr g.p, tmV t] w fun e w' => e = .returned (.tuple #[.int .i64 (((numOf g.vs t).getD 0 : Nat) : Int), .bool (numOf g.vs t).isSome]) ∧ Fr0 w w' := by
  refine enterS (args := [ptr g.p, tmV t]) (fun _ => False) Tryz.func71 rfl Tryz.ntmps71 rfl rfl ?_
  refine WC.seq ?_
  refine WC.region ?_
  refine WL.box rfl rfl rfl ?_
  intro b3
  refine WL.val (OV.assign rfl) rfl ?_
  refine WL.val (OV.assign rfl) rfl ?_
  refine WL.nil ?_
  refine WX.next ?_
  refine WC.seq ?_
  refine WC.quietS (by kernel_rfl) (by kernel_rfl) (m := 11) rfl ?_
  refine WH.free 0 rfl (by kernel_rfl) (by kernel_rfl) (by kernel_rfl) rfl (fun _ => (fun _ h => h)) (OV.move rfl) rfl (listed' := [true, false, false, false, false, false, false, false, false, false, false]) rfl ?_
  refine WH.free 1 rfl (by kernel_rfl) (by kernel_rfl) (by kernel_rfl) rfl (fun _ => (fun _ h => h)) (OV.nilCheck rfl) rfl (listed' := [true, true, false, false, false, false, false, false, false, false, false]) rfl ?_
  first
  | (refine WH.free 2 rfl (by kernel_rfl) (by kernel_rfl) (by kernel_rfl) rfl (fun _ => (fun _ h => h)) (OV.fieldAddr0 (off := 0) rfl T.u81 rfl) rfl (listed' := [true, true, true, false, false, false, false, false, false, false, false]) rfl ?_)
  | (refine WH.free 2 rfl (by kernel_rfl) (by kernel_rfl) (by kernel_rfl) rfl (fun _ => (fun _ h => h)) (OV.fieldAddr (off := 0) rfl T.u81 rfl) rfl (listed' := [true, true, true, false, false, false, false, false, false, false, false]) rfl ?_)
  refine WH.take 3 rfl (by kernel_rfl) (by kernel_rfl) (by kernel_rfl) (by kernel_rfl) (fun _ h => h) (OV.load1 (v := .map g.nb) rfl T.u79 rfl (fun _ hw => hw.keeps _ _ (cell_at (hA.φ _ (.head _)) (o := 0) rfl).1)) rfl (listed' := [true, true, true, true, false, false, false, false, false, false, false]) rfl ?_
  refine WH.take 4 rfl (by kernel_rfl) (by kernel_rfl) (by kernel_rfl) (by kernel_rfl) (fun _ h => h) (OV.loadN (cs := tmC t) rfl T.u31 rfl T.z31 (fun _ hw j v hj => by rw [add_off, Nat.zero_add]; exact own_cells hw (.head _) j v hj)) rfl (listed' := [true, true, true, true, true, false, false, false, false, false, false]) rfl ?_
  refine WH.take 5 rfl (by kernel_rfl) (by kernel_rfl) (by kernel_rfl) (by kernel_rfl) (fun _ h => h) (OV.lookupNum rfl rfl ok.nb (fun _ hw b hb => (hw.snap b (Array.getElem?_eq_some_iff.1 (nb_holds hA b hb)).1).2.trans (nb_holds hA b hb))) rfl (listed' := [true, true, true, true, true, true, false, false, false, false, false]) rfl ?_
  refine WH.free 6 rfl (by kernel_rfl) (by kernel_rfl) (by kernel_rfl) rfl (fun _ => (fun _ h => h)) (OV.move rfl) rfl (listed' := [true, true, true, true, true, true, true, false, false, false, false]) rfl ?_
  refine WH.free 7 rfl (by kernel_rfl) (by kernel_rfl) (by kernel_rfl) rfl (fun _ => (fun _ h => h)) (OV.extract rfl rfl) rfl (listed' := [true, true, true, true, true, true, true, true, false, false, false]) rfl ?_
  refine WH.free 8 rfl (by kernel_rfl) (by kernel_rfl) (by kernel_rfl) rfl (fun _ => (fun _ h => h)) (OV.extract rfl rfl) rfl (listed' := [true, true, true, true, true, true, true, true, true, false, false]) rfl ?_
  refine WH.free 9 rfl (by kernel_rfl) (by kernel_rfl) (by kernel_rfl) rfl (fun _ => (fun _ h => h)) (OV.assign rfl) rfl (listed' := [true, true, true, true, true, true, true, true, true, true, false]) rfl ?_
  refine WH.free 10 rfl (by kernel_rfl) (by kernel_rfl) (by kernel_rfl) rfl (fun _ => (fun _ h => h)) (OV.assign rfl) rfl (listed' := [true, true, true, true, true, true, true, true, true, true, true]) rfl ?_
  refine WH.done (by kernel_rfl) ?_
  refine WX.next ?_
  refine WC.seq ?_
  refine WC.region ?_
  refine WL.val (OV.move rfl) rfl ?_
  refine WL.val (OV.move rfl) rfl ?_
  refine WL.val (OV.assign rfl) rfl ?_
  refine WL.val (OV.assign rfl) rfl ?_
  refine WL.nil ?_
  refine WX.next ?_
  refine WC.ret ?_
  exact WX.ret2 rfl rfl rfl rfl (fun w' hw => ⟨rfl, hw.fr⟩)

set_option maxRecDepth 10000 in
theorem value_calls (g : BaseG) (ok : BaseOK g) (i : Nat) (t : Tm) (ht : g.vs[i]? = some t) (w : World) (hA : Holds (tabA g) w) : Calls Tryz.prog 66 #[ptr g.p, .int .i64 (i : Int)] w fun e w' => e = .returned (tmV t) ∧ Fr0 w w' := by
  refine enterS (args := [ptr g.p, .int .i64 (i : Int)]) (fun _ => False) Tryz.func66 rfl Tryz.ntmps66 rfl rfl ?_
  refine WC.seq ?_
  refine WC.region ?_
  refine WL.alloc T.zr31 rfl ?_
  intro b4
  refine WL.nil ?_
  refine WX.next ?_
  refine WC.seq ?_
  refine WC.region ?_
  refine WL.val (OV.move rfl) rfl ?_
  refine WL.val (OV.nilCheck rfl) rfl ?_
  first
  | (refine WL.val (OV.fieldAddr0 (off := 1) rfl T.u81 rfl) rfl ?_)
  | (refine WL.val (OV.fieldAddr (off := 1) rfl T.u81 rfl) rfl ?_)
  refine WL.val (OV.load1 (v := .slice g.va g.vs.length g.vc) rfl T.u32 rfl (fun _ hw => hw.keeps _ _ (cell_at (hA.φ _ (.head _)) (o := 1) rfl).1)) rfl ?_
  refine WL.val (OV.move rfl) rfl ?_
  have hil := (List.getElem?_eq_some_iff.1 ht).1
  have hS : Sat w (DD (tabA g)) (fun b => b < w.heap.size ∧ ¬ DD (tabA g) b) w (tabA g) w := Sat.startA hA
  obtain ⟨q1, t1, hq1, ht1, _, _, hcell⟩ := (RT.of_row (c := g.vc) rfl hS (.tail _ (.head _))).get hil
  obtain rfl : t1 = t := Option.some.inj (ht1.symm.trans ht)
  refine WL.val ((OV.indexSlice (a := q1) (show _ = some (Value.slice (some q1) g.vs.length g.vc) by rw [← hq1]; rfl) rfl T.u32 T.z31 (by omega)).cast (u := .pointer (some (q1.add (i * 3)))) (by rw [Int.toNat_natCast])) rfl ?_
  refine WL.val (OV.loadN (cs := tmC t1) rfl T.u31 rfl T.z31 (fun _ hw j v hj => hw.keeps _ _ (hcell j v hj))) rfl ?_
  refine WL.storeAll (vs := tmC t1) rfl rfl rfl T.z31 rfl ?_
  refine WL.nil ?_
  refine WX.next ?_
  refine WC.ret ?_
  exact WX.retC (cs := tmC t1) rfl rfl rfl T.u31 rfl T.z31 (fun w' hw j v hj => own_cells hw (.head _) j v hj) (fun w' hw => ⟨rfl, hw.fr⟩)

end Go.Proofs.YtgiiifadbnpfkaaGreatDoor

namespace Go.Proofs.YtgiiifadbnpfkaaGreatDoor
open Go Go.Hw
set_option linter.unusedSimpArgs false
set_option linter.unusedVariables false
theorem _root_.Go.Hw.Sat.asRow {w0 ws w : World} {M I : Nat → Prop} {ow : List Hw.Item} {b : Nat} {cs : List Value} {T : TypeId} {k m : Nat} (h : Sat w0 M I ws (own b (.cells cs.toArray T (0, 0)) :: ow) w) (hl : cs.length = m * k) (hm : m ≤ maxLen) : Sat w0 M I ws (row T k (some ⟨b, 0, none⟩) m m cs :: ow) w := by
  refine h.turn (Fr.refl _ w) ?_ ?_
  · refine ⟨hl, .inr ⟨b, m, cs.toArray, rfl, Nat.zero_le _, h.it _ (.head _), Nat.le_refl _, hm, by simp [hl], ?_⟩⟩
    show cs.toArray.toList.take (m * k) = cs
    rw [List.toList_toArray, ← hl, List.take_length]
  · rintro i ⟨q, hq, rfl⟩
    simp only [Option.some.injEq] at hq
    subst hq
    exact .inl rfl
theorem tabA_some {g : BaseG} {b : Nat} (h : g.nb = some b) : tabA g = [own g.p (.cells [.map (some b), .slice g.va g.vs.length g.vc, .map (some g.rb)].toArray 84 (0, 0)), rowT g.va g.vc g.vs, own b (mapK tmV (numKV g.vs))] := by
  simp [tabA, hdB, baseC, nbA, h]
theorem _root_.Go.Hw.OV.eqlMN {P : Program} {n : Nat} {ds : DS} {e : Env} {S : World → Prop} {dst : Option Tmp} {t xt yt : TypeId} {p : String} {af : Array Edge} {g : Option (Nat × Bool)} {x y : Operand} {m : Option Nat} {kt el : TypeId} (hu : P.underlying xt = some (.map kt el)) (hx : ev e x = some (.map m)) (hy : ev e y = some (.map none)) : OV P n ds e S ⟨dst, .binOp .eql xt x y yt, t, p, af, g⟩ (.bool m.isNone) := fun _ w ha _ => by
  have h := run_equalIn_map_nil w 9999 xt kt el m hu
  have hg : (eqGuard .eql xt x y (.map m) (.map none)).run P w = .ok () w := by
    simp [eqGuard, run_program]
  simp [execOp, ha.eval hx, ha.eval hy, hg, binOp, Op.equal, Op.maxDepth, h]
/-- The values once the value has a number. -/
def numX (vs : List Tm) (t : Tm) : List Tm := if t ∈ vs then vs else vs ++ [t]
theorem numX_of {vs : List Tm} {t : Tm} (h : t ∉ vs) : numX vs t = vs ++ [t] := if_neg h
theorem numX_old {vs : List Tm} {t : Tm} (h : t ∈ vs) : numX vs t = vs := if_pos h
theorem numX_nodup {vs : List Tm} {t : Tm} (h : vs.Nodup) : (numX vs t).Nodup := by
  by_cases ht : t ∈ vs
  · rw [numX_old ht]; exact h
  · rw [numX_of ht, List.nodup_append]
    exact ⟨h, by simp, fun a ha b hb => by simp only [List.mem_singleton] at hb; subst hb; exact fun e => ht (e ▸ ha)⟩
theorem numX_len (vs : List Tm) (t : Tm) : (numX vs t).length ≤ vs.length + 1 := by unfold numX; split <;> simp
theorem numX_pre (vs : List Tm) (t : Tm) : vs <+: numX vs t := by unfold numX; split <;> simp
theorem numX_num {vs : List Tm} (hn : vs.Nodup) {t : Tm} (h : t ∉ vs) : numOf (vs ++ [t]) t = some vs.length := numOf_nodup (numX_of h ▸ numX_nodup hn) (by simp)
theorem numKV_snoc {vs : List Tm} {t : Tm} (h : t ∉ vs) : ups (numKV vs) t (.int .i64 (vs.length : Int)) = numKV (vs ++ [t]) := by
  rw [ups_new]
  · simp [numKV, List.zipIdx_append]
  · intro q hq e
    obtain ⟨z, hz, rfl⟩ := List.mem_map.1 hq
    exact h (e ▸ (List.mem_zipIdx' hz).2 ▸ List.getElem_mem _)
theorem T.apT : appB Tryz.prog 32 31 3 32 = true := by kernel_rfl

set_option maxRecDepth 10000 in
set_option maxHeartbeats 1000000 in
theorem number_calls (g : BaseG) (h0 : g.nb = none → g.vs = []) (hn : g.vs.Nodup) (hl : g.vs.length ≤ 1099511627776) (t : Tm) (w : World) (hA : Holds (tabA g) w) : Calls Tryz.prog 57 #[ptr g.p, tmV t] w fun e w' => ∃ i nb va vc, e = .returned (.int .i64 ((i : Nat) : Int)) ∧ numOf (numX g.vs t) t = some i ∧ (nb = none → numX g.vs t = []) ∧ Turns (tabA g) (tabA { g with nb := nb, va := va, vc := vc, vs := numX g.vs t }) w w' := by
  refine enterA hA (args := [ptr g.p, tmV t]) Tryz.func57 rfl Tryz.ntmps57 rfl rfl ?_
  refine WC.seq ?_
  refine WC.region ?_
  refine WL.box rfl rfl rfl ?_
  intro b3
  refine WL.val (OV.assign rfl) rfl ?_
  refine WL.nil ?_
  refine WX.next ?_
  refine WC.seq ?_
  refine WC.quietS (by kernel_rfl) (by kernel_rfl) (m := 11) rfl ?_
  refine WH.free 0 rfl (by kernel_rfl) (by kernel_rfl) (by kernel_rfl) rfl (fun _ => (fun _ h => h)) (OV.move rfl) rfl (listed' := [true, false, false, false, false, false, false, false, false, false, false]) rfl ?_
  refine WH.free 1 rfl (by kernel_rfl) (by kernel_rfl) (by kernel_rfl) rfl (fun _ => (fun _ h => h)) (OV.nilCheck rfl) rfl (listed' := [true, true, false, false, false, false, false, false, false, false, false]) rfl ?_
  first
  | (refine WH.free 2 rfl (by kernel_rfl) (by kernel_rfl) (by kernel_rfl) rfl (fun _ => (fun _ h => h)) (OV.fieldAddr0 (off := 0) rfl T.u81 rfl) rfl (listed' := [true, true, true, false, false, false, false, false, false, false, false]) rfl ?_)
  | (refine WH.free 2 rfl (by kernel_rfl) (by kernel_rfl) (by kernel_rfl) rfl (fun _ => (fun _ h => h)) (OV.fieldAddr (off := 0) rfl T.u81 rfl) rfl (listed' := [true, true, true, false, false, false, false, false, false, false, false]) rfl ?_)
  refine WH.take 3 rfl (by kernel_rfl) (by kernel_rfl) (by kernel_rfl) (by kernel_rfl) (fun _ h => h) (OV.load1 (v := .map g.nb) rfl T.u79 rfl (fun _ hw => (cell_at (hw.it (hdB g) (.tail _ (.head _))) (o := 0) rfl).1)) rfl (listed' := [true, true, true, true, false, false, false, false, false, false, false]) rfl ?_
  refine WH.take 4 rfl (by kernel_rfl) (by kernel_rfl) (by kernel_rfl) (by kernel_rfl) (fun _ h => h) (OV.loadN (cs := tmC t) rfl T.u31 rfl T.z31 (fun _ hw j v hj => by rw [add_off, Nat.zero_add]; exact own_cells hw (.head _) j v hj)) rfl (listed' := [true, true, true, true, true, false, false, false, false, false, false]) rfl ?_
  refine WH.take 5 rfl (by kernel_rfl) (by kernel_rfl) (by kernel_rfl) (by kernel_rfl) (fun _ h => h) (OV.lookupNum rfl rfl h0 (fun _ hw => nb_get hw (fun i hi => .tail _ (.tail _ (.tail _ hi))))) rfl (listed' := [true, true, true, true, true, true, false, false, false, false, false]) rfl ?_
  refine WH.free 6 rfl (by kernel_rfl) (by kernel_rfl) (by kernel_rfl) rfl (fun _ => (fun _ h => h)) (OV.move rfl) rfl (listed' := [true, true, true, true, true, true, true, false, false, false, false]) rfl ?_
  refine WH.free 7 rfl (by kernel_rfl) (by kernel_rfl) (by kernel_rfl) rfl (fun _ => (fun _ h => h)) (OV.extract rfl rfl) rfl (listed' := [true, true, true, true, true, true, true, true, false, false, false]) rfl ?_
  refine WH.free 8 rfl (by kernel_rfl) (by kernel_rfl) (by kernel_rfl) rfl (fun _ => (fun _ h => h)) (OV.extract rfl rfl) rfl (listed' := [true, true, true, true, true, true, true, true, true, false, false]) rfl ?_
  refine WH.free 9 rfl (by kernel_rfl) (by kernel_rfl) (by kernel_rfl) rfl (fun _ => (fun _ h => h)) (OV.assign rfl) rfl (listed' := [true, true, true, true, true, true, true, true, true, true, false]) rfl ?_
  refine WH.free 10 rfl (by kernel_rfl) (by kernel_rfl) (by kernel_rfl) rfl (fun _ => (fun _ h => h)) (OV.assign rfl) rfl (listed' := [true, true, true, true, true, true, true, true, true, true, true]) rfl ?_
  refine WH.done (by kernel_rfl) ?_
  refine WX.next ?_
  refine WC.seq ?_
  refine WC.seq ?_
  refine WC.region ?_
  refine WL.val (OV.move rfl) rfl ?_
  refine WL.val (OV.not rfl) rfl ?_
  refine WL.nil ?_
  refine WX.next ?_
  refine WC.cond rfl (fun c17 => ?_) (fun c17 => ?_)
  · try simp only [decide_eq_true_eq, decide_eq_false_iff_not, Bool.not_eq_true', Bool.not_eq_false'] at c17
    refine WC.seq ?_
    refine WC.seq ?_
    refine WC.region ?_
    refine WL.val (OV.move rfl) rfl ?_
    refine WL.val (OV.nilCheck rfl) rfl ?_
    first
    | (refine WL.val (OV.fieldAddr0 (off := 0) rfl T.u81 rfl) rfl ?_)
    | (refine WL.val (OV.fieldAddr (off := 0) rfl T.u81 rfl) rfl ?_)
    refine WL.val (OV.load1 (v := .map g.nb) rfl T.u79 rfl (fun _ hw => (cell_at (hw.it (hdB g) (.tail _ (.head _))) (o := 0) rfl).1)) rfl ?_
    refine WL.val (OV.eqlMN T.u79 rfl rfl) rfl ?_
    refine WL.nil ?_
    refine WX.next ?_
    refine WC.cond rfl (fun c22 => ?_) (fun c22 => ?_)
    · try simp only [decide_eq_true_eq, decide_eq_false_iff_not, Bool.not_eq_true', Bool.not_eq_false'] at c22
      refine WC.region ?_
      refine WL.val (OV.move rfl) rfl ?_
      refine WL.makeMap (tmV) rfl ?_
      intro m24
      refine WL.val (OV.nilCheck rfl) rfl ?_
      first
      | (refine WL.val (OV.fieldAddr0 (off := 0) rfl T.u81 rfl) rfl ?_)
      | (refine WL.val (OV.fieldAddr (off := 0) rfl T.u81 rfl) rfl ?_)
      refine WL.focus perm2 (WL.store1 (o := 0) rfl rfl rfl T.z79 (by show 0 < 3; omega) ?_)
      refine WL.nil ?_
      refine WX.next ?_
      refine WC.seq ?_
      obtain ⟨nb, hnb24⟩ : ∃ nb, nb = m24 := ⟨_, rfl⟩
      subst hnb24
      have hnt : t ∉ g.vs := numOf_none.1 (by simpa using c17)
      have hv : g.vs = [] := h0 (by simpa using c22)
      refine WC.weak (S' := Sat w (DD (tabA g)) (fun b => b < w.heap.size ∧ ¬ DD (tabA g) b) w (own b3 (.cells (tmC t).toArray 31 (0, 0)) :: own g.p (.cells [.map (some nb), .slice g.va g.vs.length g.vc, .map (some g.rb)].toArray 84 (0, 0)) :: row 31 3 g.va g.vs.length g.vc (g.vs.flatMap tmC) :: own nb (mapK tmV (numKV g.vs)) :: [])) (fun w' hw => by
        rw [show numKV g.vs = [] by rw [hv]; rfl]
        exact hw.pick [[own g.p (.cells [.map (some nb), .slice g.va g.vs.length g.vc, .map (some g.rb)].toArray 84 (0, 0))], [own nb (mapK tmV [])], [own b3 (.cells (tmC t).toArray 31 (0, 0))], [rowT g.va g.vc g.vs], nbA g] [2, 0, 3, 1] 5 rfl (by decide) (by decide)) ?_
      refine WC.region ?_
      refine WL.val (OV.move rfl) rfl ?_
      refine WL.val (OV.nilCheck rfl) rfl ?_
      first
      | (refine WL.val (OV.fieldAddr0 (off := 1) rfl T.u81 rfl) rfl ?_)
      | (refine WL.val (OV.fieldAddr (off := 1) rfl T.u81 rfl) rfl ?_)
      refine WL.val (OV.load1 (v := .slice g.va g.vs.length g.vc) rfl T.u32 rfl (fun _ hw => (cell_at (hw.it _ (.tail _ (.head _))) (o := 1) rfl).1)) rfl ?_
      first
      | (refine WL.val (OV.lenSlice rfl T.u32) rfl ?_)
      | (refine WL.val (OV.lenStr rfl T.u32) rfl ?_)
      refine WL.val (OV.assign rfl) rfl ?_
      refine WL.nil ?_
      refine WX.next ?_
      refine WC.seq ?_
      refine WC.drawn (fun w' => w'.heap[g.p]? = some (.cells [.map (some nb), .slice g.va g.vs.length g.vc, .map (some g.rb)].toArray 84 (0, 0)) ∧ w'.heap[b3]? = some (.cells (tmC t).toArray 31 (0, 0))) [] (by kernel_rfl) (by kernel_rfl) (m := 7) rfl ?_
      refine WH.free 0 rfl (by kernel_rfl) (by kernel_rfl) (by kernel_rfl) rfl (fun _ => (fun _ hw => ⟨hw.it (own g.p _) (by simp), hw.it (own b3 _) (by simp)⟩)) (OV.move rfl) rfl (listed' := [true, false, false, false, false, false, false]) rfl ?_
      refine WH.free 1 rfl (by kernel_rfl) (by kernel_rfl) (by kernel_rfl) rfl (fun _ => (fun _ hw => ⟨hw.it (own g.p _) (by simp), hw.it (own b3 _) (by simp)⟩)) (OV.nilCheck rfl) rfl (listed' := [true, true, false, false, false, false, false]) rfl ?_
      first
      | (refine WH.free 2 rfl (by kernel_rfl) (by kernel_rfl) (by kernel_rfl) rfl (fun _ => (fun _ hw => ⟨hw.it (own g.p _) (by simp), hw.it (own b3 _) (by simp)⟩)) (OV.fieldAddr0 (off := 0) rfl T.u81 rfl) rfl (listed' := [true, true, true, false, false, false, false]) rfl ?_)
      | (refine WH.free 2 rfl (by kernel_rfl) (by kernel_rfl) (by kernel_rfl) rfl (fun _ => (fun _ hw => ⟨hw.it (own g.p _) (by simp), hw.it (own b3 _) (by simp)⟩)) (OV.fieldAddr (off := 0) rfl T.u81 rfl) rfl (listed' := [true, true, true, false, false, false, false]) rfl ?_)
      refine WH.take 3 rfl (by kernel_rfl) (by kernel_rfl) (by kernel_rfl) (by kernel_rfl) (fun _ hw => ⟨hw.it (own g.p _) (by simp), hw.it (own b3 _) (by simp)⟩) (OV.load1 (v := .map (some nb)) rfl T.u79 rfl (fun _ hw => (cell_at hw.1 (o := 0) rfl).1)) rfl (listed' := [true, true, true, true, false, false, false]) rfl ?_
      refine WH.take 4 rfl (by kernel_rfl) (by kernel_rfl) (by kernel_rfl) (by kernel_rfl) (fun _ hw => ⟨hw.it (own g.p _) (by simp), hw.it (own b3 _) (by simp)⟩) (OV.loadN (cs := tmC t) rfl T.u31 rfl T.z31 (fun _ hw j v hj => by rw [add_off]; exact heap_part hw.2 (o := 0) (cs' := tmC t) rfl j v hj)) rfl (listed' := [true, true, true, true, true, false, false]) rfl ?_
      refine WH.free 5 rfl (by kernel_rfl) (by kernel_rfl) (by kernel_rfl) rfl (fun _ => (fun _ hw => ⟨hw.it (own g.p _) (by simp), hw.it (own b3 _) (by simp)⟩)) (OV.move rfl) rfl (listed' := [true, true, true, true, true, true, false]) rfl ?_
      refine WH.only 6 rfl (by kernel_rfl) (listed' := [true, true, true, true, true, true, true]) rfl (fl' := false) rfl ?_
      refine WL.focus perm3 (WL.mapUpdate tmKey T.u79 rfl rfl rfl ?_)
      rw [numKV_snoc hnt]
      refine WL.nil ?_
      refine WX.contD (by kernel_rfl) (fun _ => (fun _ hw => ⟨hw.it (own g.p _) (by simp), hw.it (own b3 _) (by simp)⟩)) ?_
      refine WH.done (by kernel_rfl) ?_
      refine WX.next ?_
      refine WC.drawn (fun w' => w'.heap[g.p]? = some (.cells [.map (some nb), .slice g.va g.vs.length g.vc, .map (some g.rb)].toArray 84 (0, 0)) ∧ w'.heap[b3]? = some (.cells (tmC t).toArray 31 (0, 0))) [10] (by kernel_rfl) (by kernel_rfl) (m := 11) rfl ?_
      refine WH.free 0 rfl (by kernel_rfl) (by kernel_rfl) (by kernel_rfl) rfl (fun _ => (fun _ hw => ⟨hw.it (own g.p _) (by simp), hw.it (own b3 _) (by simp)⟩)) (OV.move rfl) rfl (listed' := [true, false, false, false, false, false, false, false, false, false, false]) rfl ?_
      refine WH.free 1 rfl (by kernel_rfl) (by kernel_rfl) (by kernel_rfl) rfl (fun _ => (fun _ hw => ⟨hw.it (own g.p _) (by simp), hw.it (own b3 _) (by simp)⟩)) (OV.move rfl) rfl (listed' := [true, true, false, false, false, false, false, false, false, false, false]) rfl ?_
      refine WH.free 2 rfl (by kernel_rfl) (by kernel_rfl) (by kernel_rfl) rfl (fun _ => (fun _ hw => ⟨hw.it (own g.p _) (by simp), hw.it (own b3 _) (by simp)⟩)) (OV.nilCheck rfl) rfl (listed' := [true, true, true, false, false, false, false, false, false, false, false]) rfl ?_
      first
      | (refine WH.free 3 rfl (by kernel_rfl) (by kernel_rfl) (by kernel_rfl) rfl (fun _ => (fun _ hw => ⟨hw.it (own g.p _) (by simp), hw.it (own b3 _) (by simp)⟩)) (OV.fieldAddr0 (off := 1) rfl T.u81 rfl) rfl (listed' := [true, true, true, true, false, false, false, false, false, false, false]) rfl ?_)
      | (refine WH.free 3 rfl (by kernel_rfl) (by kernel_rfl) (by kernel_rfl) rfl (fun _ => (fun _ hw => ⟨hw.it (own g.p _) (by simp), hw.it (own b3 _) (by simp)⟩)) (OV.fieldAddr (off := 1) rfl T.u81 rfl) rfl (listed' := [true, true, true, true, false, false, false, false, false, false, false]) rfl ?_)
      refine WH.take 4 rfl (by kernel_rfl) (by kernel_rfl) (by kernel_rfl) (by kernel_rfl) (fun _ hw => ⟨hw.it (own g.p _) (by simp), hw.it (own b3 _) (by simp)⟩) (OV.load1 (v := .slice g.va g.vs.length g.vc) rfl T.u32 rfl (fun _ hw => (cell_at hw.1 (o := 1) rfl).1)) rfl (listed' := [true, true, true, true, true, false, false, false, false, false, false]) rfl ?_
      refine WH.take 5 rfl (by kernel_rfl) (by kernel_rfl) (by kernel_rfl) (by kernel_rfl) (fun _ hw => ⟨hw.it (own g.p _) (by simp), hw.it (own b3 _) (by simp)⟩) (OV.loadN (cs := tmC t) rfl T.u31 rfl T.z31 (fun _ hw j v hj => by rw [add_off]; exact heap_part hw.2 (o := 0) (cs' := tmC t) rfl j v hj)) rfl (listed' := [true, true, true, true, true, true, false, false, false, false, false]) rfl ?_
      refine WH.only 6 rfl (by kernel_rfl) (listed' := [true, true, true, true, true, true, true, false, false, false, false]) rfl (fl' := false) rfl ?_
      refine WL.buildSliceA (cs := tmC t) T.u32 T.z31 T.zr31 rfl rfl (by omega) (by omega) rfl ?_
      intro b44
      refine WL.nil ?_
      refine WX.contD (by kernel_rfl) (fun _ => (fun _ hw => ⟨hw.it (own g.p _) (by simp), hw.it (own b3 _) (by simp)⟩)) ?_
      refine WH.only 7 rfl (by kernel_rfl) (listed' := [true, true, true, true, true, true, true, true, false, false, false]) rfl (fl' := false) rfl ?_
      refine WL.focus (ow' := row 31 3 g.va g.vs.length g.vc (g.vs.flatMap tmC) :: own b44 (.cells (tmC t).toArray 31 (0, 0)) :: own nb (mapK tmV (numKV (g.vs ++ [t]))) :: own g.p (.cells [.map (some nb), .slice g.va g.vs.length g.vc, .map (some g.rb)].toArray 84 (0, 0)) :: own b3 (.cells (tmC t).toArray 31 (0, 0)) :: []) (perm_pick [_, _, _, _, _] [4, 0, 1, 3, 2] (by decide) rfl) ?_
      refine WL.append (news := tmC t) rfl rfl T.apT (fun _ _ => own_srcN (.tail _ (.head _)) rfl) (tmC_one t) ⟨by omega, by unfold maxLen; omega⟩ rfl ?_
      intro a45 c45
      refine WL.nil ?_
      refine WX.contD (by kernel_rfl) (fun _ => (fun _ hw => ⟨hw.it (own g.p _) (by simp), hw.it (own b3 _) (by simp)⟩)) ?_
      refine WH.free 8 rfl (by kernel_rfl) (by kernel_rfl) (by kernel_rfl) rfl (fun _ => (fun _ hw => ⟨hw.it (own g.p _) (by simp), hw.it (own b3 _) (by simp)⟩)) (OV.nilCheck rfl) rfl (listed' := [true, true, true, true, true, true, true, true, true, false, false]) rfl ?_
      first
      | (refine WH.free 9 rfl (by kernel_rfl) (by kernel_rfl) (by kernel_rfl) rfl (fun _ => (fun _ hw => ⟨hw.it (own g.p _) (by simp), hw.it (own b3 _) (by simp)⟩)) (OV.fieldAddr0 (off := 1) rfl T.u81 rfl) rfl (listed' := [true, true, true, true, true, true, true, true, true, true, false]) rfl ?_)
      | (refine WH.free 9 rfl (by kernel_rfl) (by kernel_rfl) (by kernel_rfl) rfl (fun _ => (fun _ hw => ⟨hw.it (own g.p _) (by simp), hw.it (own b3 _) (by simp)⟩)) (OV.fieldAddr (off := 1) rfl T.u81 rfl) rfl (listed' := [true, true, true, true, true, true, true, true, true, true, false]) rfl ?_)
      refine WH.only 10 rfl (by kernel_rfl) (listed' := [true, true, true, true, true, true, true, true, true, true, true]) rfl (fl' := true) rfl ?_
      refine WL.focus perm3 (WL.store1 (o := 1) rfl rfl rfl T.z32 (by show 1 < 3; omega) ?_)
      refine WL.nil ?_
      refine WX.contD (by kernel_rfl) (fun h => by cases h) ?_
      refine WH.done (by kernel_rfl) ?_
      refine WX.next ?_
      refine WC.seq ?_
      refine WC.region ?_
      refine WL.val (OV.move rfl) rfl ?_
      refine WL.val (OV.assign rfl) rfl ?_
      refine WL.nil ?_
      refine WX.next ?_
      refine WC.ret ?_
      refine WX.ret1 rfl rfl rfl (fun w' hw => ⟨g.vs.length, some nb, a45, c45, rfl, ?_, fun h => (by cases h), ?_⟩)
      · rw [numX_of hnt]; exact numX_num hn hnt
      · have el : g.vs.length + 1 = (g.vs ++ [t]).length := by simp
        have ef : g.vs.flatMap tmC ++ tmC t = (g.vs ++ [t]).flatMap tmC := by simp
        rw [numX_of hnt, tabA_some (g := { g with nb := some nb, va := a45, vc := c45, vs := g.vs ++ [t] }) rfl]
        rw [el, ef] at hw
        exact Hw.Sat.turned (hw.pick [[own g.p (.cells [.map (some nb), .slice a45 (g.vs ++ [t]).length c45, .map (some g.rb)].toArray 84 (0, 0))], [rowT a45 c45 (g.vs ++ [t])], [own b44 (.cells (tmC t).toArray 31 (0, 0))], [own nb (mapK tmV (numKV (g.vs ++ [t])))], [own b3 (.cells (tmC t).toArray 31 (0, 0))]] [0, 1, 3] 5 rfl (by decide) (by decide))
    · try simp only [decide_eq_true_eq, decide_eq_false_iff_not, Bool.not_eq_true', Bool.not_eq_false'] at c22
      refine WC.skip ?_
      refine WX.next ?_
      refine WC.seq ?_
      have hnt : t ∉ g.vs := numOf_none.1 (by simpa using c17)
      obtain ⟨nb, hnb⟩ : ∃ nb, g.nb = some nb := by
        cases hq : g.nb with
        | none => rw [hq] at c22; simp at c22
        | some nb => exact ⟨nb, rfl⟩
      refine WC.weak (S' := Sat w (DD (tabA g)) (fun b => b < w.heap.size ∧ ¬ DD (tabA g) b) w (own b3 (.cells (tmC t).toArray 31 (0, 0)) :: own g.p (.cells [.map (some nb), .slice g.va g.vs.length g.vc, .map (some g.rb)].toArray 84 (0, 0)) :: row 31 3 g.va g.vs.length g.vc (g.vs.flatMap tmC) :: own nb (mapK tmV (numKV g.vs)) :: [])) (fun w' hw => hw.perm (List.Perm.of_eq (by rw [tabA_some hnb]))) ?_
      refine WC.region ?_
      refine WL.val (OV.move rfl) rfl ?_
      refine WL.val (OV.nilCheck rfl) rfl ?_
      first
      | (refine WL.val (OV.fieldAddr0 (off := 1) rfl T.u81 rfl) rfl ?_)
      | (refine WL.val (OV.fieldAddr (off := 1) rfl T.u81 rfl) rfl ?_)
      refine WL.val (OV.load1 (v := .slice g.va g.vs.length g.vc) rfl T.u32 rfl (fun _ hw => (cell_at (hw.it _ (.tail _ (.head _))) (o := 1) rfl).1)) rfl ?_
      first
      | (refine WL.val (OV.lenSlice rfl T.u32) rfl ?_)
      | (refine WL.val (OV.lenStr rfl T.u32) rfl ?_)
      refine WL.val (OV.assign rfl) rfl ?_
      refine WL.nil ?_
      refine WX.next ?_
      refine WC.seq ?_
      refine WC.drawn (fun w' => w'.heap[g.p]? = some (.cells [.map (some nb), .slice g.va g.vs.length g.vc, .map (some g.rb)].toArray 84 (0, 0)) ∧ w'.heap[b3]? = some (.cells (tmC t).toArray 31 (0, 0))) [] (by kernel_rfl) (by kernel_rfl) (m := 7) rfl ?_
      refine WH.free 0 rfl (by kernel_rfl) (by kernel_rfl) (by kernel_rfl) rfl (fun _ => (fun _ hw => ⟨hw.it (own g.p _) (by simp), hw.it (own b3 _) (by simp)⟩)) (OV.move rfl) rfl (listed' := [true, false, false, false, false, false, false]) rfl ?_
      refine WH.free 1 rfl (by kernel_rfl) (by kernel_rfl) (by kernel_rfl) rfl (fun _ => (fun _ hw => ⟨hw.it (own g.p _) (by simp), hw.it (own b3 _) (by simp)⟩)) (OV.nilCheck rfl) rfl (listed' := [true, true, false, false, false, false, false]) rfl ?_
      first
      | (refine WH.free 2 rfl (by kernel_rfl) (by kernel_rfl) (by kernel_rfl) rfl (fun _ => (fun _ hw => ⟨hw.it (own g.p _) (by simp), hw.it (own b3 _) (by simp)⟩)) (OV.fieldAddr0 (off := 0) rfl T.u81 rfl) rfl (listed' := [true, true, true, false, false, false, false]) rfl ?_)
      | (refine WH.free 2 rfl (by kernel_rfl) (by kernel_rfl) (by kernel_rfl) rfl (fun _ => (fun _ hw => ⟨hw.it (own g.p _) (by simp), hw.it (own b3 _) (by simp)⟩)) (OV.fieldAddr (off := 0) rfl T.u81 rfl) rfl (listed' := [true, true, true, false, false, false, false]) rfl ?_)
      refine WH.take 3 rfl (by kernel_rfl) (by kernel_rfl) (by kernel_rfl) (by kernel_rfl) (fun _ hw => ⟨hw.it (own g.p _) (by simp), hw.it (own b3 _) (by simp)⟩) (OV.load1 (v := .map (some nb)) rfl T.u79 rfl (fun _ hw => (cell_at hw.1 (o := 0) rfl).1)) rfl (listed' := [true, true, true, true, false, false, false]) rfl ?_
      refine WH.take 4 rfl (by kernel_rfl) (by kernel_rfl) (by kernel_rfl) (by kernel_rfl) (fun _ hw => ⟨hw.it (own g.p _) (by simp), hw.it (own b3 _) (by simp)⟩) (OV.loadN (cs := tmC t) rfl T.u31 rfl T.z31 (fun _ hw j v hj => by rw [add_off]; exact heap_part hw.2 (o := 0) (cs' := tmC t) rfl j v hj)) rfl (listed' := [true, true, true, true, true, false, false]) rfl ?_
      refine WH.free 5 rfl (by kernel_rfl) (by kernel_rfl) (by kernel_rfl) rfl (fun _ => (fun _ hw => ⟨hw.it (own g.p _) (by simp), hw.it (own b3 _) (by simp)⟩)) (OV.move rfl) rfl (listed' := [true, true, true, true, true, true, false]) rfl ?_
      refine WH.only 6 rfl (by kernel_rfl) (listed' := [true, true, true, true, true, true, true]) rfl (fl' := false) rfl ?_
      refine WL.focus perm3 (WL.mapUpdate tmKey T.u79 rfl rfl rfl ?_)
      rw [numKV_snoc hnt]
      refine WL.nil ?_
      refine WX.contD (by kernel_rfl) (fun _ => (fun _ hw => ⟨hw.it (own g.p _) (by simp), hw.it (own b3 _) (by simp)⟩)) ?_
      refine WH.done (by kernel_rfl) ?_
      refine WX.next ?_
      refine WC.drawn (fun w' => w'.heap[g.p]? = some (.cells [.map (some nb), .slice g.va g.vs.length g.vc, .map (some g.rb)].toArray 84 (0, 0)) ∧ w'.heap[b3]? = some (.cells (tmC t).toArray 31 (0, 0))) [10] (by kernel_rfl) (by kernel_rfl) (m := 11) rfl ?_
      refine WH.free 0 rfl (by kernel_rfl) (by kernel_rfl) (by kernel_rfl) rfl (fun _ => (fun _ hw => ⟨hw.it (own g.p _) (by simp), hw.it (own b3 _) (by simp)⟩)) (OV.move rfl) rfl (listed' := [true, false, false, false, false, false, false, false, false, false, false]) rfl ?_
      refine WH.free 1 rfl (by kernel_rfl) (by kernel_rfl) (by kernel_rfl) rfl (fun _ => (fun _ hw => ⟨hw.it (own g.p _) (by simp), hw.it (own b3 _) (by simp)⟩)) (OV.move rfl) rfl (listed' := [true, true, false, false, false, false, false, false, false, false, false]) rfl ?_
      refine WH.free 2 rfl (by kernel_rfl) (by kernel_rfl) (by kernel_rfl) rfl (fun _ => (fun _ hw => ⟨hw.it (own g.p _) (by simp), hw.it (own b3 _) (by simp)⟩)) (OV.nilCheck rfl) rfl (listed' := [true, true, true, false, false, false, false, false, false, false, false]) rfl ?_
      first
      | (refine WH.free 3 rfl (by kernel_rfl) (by kernel_rfl) (by kernel_rfl) rfl (fun _ => (fun _ hw => ⟨hw.it (own g.p _) (by simp), hw.it (own b3 _) (by simp)⟩)) (OV.fieldAddr0 (off := 1) rfl T.u81 rfl) rfl (listed' := [true, true, true, true, false, false, false, false, false, false, false]) rfl ?_)
      | (refine WH.free 3 rfl (by kernel_rfl) (by kernel_rfl) (by kernel_rfl) rfl (fun _ => (fun _ hw => ⟨hw.it (own g.p _) (by simp), hw.it (own b3 _) (by simp)⟩)) (OV.fieldAddr (off := 1) rfl T.u81 rfl) rfl (listed' := [true, true, true, true, false, false, false, false, false, false, false]) rfl ?_)
      refine WH.take 4 rfl (by kernel_rfl) (by kernel_rfl) (by kernel_rfl) (by kernel_rfl) (fun _ hw => ⟨hw.it (own g.p _) (by simp), hw.it (own b3 _) (by simp)⟩) (OV.load1 (v := .slice g.va g.vs.length g.vc) rfl T.u32 rfl (fun _ hw => (cell_at hw.1 (o := 1) rfl).1)) rfl (listed' := [true, true, true, true, true, false, false, false, false, false, false]) rfl ?_
      refine WH.take 5 rfl (by kernel_rfl) (by kernel_rfl) (by kernel_rfl) (by kernel_rfl) (fun _ hw => ⟨hw.it (own g.p _) (by simp), hw.it (own b3 _) (by simp)⟩) (OV.loadN (cs := tmC t) rfl T.u31 rfl T.z31 (fun _ hw j v hj => by rw [add_off]; exact heap_part hw.2 (o := 0) (cs' := tmC t) rfl j v hj)) rfl (listed' := [true, true, true, true, true, true, false, false, false, false, false]) rfl ?_
      refine WH.only 6 rfl (by kernel_rfl) (listed' := [true, true, true, true, true, true, true, false, false, false, false]) rfl (fl' := false) rfl ?_
      refine WL.buildSliceA (cs := tmC t) T.u32 T.z31 T.zr31 rfl rfl (by omega) (by omega) rfl ?_
      intro b44
      refine WL.nil ?_
      refine WX.contD (by kernel_rfl) (fun _ => (fun _ hw => ⟨hw.it (own g.p _) (by simp), hw.it (own b3 _) (by simp)⟩)) ?_
      refine WH.only 7 rfl (by kernel_rfl) (listed' := [true, true, true, true, true, true, true, true, false, false, false]) rfl (fl' := false) rfl ?_
      refine WL.focus (ow' := row 31 3 g.va g.vs.length g.vc (g.vs.flatMap tmC) :: own b44 (.cells (tmC t).toArray 31 (0, 0)) :: own nb (mapK tmV (numKV (g.vs ++ [t]))) :: own g.p (.cells [.map (some nb), .slice g.va g.vs.length g.vc, .map (some g.rb)].toArray 84 (0, 0)) :: own b3 (.cells (tmC t).toArray 31 (0, 0)) :: []) (perm_pick [_, _, _, _, _] [4, 0, 1, 3, 2] (by decide) rfl) ?_
      refine WL.append (news := tmC t) rfl rfl T.apT (fun _ _ => own_srcN (.tail _ (.head _)) rfl) (tmC_one t) ⟨by omega, by unfold maxLen; omega⟩ rfl ?_
      intro a45 c45
      refine WL.nil ?_
      refine WX.contD (by kernel_rfl) (fun _ => (fun _ hw => ⟨hw.it (own g.p _) (by simp), hw.it (own b3 _) (by simp)⟩)) ?_
      refine WH.free 8 rfl (by kernel_rfl) (by kernel_rfl) (by kernel_rfl) rfl (fun _ => (fun _ hw => ⟨hw.it (own g.p _) (by simp), hw.it (own b3 _) (by simp)⟩)) (OV.nilCheck rfl) rfl (listed' := [true, true, true, true, true, true, true, true, true, false, false]) rfl ?_
      first
      | (refine WH.free 9 rfl (by kernel_rfl) (by kernel_rfl) (by kernel_rfl) rfl (fun _ => (fun _ hw => ⟨hw.it (own g.p _) (by simp), hw.it (own b3 _) (by simp)⟩)) (OV.fieldAddr0 (off := 1) rfl T.u81 rfl) rfl (listed' := [true, true, true, true, true, true, true, true, true, true, false]) rfl ?_)
      | (refine WH.free 9 rfl (by kernel_rfl) (by kernel_rfl) (by kernel_rfl) rfl (fun _ => (fun _ hw => ⟨hw.it (own g.p _) (by simp), hw.it (own b3 _) (by simp)⟩)) (OV.fieldAddr (off := 1) rfl T.u81 rfl) rfl (listed' := [true, true, true, true, true, true, true, true, true, true, false]) rfl ?_)
      refine WH.only 10 rfl (by kernel_rfl) (listed' := [true, true, true, true, true, true, true, true, true, true, true]) rfl (fl' := true) rfl ?_
      refine WL.focus perm3 (WL.store1 (o := 1) rfl rfl rfl T.z32 (by show 1 < 3; omega) ?_)
      refine WL.nil ?_
      refine WX.contD (by kernel_rfl) (fun h => by cases h) ?_
      refine WH.done (by kernel_rfl) ?_
      refine WX.next ?_
      refine WC.seq ?_
      refine WC.region ?_
      refine WL.val (OV.move rfl) rfl ?_
      refine WL.val (OV.assign rfl) rfl ?_
      refine WL.nil ?_
      refine WX.next ?_
      refine WC.ret ?_
      refine WX.ret1 rfl rfl rfl (fun w' hw => ⟨g.vs.length, some nb, a45, c45, rfl, ?_, fun h => (by cases h), ?_⟩)
      · rw [numX_of hnt]; exact numX_num hn hnt
      · have el : g.vs.length + 1 = (g.vs ++ [t]).length := by simp
        have ef : g.vs.flatMap tmC ++ tmC t = (g.vs ++ [t]).flatMap tmC := by simp
        rw [numX_of hnt, tabA_some (g := { g with nb := some nb, va := a45, vc := c45, vs := g.vs ++ [t] }) rfl]
        rw [el, ef] at hw
        exact Hw.Sat.turned (hw.pick [[own g.p (.cells [.map (some nb), .slice a45 (g.vs ++ [t]).length c45, .map (some g.rb)].toArray 84 (0, 0))], [rowT a45 c45 (g.vs ++ [t])], [own b44 (.cells (tmC t).toArray 31 (0, 0))], [own nb (mapK tmV (numKV (g.vs ++ [t])))], [own b3 (.cells (tmC t).toArray 31 (0, 0))]] [0, 1, 3] 5 rfl (by decide) (by decide))
  · try simp only [decide_eq_true_eq, decide_eq_false_iff_not, Bool.not_eq_true', Bool.not_eq_false'] at c17
    refine WC.skip ?_
    refine WX.next ?_
    refine WC.seq ?_
    refine WC.region ?_
    refine WL.val (OV.move rfl) rfl ?_
    refine WL.val (OV.assign rfl) rfl ?_
    refine WL.nil ?_
    refine WX.next ?_
    refine WC.ret ?_
    obtain ⟨i, hi⟩ : ∃ i, numOf g.vs t = some i := by
      cases hq : numOf g.vs t with
      | none => rw [hq] at c17; simp at c17
      | some i => exact ⟨i, rfl⟩
    have ht : t ∈ g.vs := List.mem_of_getElem? (numOf_some hi)
    refine WX.ret1 rfl rfl rfl (fun w' hw => ⟨i, g.nb, g.va, g.vc, by rw [hi]; rfl, by rw [numX_old ht]; exact hi, by rw [numX_old ht]; exact h0, ?_⟩)
    rw [numX_old ht]
    exact hw.drop.turned

end Go.Proofs.YtgiiifadbnpfkaaGreatDoor

namespace Go.Proofs.YtgiiifadbnpfkaaGreatDoor
open Go Go.Hw
set_option linter.unusedSimpArgs false
set_option linter.unusedVariables false
theorem row_addrK {w : World} {T c m s : Nat} {a : Option Addr} {xs : List Value} (h : (row T s a m c xs).φ w) (hm : 0 < m) : ∃ b, a = some ⟨b, 0, none⟩ := by
  have h1 : w.ownsRow 0 T s (.slice a m c) m xs := h
  rcases h1.2 with ⟨hv, h0⟩ | ⟨g, cc, cur, hv, _⟩
  · omega
  · simp only [Value.slice.injEq] at hv; exact ⟨g, hv.1⟩
def rowOf (vs : List Tm) : List Tm → Option (List Int)
  | [] => some []
  | t :: ts => match numOf vs t, rowOf vs ts with
    | some n, some l => some (((n : Nat) : Int) :: l)
    | _, _ => none
theorem rowOf_cons {vs : List Tm} {t : Tm} {ts : List Tm} {l : List Int} : rowOf vs (t :: ts) = some l ↔ ∃ n m, numOf vs t = some n ∧ rowOf vs ts = some m ∧ l = ((n : Nat) : Int) :: m := by
  rw [rowOf]
  cases numOf vs t with
  | none => simp
  | some n =>
    cases rowOf vs ts with
    | none => simp
    | some m => simp [eq_comm]
theorem rowOf_snoc {vs : List Tm} {t : Tm} {n : Nat} (hn : numOf vs t = some n) : ∀ {ts : List Tm} {l : List Int}, rowOf vs ts = some l → rowOf vs (ts ++ [t]) = some (l ++ [((n : Nat) : Int)])
  | [], l, h => by simp [rowOf] at h; subst h; simp [rowOf, hn]
  | u :: ts, l, h => by
    obtain ⟨k, m, h1, h2, rfl⟩ := rowOf_cons.1 h
    rw [List.cons_append, rowOf, h1, rowOf_snoc hn h2]
    rfl
theorem rowOf_none {vs : List Tm} {t : Tm} (h : numOf vs t = none) : ∀ {ts : List Tm}, t ∈ ts → rowOf vs ts = none
  | u :: ts, hm => by
    rw [rowOf]
    rcases List.mem_cons.1 hm with rfl | hm
    · rw [h]
    · rw [rowOf_none h hm]
      cases numOf vs u <;> rfl
theorem rowOf_len {vs : List Tm} : ∀ {ts : List Tm} {l : List Int}, rowOf vs ts = some l → l.length = ts.length
  | [], l, h => by simp [rowOf] at h; simp [h]
  | t :: ts, l, h => by
    obtain ⟨k, m, h1, h2, rfl⟩ := rowOf_cons.1 h
    simp [rowOf_len h2]
def tsOf (x : At) : List Tm := x.b :: x.args

set_option maxRecDepth 10000 in
set_option maxHeartbeats 1000000 in
theorem brow_calls (g : BaseG) (ok : BaseOK g) (x : At) (a : Option Addr) (c : Nat) (hl : x.args.length ≤ 1099511627775) (w : World) (hr : RT w a x.args) (hA : Holds (tabA g) w) : Calls Tryz.prog 40 #[ptr g.p, atV x a c] w fun e w' => ∃ la lc l b, e = .returned (.tuple #[.slice la l.length lc, .bool b]) ∧ (b = true → rowOf g.vs (tsOf x) = some l) ∧ (b = false → rowOf g.vs (tsOf x) = none) ∧ Turns [] [row 3 1 la l.length lc (ints l)] w w' := by
  refine enterS (args := [ptr g.p, atV x a c]) (fun _ => False) Tryz.func40 rfl Tryz.ntmps40 rfl rfl ?_
  refine WC.seq ?_
  refine WC.region ?_
  refine WL.box rfl rfl rfl ?_
  intro b3
  refine WL.val (OV.assign rfl) rfl ?_
  refine WL.val (OV.assign rfl) rfl ?_
  refine WL.nil ?_
  refine WX.next ?_
  refine WC.seq ?_
  refine WC.region ?_
  refine WL.val (OV.assign rfl) rfl ?_
  refine WL.nil ?_
  refine WX.next ?_
  refine WC.seq ?_
  refine WC.seq ?_
  refine WC.region ?_
  first
  | (refine WL.val (OV.fieldAddr0 (off := 0) rfl T.u34 rfl) rfl ?_)
  | (refine WL.val (OV.fieldAddr (off := 0) rfl T.u34 rfl) rfl ?_)
  refine WL.val (OV.loadN (cs := tmC x.b) rfl T.u31 rfl T.z31 (fun _ hw j v hj => by rw [add_off]; exact own_part hw (.head _) (o := 0) (cs' := tmC x.b) rfl j v hj)) rfl ?_
  refine WL.buildSliceA (cs := tmC x.b) T.u32 T.z31 T.zr31 rfl rfl (by omega) (by omega) rfl ?_
  intro b13
  refine WL.weak (S' := Sat w (fun _ => False) (fun b => b < w.heap.size) w (row 31 3 (some ⟨b13, 0, none⟩) 1 1 (tmC x.b) :: own b3 (.cells (atC x a c).toArray 34 (0, 0)) :: [])) (fun w' hw => hw.asRow (m := 1) rfl (by decide)) ?_
  first
  | (refine WL.val (OV.fieldAddr0 (off := 4) rfl T.u34 rfl) rfl ?_)
  | (refine WL.val (OV.fieldAddr (off := 4) rfl T.u34 rfl) rfl ?_)
  refine WL.val (OV.load1 (v := .slice a x.args.length c) rfl T.u32 rfl (fun _ hw => (cell_at (hw.it _ (.tail _ (.head _))) (o := 4) rfl).1)) rfl ?_
  refine WL.append (news := x.args.flatMap tmC) rfl rfl T.apT (fun _ _ => Src.of_rt hr.nil (fun _ hw => hr.keeps hw.keeps)) (tms_one _) ⟨by omega, by unfold maxLen; omega⟩ rfl ?_
  intro a16 c16
  first
  | (refine WL.val (OV.lenSlice rfl T.u32) rfl ?_)
  | (refine WL.val (OV.lenStr rfl T.u32) rfl ?_)
  refine WL.val (OV.move rfl) rfl ?_
  refine WL.nil ?_
  refine WX.next ?_
  refine WC.block ?_
  refine WC.know (fun w' hw => row_addrK (hw.it _ (.head _)) (by omega)) (fun hq => ?_)
  obtain ⟨b16, rfl⟩ := hq
  refine WC.weak (S' := Sat w (fun _ => False) (fun b => b < w.heap.size) w (row 3 1 none 0 0 [] :: row 31 3 (some ⟨b16, 0, none⟩) (1 + x.args.length) c16 (tmC x.b ++ x.args.flatMap tmC) :: own b3 (.cells (atC x a c).toArray 34 (0, 0)) :: [])) (fun w' hw => hw.rowNil 3 1) ?_
  refine WC.loop4 (fun (i : Nat) (la : Option Addr) (lc : Nat) (l : List Int) => [(0, ptr g.p), (3, .pointer (some ⟨b3, 0, none⟩)), (6, .slice la l.length lc), (16, .slice (some ⟨b16, 0, none⟩) (1 + x.args.length) c16), (17, .int .i64 ((1 + x.args.length : Nat) : Int)), (18, .int .i64 (i : Int))])
      (fun i la lc l w' => (i ≤ 1 + x.args.length ∧ l.length = i ∧ rowOf g.vs ((tsOf x).take i) = some l) ∧ Sat w (fun _ => False) (fun b => b < w.heap.size) w (row 3 1 la l.length lc (ints l) :: row 31 3 (some ⟨b16, 0, none⟩) (1 + x.args.length) c16 (tmC x.b ++ x.args.flatMap tmC) :: own b3 (.cells (atC x a c).toArray 34 (0, 0)) :: []) w')
      (fun i _ _ _ => 1 + x.args.length - i) 0 none 0 [] ⟨rfl, rfl, rfl, rfl, rfl, rfl, trivial⟩ (fun w' hw => ⟨⟨by omega, rfl, rfl⟩, hw⟩) ?_
  intro i la lc l
  refine WC.pure (fun hi => ?_)
  obtain ⟨hi, hll, hrow⟩ := hi
  refine WC.seq ?_
  refine WC.region ?_
  refine WL.val (OV.lss rfl rfl) rfl ?_
  refine WL.nil ?_
  refine WX.next ?_
  refine WC.seq ?_
  refine WC.cond rfl (fun c19 => ?_) (fun c19 => ?_)
  · try simp only [decide_eq_true_eq, decide_eq_false_iff_not, Bool.not_eq_true', Bool.not_eq_false'] at c19
    refine WC.skip ?_
    refine WX.next ?_
    refine WC.seq ?_
    refine WC.block ?_
    refine WC.seq ?_
    refine WC.region ?_
    obtain ⟨t, ht, htm⟩ : ∃ t, (tsOf x)[i]? = some t ∧ t ∈ tsOf x := by
      have hil : i < (tsOf x).length := by simp [tsOf]; omega
      exact ⟨_, List.getElem?_eq_getElem hil, List.getElem_mem hil⟩
    refine WL.val ((OV.indexSlice rfl rfl T.u32 T.z31 (by omega)).cast (u := .pointer (some ((⟨b16, 0, none⟩ : Addr).add (i * 3)))) (by rw [Int.toNat_natCast])) rfl ?_
    refine WL.val (OV.loadN (cs := tmC t) rfl T.u31 rfl T.z31 (fun _ hw j v hj => (RT.of_row (ts := tsOf x) (c := c16) (by simp [tsOf]; omega) hw (.tail _ (.head _))).at_ _ rfl i t ht j v hj)) rfl ?_
    refine WL.alloc T.zr31 rfl ?_
    intro bb8
    refine WL.storeAll (vs := tmC t) rfl rfl rfl T.z31 rfl ?_
    refine WL.nil ?_
    refine WX.next ?_
    refine WC.seq ?_
    refine WC.selfB [4] (by kernel_rfl) (by kernel_rfl) (m := 10) rfl ?_
    refine WH.free 0 rfl (by kernel_rfl) (by kernel_rfl) (by kernel_rfl) rfl (fun _ => (fun _ h => h)) (OV.move rfl) rfl (listed' := [true, false, false, false, false, false, false, false, false, false]) rfl ?_
    refine WH.free 1 rfl (by kernel_rfl) (by kernel_rfl) (by kernel_rfl) rfl (fun _ => (fun _ h => h)) (OV.nilCheck rfl) rfl (listed' := [true, true, false, false, false, false, false, false, false, false]) rfl ?_
    first
    | (refine WH.free 2 rfl (by kernel_rfl) (by kernel_rfl) (by kernel_rfl) rfl (fun _ => (fun _ h => h)) (OV.fieldAddr0 (off := 0) rfl T.u84 rfl) rfl (listed' := [true, true, true, false, false, false, false, false, false, false]) rfl ?_)
    | (refine WH.free 2 rfl (by kernel_rfl) (by kernel_rfl) (by kernel_rfl) rfl (fun _ => (fun _ h => h)) (OV.fieldAddr (off := 0) rfl T.u84 rfl) rfl (listed' := [true, true, true, false, false, false, false, false, false, false]) rfl ?_)
    refine WH.take 3 rfl (by kernel_rfl) (by kernel_rfl) (by kernel_rfl) (by kernel_rfl) (fun _ h => h) (OV.loadN (cs := tmC t) rfl T.u31 rfl T.z31 (fun _ hw j v hj => by rw [add_off, Nat.zero_add]; exact own_cells hw (.head _) j v hj)) rfl (listed' := [true, true, true, true, false, false, false, false, false, false]) rfl ?_
    refine WH.only 4 rfl (by kernel_rfl) (listed' := [true, true, true, true, true, false, false, false, false, false]) rfl (fl' := true) rfl ?_
    refine WL.call0 (v := .tuple #[.int .i64 (((numOf g.vs t).getD 0 : Nat) : Int), .bool (numOf g.vs t).isSome]) (by kernel_rfl) rfl rfl (fun w' hw' => known_calls g ok t w' (hA.fr0 hw'.fr)) ?_
    refine WL.nil ?_
    refine WX.contD (by kernel_rfl) (fun h => by cases h) ?_
    refine WH.free 5 rfl (by kernel_rfl) (by kernel_rfl) (by kernel_rfl) rfl (fun h => by cases h) (OV.move rfl) rfl (listed' := [true, true, true, true, true, true, false, false, false, false]) rfl ?_
    refine WH.free 6 rfl (by kernel_rfl) (by kernel_rfl) (by kernel_rfl) rfl (fun h => by cases h) (OV.extract rfl rfl) rfl (listed' := [true, true, true, true, true, true, true, false, false, false]) rfl ?_
    refine WH.free 7 rfl (by kernel_rfl) (by kernel_rfl) (by kernel_rfl) rfl (fun h => by cases h) (OV.extract rfl rfl) rfl (listed' := [true, true, true, true, true, true, true, true, false, false]) rfl ?_
    refine WH.free 8 rfl (by kernel_rfl) (by kernel_rfl) (by kernel_rfl) rfl (fun h => by cases h) (OV.assign rfl) rfl (listed' := [true, true, true, true, true, true, true, true, true, false]) rfl ?_
    refine WH.free 9 rfl (by kernel_rfl) (by kernel_rfl) (by kernel_rfl) rfl (fun h => by cases h) (OV.assign rfl) rfl (listed' := [true, true, true, true, true, true, true, true, true, true]) rfl ?_
    refine WH.done (by kernel_rfl) ?_
    refine WX.next ?_
    refine WC.seq ?_
    refine WC.seq ?_
    refine WC.region ?_
    refine WL.val (OV.move rfl) rfl ?_
    refine WL.val (OV.not rfl) rfl ?_
    refine WL.nil ?_
    refine WX.next ?_
    refine WC.cond rfl (fun c31 => ?_) (fun c31 => ?_)
    · try simp only [decide_eq_true_eq, decide_eq_false_iff_not, Bool.not_eq_true', Bool.not_eq_false'] at c31
      refine WC.seq ?_
      refine WC.region ?_
      refine WL.val (OV.assign rfl) rfl ?_
      refine WL.val (OV.assign rfl) rfl ?_
      refine WL.nil ?_
      refine WX.next ?_
      refine WC.ret ?_
      refine WX.then_ret ?_
      refine WX.block_ret ?_
      refine WX.then_ret ?_
      refine WX.then_ret ?_
      refine WX.block_ret ?_
      refine WX.then_ret ?_
      exact WX.ret2 rfl rfl rfl rfl (fun w' hw => ⟨none, 0, [], false, rfl, fun h => (by cases h), fun _ => rowOf_none (by simpa using c31) htm, (Hw.Sat.part (List.Sublist.cons_cons _ (List.nil_sublist _)) (hw.rowNil 3 1)).turned0⟩)
    · try simp only [decide_eq_true_eq, decide_eq_false_iff_not, Bool.not_eq_true', Bool.not_eq_false'] at c31
      refine WC.skip ?_
      refine WX.next ?_
      obtain ⟨n, hn⟩ : ∃ n, numOf g.vs t = some n := by
        cases hq : numOf g.vs t with
        | none => rw [hq] at c31; simp at c31
        | some n => exact ⟨n, rfl⟩
      refine WC.sub (e' := [(0, ptr g.p), (3, .pointer (some ⟨b3, 0, none⟩)), (6, .slice la l.length lc), (9, .int .i64 ((n : Nat) : Int)), (16, .slice (some ⟨b16, 0, none⟩) (1 + x.args.length) c16), (17, .int .i64 ((1 + x.args.length : Nat) : Int)), (18, .int .i64 (i : Int))]) ⟨rfl, rfl, rfl, by rw [show n = (numOf g.vs t).getD 0 by rw [hn]; rfl]; rfl, rfl, rfl, rfl, trivial⟩ ?_
      refine WC.region ?_
      refine WL.val (OV.move rfl) rfl ?_
      refine WL.val (OV.move rfl) rfl ?_
      refine WL.buildSlice1 (v := .int .i64 ((n : Nat) : Int)) T.u74 T.z3 T.zr3 rfl rfl rfl ?_
      intro b34
      refine WL.focus perm2 (WL.append (news := [.int .i64 ((n : Nat) : Int)]) rfl rfl T.apI (fun _ _ => own_src (.tail _ (.head _)) rfl) (ints_one [(n : Int)]) ⟨by omega, by unfold maxLen; omega⟩ rfl ?_)
      intro a35 c35
      refine WL.val (OV.assign rfl) rfl ?_
      refine WL.nil ?_
      refine WX.block_normal ?_
      refine WX.next ?_
      refine WC.region ?_
      refine WL.val (OV.addN (j := 1) rfl rfl (by omega)) rfl ?_
      refine WL.val (OV.move rfl) rfl ?_
      refine WL.nil ?_
      have el : l.length + 1 = (l ++ [(n : Int)]).length := by simp
      have ef : ints l ++ [.int .i64 ((n : Nat) : Int)] = ints (l ++ [(n : Int)]) := by simp [ints]
      exact WX.round4 (i + 1) a35 c35 (l ++ [(n : Int)]) ⟨rfl, rfl, by rw [← el]; rfl, rfl, rfl, rfl, trivial⟩ (fun w' hw => ⟨⟨by omega, by simp [hll], by rw [List.take_add_one, ht]; exact rowOf_snoc hn hrow⟩, by
        rw [el, ef] at hw
        exact hw.pick [[row 3 1 a35 (l ++ [(n : Int)]).length c35 (ints (l ++ [(n : Int)]))], [own b34 (.cells [.int .i64 ((n : Nat) : Int)].toArray 3 (0, 0))], [own bb8 (.cells (tmC t).toArray 31 (0, 0))], [row 31 3 (some ⟨b16, 0, none⟩) (1 + x.args.length) c16 (tmC x.b ++ x.args.flatMap tmC)], [own b3 (.cells (atC x a c).toArray 34 (0, 0))]] [0, 3, 4] 5 rfl (by decide) (by decide)⟩) (by show 1 + x.args.length - (i + 1) < 1 + x.args.length - i; omega)
  · try simp only [decide_eq_true_eq, decide_eq_false_iff_not, Bool.not_eq_true', Bool.not_eq_false'] at c19
    refine WC.exit ?_
    refine WX.then_exit ?_
    refine WX.then_exit ?_
    refine WX.block_hit ?_
    refine WX.next ?_
    refine WC.seq ?_
    refine WC.region ?_
    refine WL.val (OV.move rfl) rfl ?_
    refine WL.val (OV.assign rfl) rfl ?_
    refine WL.val (OV.assign rfl) rfl ?_
    refine WL.nil ?_
    refine WX.next ?_
    refine WC.ret ?_
    rw [List.take_of_length_le (by simp [tsOf]; omega)] at hrow
    exact WX.ret2 rfl rfl rfl rfl (fun w' hw => ⟨la, lc, l, true, rfl, fun _ => hrow, fun h => (by cases h), (Hw.Sat.part (List.Sublist.cons_cons _ (List.nil_sublist _)) hw).turned0⟩)

end Go.Proofs.YtgiiifadbnpfkaaGreatDoor
