/- Contracts of functions of the program: what each returns and leaves in memory. Printed by gen.py and walk.py. -/
import Derived.Test.YtgiiifadbnpfkaaGreatDoorMg17
import Derived.Test.YtgiiifadbnpfkaaGreatDoorRows
namespace Go.Proofs.YtgiiifadbnpfkaaGreatDoor
open Go Go.Hw
set_option linter.unusedSimpArgs false
set_option linter.unusedVariables false
theorem take_extA {α : Type} {l m : List α} {i : Nat} (h1 : l.length = m.length) (h : l.take i = m.take i) (hi : l.length ≤ i) : l = m := by
  rwa [List.take_of_length_le hi, List.take_of_length_le (by omega)] at h
/-- Atoms that lie one behind the other. -/
structure RA (w : World) (a : Option Addr) (ys : List AG) : Prop where
  nil : a = none → ys.length = 0
  at_ : ∀ q, a = some q → ∀ i y, ys[i]? = some y → ∀ j v, (agC y)[j]? = some v → w.cell? ((q.add (i * 5)).add j) = some v
  args : ∀ y ∈ ys, RT w y.a y.x.args
theorem RA.keeps {w w' : World} {a : Option Addr} {ys : List AG} (h : RA w a ys) (k : Keeps w w') : RA w' a ys := ⟨h.nil, fun q hq i t ht j v hv => k _ _ (h.at_ q hq i t ht j v hv), fun y hy => (h.args y hy).keeps k⟩
theorem RA.get {w : World} {a : Option Addr} {ys : List AG} (h : RA w a ys) {i : Nat} (hi : i < ys.length) : ∃ q y, a = some q ∧ ys[i]? = some y ∧ y ∈ ys ∧ RT w y.a y.x.args ∧ ∀ j v, (agC y)[j]? = some v → w.cell? ((q.add (i * 5)).add j) = some v := by
  cases a with
  | none => have := h.nil rfl; omega
  | some q => exact ⟨q, ys[i], rfl, List.getElem?_eq_getElem hi, List.getElem_mem hi, h.args _ (List.getElem_mem hi), h.at_ q rfl i _ (List.getElem?_eq_getElem hi)⟩
theorem RA.of_row {w0 ws w : World} {M I : Nat → Prop} {ow : List Hw.Item} {a : Option Addr} {c : Nat} {ys : List AG} (hw : Sat w0 M I ws ow w) (hm : ∀ i ∈ atsA a c ys, i ∈ ow) : RA w a ys := by
  have hr : rowAt a c ys ∈ ow := hm _ (.head _)
  refine ⟨fun ha => ?_, fun q hq i t ht j v hv => ?_, fun y hy => RT.of_row (c := y.c) rfl hw (hm _ (.tail _ (List.mem_map.2 ⟨y, hy, rfl⟩)))⟩
  · rcases (row_base hw hr).2 with ⟨_, h, _⟩ | ⟨b, hb, _⟩
    · exact h
    · rw [ha] at hb; cases hb
  · subst hq
    have hj : j < 5 := (List.getElem?_eq_some_iff.1 hv).1
    have h1 := row_cells hw hr (i * 5 + j) v (by rw [flat_get agC_len ys i j t ht hj]; exact hv)
    rwa [add_add] at h1
/-- Predicates that lie one behind the other. -/
structure RP (w : World) (a : Option Addr) (ys : List Pd) : Prop where
  nil : a = none → ys.length = 0
  at_ : ∀ q, a = some q → ∀ i y, ys[i]? = some y → ∀ j v, (pdC y)[j]? = some v → w.cell? ((q.add (i * 2)).add j) = some v
theorem RP.get {w : World} {a : Option Addr} {ys : List Pd} (h : RP w a ys) {i : Nat} (hi : i < ys.length) : ∃ q y, a = some q ∧ ys[i]? = some y ∧ y ∈ ys ∧ ∀ j v, (pdC y)[j]? = some v → w.cell? ((q.add (i * 2)).add j) = some v := by
  cases a with
  | none => have := h.nil rfl; omega
  | some q => exact ⟨q, ys[i], rfl, List.getElem?_eq_getElem hi, List.getElem_mem hi, h.at_ q rfl i _ (List.getElem?_eq_getElem hi)⟩
theorem pdC_len' : ∀ y : Pd, (pdC y).length = 2 := fun _ => rfl
theorem RP.of_row {w0 ws w : World} {M I : Nat → Prop} {ow : List Hw.Item} {a : Option Addr} {c : Nat} {ys : List Pd} (hw : Sat w0 M I ws ow w) (hr : rowPd a c ys ∈ ow) : RP w a ys := by
  refine ⟨fun ha => ?_, fun q hq i t ht j v hv => ?_⟩
  · rcases (row_base hw hr).2 with ⟨_, h, _⟩ | ⟨b, hb, _⟩
    · exact h
    · rw [ha] at hb; cases hb
  · subst hq
    have hj : j < 2 := (List.getElem?_eq_some_iff.1 hv).1
    have h1 := row_cells hw hr (i * 2 + j) v (by rw [flat_get pdC_len' ys i j t ht hj]; exact hv)
    rwa [add_add] at h1

set_option maxRecDepth 10000 in
theorem sameTerms_calls (ls ms : List Tm) (a1 a2 : Option Addr) (c1 c2 : Nat) (h1 : ls.length ≤ 1099511627776) (h2 : ms.length ≤ 1099511627776) (w : World) (hr1 : RT w a1 ls) (hr2 : RT w a2 ms) : Calls Tryz.prog 60 #[.slice a1 ls.length c1, .slice a2 ms.length c2] w fun e w' => e = .returned (.bool (decide (ls = ms))) ∧ Fr0 w w' := by
  refine enterS (args := [.slice a1 ls.length c1, .slice a2 ms.length c2]) (fun _ => False) Tryz.func60 rfl Tryz.ntmps60 rfl rfl ?_
  refine WC.seq ?_
  refine WC.region ?_
  refine WL.val (OV.assign rfl) rfl ?_
  refine WL.nil ?_
  refine WX.next ?_
  refine WC.seq ?_
  refine WC.seq ?_
  refine WC.region ?_
  refine WL.val (OV.move rfl) rfl ?_
  first
  | (refine WL.val (OV.lenSlice rfl T.u32) rfl ?_)
  | (refine WL.val (OV.lenStr rfl T.u32) rfl ?_)
  refine WL.val (OV.move rfl) rfl ?_
  first
  | (refine WL.val (OV.lenSlice rfl T.u32) rfl ?_)
  | (refine WL.val (OV.lenStr rfl T.u32) rfl ?_)
  refine WL.val (OV.neq rfl rfl) rfl ?_
  refine WL.nil ?_
  refine WX.next ?_
  refine WC.cond rfl (fun c10 => ?_) (fun c10 => ?_)
  · try simp only [decide_eq_true_eq, decide_eq_false_iff_not, Bool.not_eq_true', Bool.not_eq_false'] at c10
    refine WC.seq ?_
    refine WC.region ?_
    refine WL.val (OV.assign rfl) rfl ?_
    refine WL.nil ?_
    refine WX.next ?_
    refine WC.ret ?_
    refine WX.then_ret ?_
    exact WX.ret1 rfl rfl rfl (fun w' hw => ⟨by rw [decide_eq_false (fun h => c10 (by have h9 := congrArg List.length h; (try simp only [List.length_map] at h9); omega))], hw.fr⟩)
  · try simp only [decide_eq_true_eq, decide_eq_false_iff_not, Bool.not_eq_true', Bool.not_eq_false'] at c10
    refine WC.skip ?_
    refine WX.next ?_
    refine WC.seq ?_
    refine WC.seq ?_
    refine WC.region ?_
    refine WL.val (OV.assign rfl) rfl ?_
    refine WL.nil ?_
    refine WX.next ?_
    refine WC.block ?_
    refine WC.loop1 (fun (i : Nat) => [(0, .slice a1 ls.length c1), (1, .slice a2 ms.length c2), (5, .int .i64 (i : Int))])
        (fun i w' => (i ≤ ls.length ∧ ls.take i = ms.take i) ∧ Sat w (fun _ => False) (fun b => b < w.heap.size) w [] w')
        (fun i => ls.length - i) 0 ⟨rfl, rfl, rfl, trivial⟩ (fun w' hw => ⟨⟨by omega, by simp⟩, hw⟩) ?_
    intro i
    refine WC.pure (fun hi => ?_)
    obtain ⟨hi, heq⟩ := hi
    refine WC.seq ?_
    refine WC.seq ?_
    refine WC.region ?_
    refine WL.val (OV.move rfl) rfl ?_
    refine WL.val (OV.move rfl) rfl ?_
    first
    | (refine WL.val (OV.lenSlice rfl T.u32) rfl ?_)
    | (refine WL.val (OV.lenStr rfl T.u32) rfl ?_)
    refine WL.val (OV.lss rfl rfl) rfl ?_
    refine WL.nil ?_
    refine WX.next ?_
    refine WC.cond rfl (fun c14 => ?_) (fun c14 => ?_)
    · try simp only [decide_eq_true_eq, decide_eq_false_iff_not, Bool.not_eq_true', Bool.not_eq_false'] at c14
      refine WC.skip ?_
      refine WX.next ?_
      refine WC.seq ?_
      refine WC.block ?_
      refine WC.seq ?_
      refine WC.quietS (by kernel_rfl) (by kernel_rfl) (m := 9) rfl ?_
      refine WH.free 0 rfl (by kernel_rfl) (by kernel_rfl) (by kernel_rfl) rfl (fun _ => (fun _ h => h)) (OV.move rfl) rfl (listed' := [true, false, false, false, false, false, false, false, false]) rfl ?_
      refine WH.free 1 rfl (by kernel_rfl) (by kernel_rfl) (by kernel_rfl) rfl (fun _ => (fun _ h => h)) (OV.move rfl) rfl (listed' := [true, true, false, false, false, false, false, false, false]) rfl ?_
      obtain ⟨q1, t1, rfl, ht1, hm1, _, hc1⟩ := hr1.get (i := i) (by omega)
      obtain ⟨q2, t2, rfl, ht2, hm2, _, hc2⟩ := hr2.get (i := i) (by omega)
      refine WH.free 2 rfl (by kernel_rfl) (by kernel_rfl) (by kernel_rfl) rfl (fun _ => (fun _ h => h)) ((OV.indexSlice rfl rfl T.u32 T.z31 (by omega)).cast (u := .pointer (some (q1.add (i * 3)))) (by rw [Int.toNat_natCast])) rfl (listed' := [true, true, true, false, false, false, false, false, false]) rfl ?_
      refine WH.take 3 rfl (by kernel_rfl) (by kernel_rfl) (by kernel_rfl) (by kernel_rfl) (fun _ h => h) (OV.loadN (cs := tmC t1) rfl T.u31 rfl T.z31 (fun _ hw j v hj => hw.keeps _ _ (hc1 j v hj))) rfl (listed' := [true, true, true, true, false, false, false, false, false]) rfl ?_
      refine WH.free 4 rfl (by kernel_rfl) (by kernel_rfl) (by kernel_rfl) rfl (fun _ => (fun _ h => h)) (OV.move rfl) rfl (listed' := [true, true, true, true, true, false, false, false, false]) rfl ?_
      refine WH.free 5 rfl (by kernel_rfl) (by kernel_rfl) (by kernel_rfl) rfl (fun _ => (fun _ h => h)) (OV.move rfl) rfl (listed' := [true, true, true, true, true, true, false, false, false]) rfl ?_
      refine WH.free 6 rfl (by kernel_rfl) (by kernel_rfl) (by kernel_rfl) rfl (fun _ => (fun _ h => h)) ((OV.indexSlice rfl rfl T.u32 T.z31 (by omega)).cast (u := .pointer (some (q2.add (i * 3)))) (by rw [Int.toNat_natCast])) rfl (listed' := [true, true, true, true, true, true, true, false, false]) rfl ?_
      refine WH.take 7 rfl (by kernel_rfl) (by kernel_rfl) (by kernel_rfl) (by kernel_rfl) (fun _ h => h) (OV.loadN (cs := tmC t2) rfl T.u31 rfl T.z31 (fun _ hw j v hj => hw.keeps _ _ (hc2 j v hj))) rfl (listed' := [true, true, true, true, true, true, true, true, false]) rfl ?_
      refine WH.free 8 rfl (by kernel_rfl) (by kernel_rfl) (by kernel_rfl) rfl (fun _ => (fun _ h => h)) (OV.neqTm (a := t1) (b := t2) rfl rfl) rfl (listed' := [true, true, true, true, true, true, true, true, true]) rfl ?_
      refine WH.done (by kernel_rfl) ?_
      refine WX.next ?_
      refine WC.cond rfl (fun c25 => ?_) (fun c25 => ?_)
      · try simp only [decide_eq_true_eq, decide_eq_false_iff_not, Bool.not_eq_true', Bool.not_eq_false'] at c25
        refine WC.seq ?_
        refine WC.region ?_
        refine WL.val (OV.assign rfl) rfl ?_
        refine WL.nil ?_
        refine WX.next ?_
        refine WC.ret ?_
        refine WX.block_ret ?_
        refine WX.then_ret ?_
        refine WX.then_ret ?_
        refine WX.block_ret ?_
        refine WX.then_ret ?_
        exact WX.ret1 rfl rfl rfl (fun w' hw => ⟨by rw [decide_eq_false (fun h => c25 (by rw [h] at ht1; exact Option.some.inj (ht1.symm.trans ht2)))], hw.fr⟩)
      · try simp only [decide_eq_true_eq, decide_eq_false_iff_not, Bool.not_eq_true', Bool.not_eq_false'] at c25
        refine WC.skip ?_
        refine WX.block_normal ?_
        refine WX.next ?_
        refine WC.region ?_
        refine WL.val (OV.move rfl) rfl ?_
        refine WL.val (OV.addN (j := 1) rfl rfl (by omega)) rfl ?_
        refine WL.val (OV.assign rfl) rfl ?_
        refine WL.nil ?_
        have hg : t1 = t2 := by simpa using c25
        exact WX.round1 (i + 1) ⟨rfl, rfl, rfl, trivial⟩ (fun w' hw => ⟨⟨by omega, take_ext_step heq ht1 (by rw [hg]; exact ht2)⟩, hw⟩) (by show ls.length - (i + 1) < ls.length - i; omega)
    · try simp only [decide_eq_true_eq, decide_eq_false_iff_not, Bool.not_eq_true', Bool.not_eq_false'] at c14
      refine WC.exit ?_
      refine WX.then_exit ?_
      refine WX.then_exit ?_
      refine WX.block_hit ?_
      refine WX.next ?_
      refine WC.seq ?_
      refine WC.region ?_
      refine WL.val (OV.assign rfl) rfl ?_
      refine WL.nil ?_
      refine WX.next ?_
      refine WC.ret ?_
      exact WX.ret1 rfl rfl rfl (fun w' hw => ⟨by rw [decide_eq_true (take_extA (by (try simp only [List.length_map]); omega) heq (by (try simp only [List.length_map]); omega))], hw.fr⟩)

theorem At.eq_iff {x y : At} : x = y ↔ x.b = y.b ∧ x.name = y.name ∧ x.args = y.args := by
  cases x; cases y; simp

set_option maxRecDepth 10000 in
theorem sameAtom_calls (x y : At) (a1 a2 : Option Addr) (c1 c2 : Nat) (h1 : x.args.length ≤ 1099511627776) (h2 : y.args.length ≤ 1099511627776) (w : World) (hr1 : RT w a1 x.args) (hr2 : RT w a2 y.args) : Calls Tryz.prog 26 #[atV x a1 c1, atV y a2 c2] w fun e w' => e = .returned (.bool (decide (x = y))) ∧ Fr0 w w' := by
  refine enterS (args := [atV x a1 c1, atV y a2 c2]) (fun _ => False) Tryz.func26 rfl Tryz.ntmps26 rfl rfl ?_
  refine WC.seq ?_
  refine WC.region ?_
  refine WL.box rfl rfl rfl ?_
  intro b2
  refine WL.box rfl rfl rfl ?_
  intro b3
  refine WL.val (OV.assign rfl) rfl ?_
  refine WL.nil ?_
  refine WX.next ?_
  refine WC.seq ?_
  refine WC.region ?_
  first
  | (refine WL.val (OV.fieldAddr0 (off := 0) rfl T.u34 rfl) rfl ?_)
  | (refine WL.val (OV.fieldAddr (off := 0) rfl T.u34 rfl) rfl ?_)
  refine WL.val (OV.loadN (cs := tmC x.b) rfl T.u31 rfl T.z31 (fun _ hw j v hj => by rw [add_off]; exact own_part hw (.tail _ (.head _)) (o := 0) (cs' := tmC x.b) rfl j v hj)) rfl ?_
  first
  | (refine WL.val (OV.fieldAddr0 (off := 0) rfl T.u34 rfl) rfl ?_)
  | (refine WL.val (OV.fieldAddr (off := 0) rfl T.u34 rfl) rfl ?_)
  refine WL.val (OV.loadN (cs := tmC y.b) rfl T.u31 rfl T.z31 (fun _ hw j v hj => by rw [add_off]; exact own_part hw (.head _) (o := 0) (cs' := tmC y.b) rfl j v hj)) rfl ?_
  refine WL.val (OV.eqlTm (a := x.b) (b := y.b) rfl rfl) rfl ?_
  refine WL.val (OV.move rfl) rfl ?_
  refine WL.split (t := 10) rfl (fun g10 => ?_) (fun g10 => ?_)
  · try simp only [decide_eq_true_eq, decide_eq_false_iff_not, Bool.not_eq_true', Bool.not_eq_false'] at g10
    refine WL.go (b := true) rfl rfl rfl ?_
    first
    | (refine WL.val (OV.fieldAddr0 (off := 3) rfl T.u34 rfl) rfl ?_)
    | (refine WL.val (OV.fieldAddr (off := 3) rfl T.u34 rfl) rfl ?_)
    refine WL.go (b := true) rfl rfl rfl ?_
    refine WL.val (OV.load1 (v := .string x.name) rfl T.u9 rfl (fun _ hw => (cell_at (hw.it _ (.tail _ (.head _))) (o := 3) rfl).1)) rfl ?_
    refine WL.go (b := true) rfl rfl rfl ?_
    first
    | (refine WL.val (OV.fieldAddr0 (off := 3) rfl T.u34 rfl) rfl ?_)
    | (refine WL.val (OV.fieldAddr (off := 3) rfl T.u34 rfl) rfl ?_)
    refine WL.go (b := true) rfl rfl rfl ?_
    refine WL.val (OV.load1 (v := .string y.name) rfl T.u9 rfl (fun _ hw => (cell_at (hw.it _ (.head _)) (o := 3) rfl).1)) rfl ?_
    refine WL.go (b := true) rfl rfl rfl ?_
    refine WL.val (OV.eqlS rfl rfl) rfl ?_
    refine WL.val (OV.pickT rfl rfl) rfl ?_
    refine WL.val (OV.move rfl) rfl ?_
    refine WL.split (t := 17) rfl (fun g17 => ?_) (fun g17 => ?_)
    · try simp only [decide_eq_true_eq, decide_eq_false_iff_not, Bool.not_eq_true', Bool.not_eq_false'] at g17
      refine WL.go (b := true) rfl rfl rfl ?_
      first
      | (refine WL.val (OV.fieldAddr0 (off := 4) rfl T.u34 rfl) rfl ?_)
      | (refine WL.val (OV.fieldAddr (off := 4) rfl T.u34 rfl) rfl ?_)
      refine WL.go (b := true) rfl rfl rfl ?_
      refine WL.val (OV.load1 (v := .slice a1 x.args.length c1) rfl T.u32 rfl (fun _ hw => (cell_at (hw.it _ (.tail _ (.head _))) (o := 4) rfl).1)) rfl ?_
      refine WL.go (b := true) rfl rfl rfl ?_
      first
      | (refine WL.val (OV.fieldAddr0 (off := 4) rfl T.u34 rfl) rfl ?_)
      | (refine WL.val (OV.fieldAddr (off := 4) rfl T.u34 rfl) rfl ?_)
      refine WL.go (b := true) rfl rfl rfl ?_
      refine WL.val (OV.load1 (v := .slice a2 y.args.length c2) rfl T.u32 rfl (fun _ hw => (cell_at (hw.it _ (.head _)) (o := 4) rfl).1)) rfl ?_
      refine WL.go (b := true) rfl rfl rfl ?_
      refine WL.call0 (v := .bool (decide (x.args = y.args))) (by kernel_rfl) rfl rfl (fun w' hw' => sameTerms_calls x.args y.args a1 a2 c1 c2 h1 h2 w' (hr1.keeps hw'.keeps) (hr2.keeps hw'.keeps)) ?_
      refine WL.val (OV.pickT rfl rfl) rfl ?_
      refine WL.val (OV.assign rfl) rfl ?_
      refine WL.nil ?_
      refine WX.next ?_
      refine WC.ret ?_
      exact WX.ret1 rfl rfl rfl (fun w' hw => ⟨by clear hw; congr 2; simp_all [At.eq_iff], hw.fr⟩)
    · try simp only [decide_eq_true_eq, decide_eq_false_iff_not, Bool.not_eq_true', Bool.not_eq_false'] at g17
      refine WL.skip (b := false) rfl rfl rfl rfl ?_
      refine WL.skip (b := false) rfl rfl rfl rfl ?_
      refine WL.skip (b := false) rfl rfl rfl rfl ?_
      refine WL.skip (b := false) rfl rfl rfl rfl ?_
      refine WL.skip (b := false) rfl rfl rfl rfl ?_
      refine WL.val (OV.pickF rfl rfl) rfl ?_
      refine WL.val (OV.assign rfl) rfl ?_
      refine WL.nil ?_
      refine WX.next ?_
      refine WC.ret ?_
      exact WX.ret1 rfl rfl rfl (fun w' hw => ⟨by clear hw; congr 2; simp_all [At.eq_iff], hw.fr⟩)
  · try simp only [decide_eq_true_eq, decide_eq_false_iff_not, Bool.not_eq_true', Bool.not_eq_false'] at g10
    refine WL.skip (b := false) rfl rfl rfl rfl ?_
    refine WL.skip (b := false) rfl rfl rfl rfl ?_
    refine WL.skip (b := false) rfl rfl rfl rfl ?_
    refine WL.skip (b := false) rfl rfl rfl rfl ?_
    refine WL.skip (b := false) rfl rfl rfl rfl ?_
    refine WL.val (OV.pickF rfl rfl) rfl ?_
    refine WL.val (OV.move rfl) rfl ?_
    refine WL.skip (b := false) rfl rfl rfl rfl ?_
    refine WL.skip (b := false) rfl rfl rfl rfl ?_
    refine WL.skip (b := false) rfl rfl rfl rfl ?_
    refine WL.skip (b := false) rfl rfl rfl rfl ?_
    refine WL.skip (b := false) rfl rfl rfl rfl ?_
    refine WL.val (OV.pickF rfl rfl) rfl ?_
    refine WL.val (OV.assign rfl) rfl ?_
    refine WL.nil ?_
    refine WX.next ?_
    refine WC.ret ?_
    exact WX.ret1 rfl rfl rfl (fun w' hw => ⟨by clear hw; congr 2; simp_all [At.eq_iff], hw.fr⟩)

end Go.Proofs.YtgiiifadbnpfkaaGreatDoor

namespace Go.Proofs.YtgiiifadbnpfkaaGreatDoor
open Go Go.Hw
set_option linter.unusedSimpArgs false
set_option linter.unusedVariables false
/-- A base behind k Adds, with the facts F (in any order). -/
structure BS (g : BaseG) (k : Nat) (F : List (At × Nat)) : Prop where
  ok : BaseOK g
  fs : (factsB g).Perm F
  vk : g.vs.length ≤ 9 * k
  rk : g.rs.length ≤ k
  fk : F.length ≤ k
theorem addF_perm {F G : List (At × Nat)} (h : F.Perm G) (x : At) : (addF F x).Perm (addF G x) := by
  unfold addF
  have h1 : (x ∉ F.map (·.1)) ↔ (x ∉ G.map (·.1)) := by rw [(h.map (·.1)).mem_iff]
  by_cases hc : factB x = true ∧ x ∉ F.map (·.1)
  · rw [if_pos hc, if_pos ⟨hc.1, h1.1 hc.2⟩]; exact h.append_right _
  · rw [if_neg hc, if_neg (fun k => hc ⟨k.1, h1.2 k.2⟩)]; exact h
theorem addF_len (F : List (At × Nat)) (x : At) : (addF F x).length ≤ F.length + 1 := by
  unfold addF; split <;> simp
theorem BS.add {g g' : BaseG} {k : Nat} {F : List (At × Nat)} (b : BS g k F) {x : At} (ok : BaseOK g') (h : (factsB g').Perm (addF (factsB g) x)) (h1 : g'.vs.length ≤ g.vs.length + 9) (h2 : g'.rs.length ≤ g.rs.length + 1) : BS g' (k + 1) (addF F x) :=
  ⟨ok, h.trans (addF_perm b.fs x), by have := b.vk; omega, by have := b.rk; omega, by have := b.fk; have := addF_len F x; omega⟩
theorem BS.turn {g : BaseG} {k : Nat} {F : List (At × Nat)} (b : BS g k F) : BS (turnB g) k (turnF F) :=
  ⟨turnB_ok b.ok, by rw [factsB_turn]; exact b.fs.map _, b.vk, by simpa [turnB] using b.rk, by simpa [turnF] using b.fk⟩
theorem BS.same {g g1 : BaseG} {k : Nat} {F : List (At × Nat)} (b : BS g k F) (h : SameB g g1) : BS g1 k F :=
  ⟨h.ok b.ok, by rw [h.facts]; exact b.fs, by rw [h.vs]; exact b.vk, by rw [h.len]; exact b.rk, b.fk⟩
theorem BS.nodup {g : BaseG} {k : Nat} {F : List (At × Nat)} (b : BS g k F) : (F.map (·.1)).Nodup := (b.fs.map (·.1)).nodup_iff.1 (facts_nodup b.ok)
theorem BS.mem {g : BaseG} {k : Nat} {F : List (At × Nat)} (b : BS g k F) (x : At) : x ∈ (factsB g).map (·.1) ↔ x ∈ F.map (·.1) := (b.fs.map (·.1)).mem_iff
theorem selF_perm {F G : List (At × Nat)} (h : F.Perm G) (parts : Int) : (selF F parts).Perm (selF G parts) := (h.filter _).map _
theorem n4F_perm {F G : List (At × Nat)} (h : F.Perm G) : n4F F = n4F G := (h.filter _).length_eq
theorem sortA_congr {l m : List At} (h : l.Perm m) : sortA l = sortA m := sortA_eq ((sortA_perm l).trans h) (sortA_sorted l)
theorem new_bs (p rb : Nat) : BS ⟨p, none, none, 0, [], rb, []⟩ 0 [] :=
  ⟨⟨fun _ => rfl, List.nodup_nil, List.nodup_nil, (fun x hx => by cases hx), (fun x hx => by cases hx), (fun x hx => by cases hx), (fun x hx => by cases hx), by simp, by simp, by simp⟩, .refl _, by simp, by simp, by simp⟩
theorem pred_atom {g : BaseG} (ok : BaseOK g) {x : Pd × RelG} (hx : x ∈ g.rs) {q : List Int × Nat} (hq : q ∈ rp x.2) : predOf (atomOf g.vs x.1 q.1) = x.1 := by
  have h := (rel_row ok hx hq).1
  unfold predOf atomOf
  simp [h]
theorem facts_args {g : BaseG} (ok : BaseOK g) {x : At} (h : x ∈ (factsB g).map (·.1)) : x.args.length ≤ 8 := by
  obtain ⟨⟨y, n⟩, hy, rfl⟩ := List.mem_map.1 h
  unfold factsB at hy
  obtain ⟨z, hz, hq⟩ := List.mem_flatMap.1 hy
  obtain ⟨q, hq, he⟩ := List.mem_map.1 hq
  simp only [Prod.mk.injEq] at he
  have h1 := pred_atom ok hz hq
  rw [he.1] at h1
  have h2 := ok.ar z hz
  rw [← h1] at h2
  exact h2
/-! ### Many Adds -/
end Go.Proofs.YtgiiifadbnpfkaaGreatDoor

namespace Go.Proofs.YtgiiifadbnpfkaaGreatDoor
open Go Go.Hw
set_option linter.unusedSimpArgs false
set_option linter.unusedVariables false
def factP (n : Int) : At := ⟨T0, ⟨#[112]⟩, [⟨1, n, E0⟩]⟩
theorem badd_bs (g : BaseG) (k : Nat) (F : List (At × Nat)) (b : BS g k F) (hk : k ≤ 100000000000) (x : At) (a : Option Addr) (c : Nat) (hl : x.args.length ≤ 1099511627775) (hs : x.name.size ≤ 1099511627776) (w : World) (hN : NoneAt w) (hN1 : ¬ DD (baseA g) 1) (hr : RT w a x.args) (hne : ∀ q, a = some q → 0 < x.args.length → ¬ DD (baseA g) q.block) (hA : Holds (baseA g) w) :
    Calls Tryz.prog 24 #[ptr g.p, atV x a c] w fun e w' => ∃ g', e = .returned (.tuple #[.bool (factB x && decide (x ∉ F.map (·.1))), .int .i64 (if factB x = true then 0 else 81)]) ∧ (BS g' (k + 1) (addF F x) ∧ g'.p = g.p) ∧ Turns (baseA g) (baseA g') w w' := by
  have h1 := b.vk
  have h2 := b.rk
  have h3 := b.fk
  have h4 := b.fs.length_eq
  refine (badd_calls g b.ok x a c hl hs (by omega) (by omega) (by omega) w hN hN1 hr hne hA).mono ?_
  rintro e w' ⟨he, g', ok, hp, hf, hv, hrs, ht⟩
  have hx : (x ∉ (factsB g).map (·.1)) ↔ (x ∉ F.map (·.1)) := not_congr (b.mem x)
  exact ⟨g', by rw [he]; simp only [hx], ⟨b.add ok hf hv hrs, hp⟩, ht⟩
theorem bturn_bs (g : BaseG) (k : Nat) (F : List (At × Nat)) (b : BS g k F) (w : World) (hA : Holds (baseA g) w) :
    Calls Tryz.prog 25 #[ptr g.p] w fun e w' => ∃ g', e = .returned (.int .i64 ((n4F F : Nat) : Int)) ∧ (BS g' k (turnF F) ∧ g'.p = g.p) ∧ Turns (baseA g) (baseA g') w w' := by
  refine (bturn_calls g b.ok w hA).mono ?_
  rintro e w' ⟨he, ht⟩
  exact ⟨turnB g, by rw [he, n4F_perm b.fs], ⟨b.turn, rfl⟩, ht⟩
structure AnsA where
  g : BaseG
  a : Option Addr
  c : Nat
  ys : List AG
theorem bfacts_bs (g : BaseG) (k : Nat) (F : List (At × Nat)) (b : BS g k F) (parts : Int) (w : World) (hA : Holds (baseA g) w) :
    Calls Tryz.prog 12 #[ptr g.p, .int .i64 parts] w fun e w' => ∃ z : AnsA, e = .returned (.slice z.a z.ys.length z.c) ∧ (z.ys.map AG.x = sortA (selF F parts) ∧ BS z.g k F ∧ z.g.p = g.p ∧ (∀ y ∈ z.ys, y.x.args.length ≤ 8) ∧ z.ys.length ≤ k) ∧ Turns (baseA g) (baseA z.g ++ atsA z.a z.c z.ys) w w' := by
  refine (bfacts_calls g b.ok parts w hA).mono ?_
  rintro e w' ⟨g1, la, lc, ys, he, hx, hs, ht⟩
  have hx2 : ys.map AG.x = sortA (selF F parts) := by rw [hx, sortA_congr (selF_perm b.fs parts)]
  refine ⟨⟨g1, la, lc, ys⟩, he, ⟨hx2, b.same hs, hs.p, fun y hy => ?_, ?_⟩, ht⟩
  · have h1 : y.x ∈ sortA (selF (factsB g) parts) := by rw [← hx]; exact List.mem_map.2 ⟨y, hy, rfl⟩
    have h2 := (sortA_perm _).mem_iff.1 h1
    obtain ⟨q, hq, he⟩ := List.mem_map.1 h2
    exact facts_args b.ok (by rw [← he]; exact List.mem_map.2 ⟨q, (List.mem_filter.1 hq).1, rfl⟩)
  · have h1 := congrArg List.length hx2
    rw [List.length_map, (sortA_perm _).length_eq, selF, List.length_map] at h1
    have := List.length_filter_le (fun q : At × Nat => inP parts q.2) F
    have := b.fk
    show ys.length ≤ k
    have h2 : ys.length = (F.filter fun q => inP parts q.2).length := h1
    omega
theorem RT.of_own {w0 ws w : World} {M I : Nat → Prop} {ow : List Hw.Item} (hw : Sat w0 M I ws ow w) {b : Nat} {t : Tm} {f : Nat × Nat} {T : TypeId} (hm : own b (.cells (tmC t).toArray T f) ∈ ow) : RT w (some ⟨b, 0, none⟩) [t] := by
  refine ⟨(fun h => by cases h), fun q hq i u hu j v hv => ?_⟩
  cases hq
  have hi : i = 0 := by have := (List.getElem?_eq_some_iff.1 hu).1; simpa using this
  subst hi
  simp only [List.getElem?_cons_zero, Option.some.injEq] at hu
  subst hu
  have h := own_cells hw hm j v hv
  have e : ((⟨b, 0, none⟩ : Addr).add (0 * 3)).add j = ⟨b, j, none⟩ := by rw [Nat.zero_mul, addr_add0, add_off, Nat.zero_add]
  rw [e]; exact h

set_option maxRecDepth 10000 in
theorem lfact_calls (n : Int) (w : World) : Calls Tryz.prog 27 #[.int .i64 n] w fun e w' => ∃ b, e = .returned (atV (factP n) (some ⟨b, 0, none⟩) 1) ∧ Turns [] [own b (.cells (tmC ⟨1, n, E0⟩).toArray 31 (0, 0))] w w' := by
  refine enterS (args := [.int .i64 n]) (fun _ => False) Tryz.func27 rfl Tryz.ntmps27 rfl rfl ?_
  refine WC.seq ?_
  refine WC.region ?_
  refine WL.alloc T.zr34 rfl ?_
  intro b2
  refine WL.nil ?_
  refine WX.next ?_
  refine WC.seq ?_
  refine WC.region ?_
  refine WL.val (OV.move rfl) rfl ?_
  refine WL.val (OV.buildStruct (xs := [(0, .const (.int .i64 1)), (1, .tmp 3)]) (pl := [(0, 1), (1, 1), (2, 1)]) (cs := tmC ⟨1, n, E0⟩) T.u31 T.zr31 (by kernel_rfl) rfl (fill_cons (us := [_]) rfl rfl (Nat.le_of_ble_eq_true rfl) (fill_cons (us := [_]) rfl rfl (Nat.le_of_ble_eq_true rfl) rfl))) rfl ?_
  refine WL.buildSliceA (cs := tmC ⟨1, n, E0⟩) T.u32 T.z31 T.zr31 rfl rfl (by omega) (by omega) rfl ?_
  intro b5
  refine WL.val (OV.buildStruct (xs := [(1, .const (.string ⟨#[112]⟩)), (2, .tmp 5)]) (pl := [(0, 3), (3, 1), (4, 1)]) (cs := atC (factP n) (some ⟨b5, 0, none⟩) 1) T.u34 T.zr34 (by kernel_rfl) rfl (fill_cons (us := [_]) rfl rfl (Nat.le_of_ble_eq_true rfl) (fill_cons (us := [_]) rfl rfl (Nat.le_of_ble_eq_true rfl) rfl))) rfl ?_
  refine WL.focus perm1 (WL.storeAll (vs := atC (factP n) (some ⟨b5, 0, none⟩) 1) rfl rfl rfl T.z34 rfl ?_)
  refine WL.nil ?_
  refine WX.next ?_
  refine WC.ret ?_
  refine WX.retC (cs := atC (factP n) (some ⟨b5, 0, none⟩) 1) rfl rfl rfl T.u34 rfl T.z34 (fun w' hw j v hj => own_cells hw (.head _) j v hj) (fun w' hw => ⟨b5, rfl, ?_⟩)
  exact (hw.pick [[own b2 (.cells (atC (factP n) (some ⟨b5, 0, none⟩) 1).toArray 34 (0, 0))], [own b5 (.cells (tmC ⟨1, n, E0⟩).toArray 31 (0, 0))]] [1] 2 rfl (by decide) (by decide)).turned0

end Go.Proofs.YtgiiifadbnpfkaaGreatDoor

namespace Go.Proofs.YtgiiifadbnpfkaaGreatDoor
open Go Go.Hw
set_option linter.unusedSimpArgs false
set_option linter.unusedVariables false
set_option maxRecDepth 10000 in
theorem cloneT_calls (ts : List Tm) (a : Option Addr) (c : Nat) (hm : ts.length ≤ 1099511627776) (w : World) (hr : RT w a ts) : Calls Tryz.prog 52 #[.slice a ts.length c] w fun e w' => ∃ a' c', e = .returned (.slice a' ts.length c') ∧ Turns [] [rowT a' c' ts] w w' := by
  refine enterS (args := [.slice a ts.length c]) (fun _ => False) Tryz.func52 rfl Tryz.ntmps52 rfl rfl ?_
  refine WC.seq ?_
  refine WC.region ?_
  refine WL.val (OV.assign rfl) rfl ?_
  refine WL.nil ?_
  refine WX.next ?_
  refine WC.seq ?_
  refine WC.seq ?_
  refine WC.region ?_
  refine WL.val (OV.move rfl) rfl ?_
  refine WL.val (OV.eqlSN T.u32 rfl rfl) rfl ?_
  refine WL.nil ?_
  refine WX.next ?_
  refine WC.cond rfl (fun c4 => ?_) (fun c4 => ?_)
  · skip -- c4
    refine WC.seq ?_
    refine WC.region ?_
    refine WL.val (OV.assign rfl) rfl ?_
    refine WL.nil ?_
    refine WX.next ?_
    refine WC.ret ?_
    refine WX.then_ret ?_
    have hn : a = none := by cases a <;> simp at c4; rfl
    have hl : ts = [] := List.eq_nil_of_length_eq_zero (hr.nil hn)
    subst hl
    exact WX.ret1 rfl rfl rfl (fun w hw => ⟨none, 0, rfl, (hw.rowNil 31 3).turned0⟩)
  · skip -- c4
    refine WC.skip ?_
    refine WX.next ?_
    refine WC.seq ?_
    refine WC.region ?_
    refine WL.buildSlice0 T.u32 T.z31 rfl ?_
    intro b5
    refine WL.val (OV.move rfl) rfl ?_
    refine WL.append (news := ts.flatMap tmC) rfl rfl T.apT (fun _ _ => Src.of_rt hr.nil (fun _ hw => hr.keeps hw.keeps)) (tms_one _) ⟨by omega, by unfold maxLen; omega⟩ rfl ?_
    intro a7 c7
    refine WL.val (OV.assign rfl) rfl ?_
    refine WL.nil ?_
    refine WX.next ?_
    refine WC.ret ?_
    refine WX.ret1 rfl rfl rfl (fun w hw => ⟨a7, c7, by rw [Nat.zero_add], ?_⟩)
    rw [List.nil_append, Nat.zero_add] at hw
    exact hw.turned0

set_option maxRecDepth 10000 in
theorem bfind_calls (g : BaseG) (parts : Int) (x : At) (a : Option Addr) (c : Nat) (hl : x.args.length ≤ 1099511627776) (w : World) (hr : RT w a x.args) : Calls Tryz.prog 22 #[ptr g.p, .int .i64 parts, atV x a c] w fun e w' => ∃ z : Nat × Nat × Nat × Option Addr × Nat, e = .returned (.func (.func 53) #[] #[ptr z.1, ptr z.2.1, ptr z.2.2.1]) ∧ Turns [] [own z.1 (.cells [ptr g.p].toArray 23 (0, 0)), own z.2.1 (.cells [.int .i64 parts].toArray 3 (0, 0)), own z.2.2.1 (.cells (atC x z.2.2.2.1 z.2.2.2.2).toArray 34 (0, 0)), rowT z.2.2.2.1 z.2.2.2.2 x.args] w w' := by
  refine enterS (args := [ptr g.p, .int .i64 parts, atV x a c]) (fun _ => False) Tryz.func22 rfl Tryz.ntmps22 rfl rfl ?_
  refine WC.seq ?_
  refine WC.region ?_
  refine WL.box rfl rfl rfl ?_
  intro b3
  refine WL.box rfl rfl rfl ?_
  intro b4
  refine WL.box rfl rfl rfl ?_
  intro b5
  refine WL.val (OV.assign rfl) rfl ?_
  refine WL.nil ?_
  refine WX.next ?_
  refine WC.seq ?_
  refine WC.drawn (fun w' => w'.heap[b5]? = some (.cells (atC x a c).toArray 34 (0, 0))) [] (by kernel_rfl) (by kernel_rfl) (m := 10) rfl ?_
  first
  | (refine WH.free 0 rfl (by kernel_rfl) (by kernel_rfl) (by kernel_rfl) rfl (fun _ => (fun _ hw => hw.it (own b5 _) (by simp))) (OV.fieldAddr0 (off := 0) rfl T.u34 rfl) rfl (listed' := [true, false, false, false, false, false, false, false, false, false]) rfl ?_)
  | (refine WH.free 0 rfl (by kernel_rfl) (by kernel_rfl) (by kernel_rfl) rfl (fun _ => (fun _ hw => hw.it (own b5 _) (by simp))) (OV.fieldAddr (off := 0) rfl T.u34 rfl) rfl (listed' := [true, false, false, false, false, false, false, false, false, false]) rfl ?_)
  refine WH.take 1 rfl (by kernel_rfl) (by kernel_rfl) (by kernel_rfl) (by kernel_rfl) (fun _ hw => hw.it (own b5 _) (by simp)) (OV.loadN (cs := tmC x.b) rfl T.u31 rfl T.z31 (fun _ hw j v hj => by rw [add_off]; exact heap_part hw (o := 0) (cs' := tmC x.b) rfl j v hj)) rfl (listed' := [true, true, false, false, false, false, false, false, false, false]) rfl ?_
  first
  | (refine WH.free 2 rfl (by kernel_rfl) (by kernel_rfl) (by kernel_rfl) rfl (fun _ => (fun _ hw => hw.it (own b5 _) (by simp))) (OV.fieldAddr0 (off := 3) rfl T.u34 rfl) rfl (listed' := [true, true, true, false, false, false, false, false, false, false]) rfl ?_)
  | (refine WH.free 2 rfl (by kernel_rfl) (by kernel_rfl) (by kernel_rfl) rfl (fun _ => (fun _ hw => hw.it (own b5 _) (by simp))) (OV.fieldAddr (off := 3) rfl T.u34 rfl) rfl (listed' := [true, true, true, false, false, false, false, false, false, false]) rfl ?_)
  refine WH.take 3 rfl (by kernel_rfl) (by kernel_rfl) (by kernel_rfl) (by kernel_rfl) (fun _ hw => hw.it (own b5 _) (by simp)) (OV.load1 (v := .string x.name) rfl T.u9 rfl (fun _ hw => (cell_at hw (o := 3) rfl).1)) rfl (listed' := [true, true, true, true, false, false, false, false, false, false]) rfl ?_
  first
  | (refine WH.free 4 rfl (by kernel_rfl) (by kernel_rfl) (by kernel_rfl) rfl (fun _ => (fun _ hw => hw.it (own b5 _) (by simp))) (OV.fieldAddr0 (off := 4) rfl T.u34 rfl) rfl (listed' := [true, true, true, true, true, false, false, false, false, false]) rfl ?_)
  | (refine WH.free 4 rfl (by kernel_rfl) (by kernel_rfl) (by kernel_rfl) rfl (fun _ => (fun _ hw => hw.it (own b5 _) (by simp))) (OV.fieldAddr (off := 4) rfl T.u34 rfl) rfl (listed' := [true, true, true, true, true, false, false, false, false, false]) rfl ?_)
  refine WH.take 5 rfl (by kernel_rfl) (by kernel_rfl) (by kernel_rfl) (by kernel_rfl) (fun _ hw => hw.it (own b5 _) (by simp)) (OV.load1 (v := .slice a x.args.length c) rfl T.u32 rfl (fun _ hw => (cell_at hw (o := 4) rfl).1)) rfl (listed' := [true, true, true, true, true, true, false, false, false, false]) rfl ?_
  refine WH.two 6 8 rfl rfl (by kernel_rfl) (listed1 := [true, true, true, true, true, true, true, false, false, false]) rfl (listed2 := [true, true, true, true, true, true, false, false, true, false]) rfl (fl1 := false) rfl (fl2 := false) rfl ?_ ?_
  · refine WL.callTA (ι := Option Addr × Nat) (vs := [.slice a x.args.length c]) (vv := fun q => .slice q.1 x.args.length q.2) (pp := fun _ => True) [] (AA := fun q => [rowT q.1 q.2 x.args]) rfl (by kernel_rfl) rfl rfl (fun w' hw' _ => (cloneT_calls x.args a c hl w' (hr.keeps hw'.keeps)).mono (fun en w'' ⟨la, lc, h1, h2⟩ => ⟨(la, lc), h1, trivial, h2⟩)) ?_
    rintro ⟨la, lc⟩ _
    refine WL.nil ?_
    refine WX.contD (by kernel_rfl) (fun _ => (fun _ hw => hw.it (own b5 _) (by simp))) ?_
    refine WH.free 7 rfl (by kernel_rfl) (by kernel_rfl) (by kernel_rfl) rfl (fun _ => (fun _ hw => hw.it (own b5 _) (by simp))) (OV.buildStruct (xs := [(0, .tmp 9), (1, .tmp 11), (2, .tmp 14)]) (pl := [(0, 3), (3, 1), (4, 1)]) (cs := atC x la lc) T.u34 T.zr34 (by kernel_rfl) rfl (fill_cons (us := tmC x.b) rfl rfl (Nat.le_of_ble_eq_true rfl) (fill_cons (us := [_]) rfl rfl (Nat.le_of_ble_eq_true rfl) (fill_cons (us := [_]) rfl rfl (Nat.le_of_ble_eq_true rfl) rfl)))) rfl (listed' := [true, true, true, true, true, true, true, true, false, false]) rfl ?_
    refine WH.only 8 rfl (by kernel_rfl) (listed' := [true, true, true, true, true, true, true, true, true, false]) rfl (fl' := false) rfl ?_
    refine WL.alloc T.zr34 rfl ?_
    intro b7
    refine WL.nil ?_
    refine WX.contD (by kernel_rfl) (fun _ => (fun _ hw => hw.it (own b5 _) (by simp))) ?_
    refine WH.only 9 rfl (by kernel_rfl) (listed' := [true, true, true, true, true, true, true, true, true, true]) rfl (fl' := false) rfl ?_
    refine WL.storeAll (vs := atC x la lc) rfl rfl rfl T.z34 rfl ?_
    refine WL.nil ?_
    refine WX.contD (by kernel_rfl) (fun _ => (fun _ hw => hw.it (own b5 _) (by simp))) ?_
    refine WH.done (by kernel_rfl) ?_
    refine WX.next ?_
    refine WC.seq ?_
    refine WC.region ?_
    refine WL.val (OV.makeFunc rfl) rfl ?_
    refine WL.val (OV.assign rfl) rfl ?_
    refine WL.nil ?_
    refine WX.next ?_
    refine WC.ret ?_
    refine WX.ret1 rfl rfl rfl (fun w' hw => ⟨(b3, b4, b7, la, lc), rfl, ?_⟩)
    exact (hw.pick [[own b7 (.cells (atC x la lc).toArray 34 (0, 0))], [rowT la lc x.args], [own b5 (.cells (atC x a c).toArray 34 (0, 0))], [own b4 (.cells [.int .i64 parts].toArray 3 (0, 0))], [own b3 (.cells [ptr g.p].toArray 23 (0, 0))]] [4, 3, 0, 1] 5 rfl (by decide) (by decide)).turned0
  · refine WL.alloc T.zr34 rfl ?_
    intro b7
    refine WL.nil ?_
    refine WX.contD (by kernel_rfl) (fun _ => (fun _ hw => hw.it (own b5 _) (by simp))) ?_
    refine WH.only 6 rfl (by kernel_rfl) (listed' := [true, true, true, true, true, true, true, false, true, false]) rfl (fl' := false) rfl ?_
    refine WL.callTA (ι := Option Addr × Nat) (vs := [.slice a x.args.length c]) (vv := fun q => .slice q.1 x.args.length q.2) (pp := fun _ => True) [] (AA := fun q => [rowT q.1 q.2 x.args]) rfl (by kernel_rfl) rfl rfl (fun w' hw' _ => (cloneT_calls x.args a c hl w' (hr.keeps hw'.keeps)).mono (fun en w'' ⟨la, lc, h1, h2⟩ => ⟨(la, lc), h1, trivial, h2⟩)) ?_
    rintro ⟨la, lc⟩ _
    refine WL.nil ?_
    refine WX.contD (by kernel_rfl) (fun _ => (fun _ hw => hw.it (own b5 _) (by simp))) ?_
    refine WH.free 7 rfl (by kernel_rfl) (by kernel_rfl) (by kernel_rfl) rfl (fun _ => (fun _ hw => hw.it (own b5 _) (by simp))) (OV.buildStruct (xs := [(0, .tmp 9), (1, .tmp 11), (2, .tmp 14)]) (pl := [(0, 3), (3, 1), (4, 1)]) (cs := atC x la lc) T.u34 T.zr34 (by kernel_rfl) rfl (fill_cons (us := tmC x.b) rfl rfl (Nat.le_of_ble_eq_true rfl) (fill_cons (us := [_]) rfl rfl (Nat.le_of_ble_eq_true rfl) (fill_cons (us := [_]) rfl rfl (Nat.le_of_ble_eq_true rfl) rfl)))) rfl (listed' := [true, true, true, true, true, true, true, true, true, false]) rfl ?_
    refine WH.only 9 rfl (by kernel_rfl) (listed' := [true, true, true, true, true, true, true, true, true, true]) rfl (fl' := false) rfl ?_
    refine WL.focus perm1 (WL.storeAll (vs := atC x la lc) rfl rfl rfl T.z34 rfl ?_)
    refine WL.nil ?_
    refine WX.contD (by kernel_rfl) (fun _ => (fun _ hw => hw.it (own b5 _) (by simp))) ?_
    refine WH.done (by kernel_rfl) ?_
    refine WX.next ?_
    refine WC.seq ?_
    refine WC.region ?_
    refine WL.val (OV.makeFunc rfl) rfl ?_
    refine WL.val (OV.assign rfl) rfl ?_
    refine WL.nil ?_
    refine WX.next ?_
    refine WC.ret ?_
    refine WX.ret1 rfl rfl rfl (fun w' hw => ⟨(b3, b4, b7, la, lc), rfl, ?_⟩)
    exact (hw.pick [[own b7 (.cells (atC x la lc).toArray 34 (0, 0))], [rowT la lc x.args], [own b5 (.cells (atC x a c).toArray 34 (0, 0))], [own b4 (.cells [.int .i64 parts].toArray 3 (0, 0))], [own b3 (.cells [ptr g.p].toArray 23 (0, 0))]] [4, 3, 0, 1] 5 rfl (by decide) (by decide)).turned0

end Go.Proofs.YtgiiifadbnpfkaaGreatDoor

namespace Go.Proofs.YtgiiifadbnpfkaaGreatDoor
open Go Go.Hw
set_option linter.unusedSimpArgs false
set_option linter.unusedVariables false
theorem NoneAt.lt {w : World} (h : NoneAt w) : 1 < w.heap.size := World.block_lt_of_cell? w ⟨1, 0, none⟩ (h 0 _ rfl)
theorem fact5 : factB (factP 5) = true := by kernel_rfl
theorem add5a : addF [] (factP 5) = [(factP 5, 4)] := by
  unfold addF; rw [if_pos ⟨fact5, by simp⟩]; rfl
theorem add5b : addF [(factP 5, 4)] (factP 5) = [(factP 5, 4)] := by
  unfold addF; rw [if_neg (by simp)]
theorem sel5 : sortA (selF [(factP 5, 2)] 2) = [factP 5] := by
  have h : selF [(factP 5, 2)] 2 = [factP 5] := by
    unfold selF
    rw [List.filter_cons, if_pos (by rfl)]; rfl
  rw [h]; exact List.mergeSort_singleton _

set_option maxRecDepth 10000 in
theorem first_calls (w : World) (hN : NoneAt w) : Calls Tryz.prog 18 #[] w fun e w' => e = .returned (.bool true) ∧ Fr0 w w' := by
  refine enterS (args := []) (fun _ => False) Tryz.func18 rfl Tryz.ntmps18 rfl rfl ?_
  refine WC.seq ?_
  refine WC.region ?_
  refine WL.val (OV.assign rfl) rfl ?_
  refine WL.nil ?_
  refine WX.next ?_
  refine WC.seq ?_
  refine WC.region ?_
  refine WL.callTA (ι := Nat × Nat) (vs := []) (vv := fun z => ptr z.1) (pp := fun _ => True) [] (AA := fun z => baseA ⟨z.1, none, none, 0, [], z.2, []⟩) rfl (by kernel_rfl) rfl rfl (fun w' hw' _ => (bnew_calls w').mono (fun en w'' ⟨p, rb, h1, h2⟩ => ⟨(p, rb), h1, trivial, h2⟩)) ?_
  rintro ⟨pg0, rbg0⟩ _
  obtain ⟨g0, eg0⟩ : ∃ g : BaseG, g = ⟨pg0, none, none, 0, [], rbg0, []⟩ := ⟨_, rfl⟩
  have bsg0 : BS g0 0 [] := by rw [eg0]; exact new_bs _ _
  have hpg0 : g0.p = pg0 := by rw [eg0]
  rw [show ptr (pg0, rbg0).1 = ptr g0.p from by rw [hpg0]]
  refine WL.focus (ow' := baseA g0) (List.Perm.of_eq (by rw [List.append_nil]; exact congrArg baseA (eg0.trans (rfl)))) ?_
  refine WL.val (OV.assign rfl) rfl ?_
  refine WL.nil ?_
  refine WX.next ?_
  refine WC.seq ?_
  refine WC.seq ?_
  refine WC.region ?_
  refine WL.val (OV.move rfl) rfl ?_
  refine WL.val (OV.eqlPN T.u23 rfl rfl) rfl ?_
  refine WL.nil ?_
  refine WX.next ?_
  refine WC.condF rfl ?_
  refine WC.skip ?_
  refine WX.next ?_
  refine WC.seq ?_
  refine WC.region ?_
  refine WL.val (OV.move rfl) rfl ?_
  refine WL.callTA (ι := Nat) (vs := [.int .i64 5]) (vv := fun b => atV (factP 5) (some ⟨b, 0, none⟩) 1) (pp := fun _ => True) [] (AA := fun b => [own b (.cells (tmC ⟨1, 5, E0⟩).toArray 31 (0, 0))]) rfl (by kernel_rfl) rfl rfl (fun w' hw' _ => (lfact_calls 5 w').mono (fun en w'' ⟨b, h1, h2⟩ => ⟨b, h1, trivial, h2⟩)) ?_
  rintro f1 _
  refine WL.focus (ow' := baseA g0 ++ ([own f1 (.cells (tmC ⟨1, 5, E0⟩).toArray 31 (0, 0))])) (perm_cat [[own f1 (.cells (tmC ⟨1, 5, E0⟩).toArray 31 (0, 0))], baseA g0] [1, 0] (by decide) rfl) ?_
  refine WL.callTA (ι := BaseG) (vs := [ptr g0.p, atV (factP 5) (some ⟨f1, 0, none⟩) 1]) (vv := fun _ => .tuple #[.bool true, .int .i64 0]) (pp := fun g' => BS g' (0 + 1) [(factP 5, 4)] ∧ g'.p = g0.p) (baseA g0) (AA := fun g' => baseA g') rfl (by kernel_rfl) (by rfl) rfl (fun w' hw' hH => (badd_bs g0 0 [] bsg0 (by decide) (factP 5) (some ⟨f1, 0, none⟩) 1 (by decide) (by decide) w' (hN.keeps hw'.keeps) (Sat.sepI hw' hN.lt) (RT.of_own hw' (List.mem_append_right _ (.head _))) (fun q hq _ => by cases hq; exact Sat.sepO hw' (i := own f1 (.cells (tmC ⟨1, 5, E0⟩).toArray 31 (0, 0))) (.head _) rfl) hH).mono (fun en w'' ⟨g', h1, h2, h3⟩ => ⟨g', by rw [h1, fact5]; rfl, by first | rwa [add5a] at h2 | rwa [add5b] at h2, h3⟩)) ?_
  rintro g1 ⟨bsg1, hpg1⟩
  refine WL.val (OV.move rfl) rfl ?_
  refine WL.val (OV.extract rfl rfl) rfl ?_
  refine WL.val (OV.extract rfl rfl) rfl ?_
  refine WL.val (OV.assign rfl) rfl ?_
  refine WL.val (OV.assign rfl) rfl ?_
  refine WL.nil ?_
  refine WX.next ?_
  refine WC.seq ?_
  refine WC.region ?_
  refine WL.val (OV.move rfl) rfl ?_
  refine WL.callTA (ι := Nat) (vs := [.int .i64 5]) (vv := fun b => atV (factP 5) (some ⟨b, 0, none⟩) 1) (pp := fun _ => True) [] (AA := fun b => [own b (.cells (tmC ⟨1, 5, E0⟩).toArray 31 (0, 0))]) rfl (by kernel_rfl) rfl rfl (fun w' hw' _ => (lfact_calls 5 w').mono (fun en w'' ⟨b, h1, h2⟩ => ⟨b, h1, trivial, h2⟩)) ?_
  rintro f2 _
  refine WL.focus (ow' := baseA g1 ++ ([own f2 (.cells (tmC ⟨1, 5, E0⟩).toArray 31 (0, 0))] ++ ([own f1 (.cells (tmC ⟨1, 5, E0⟩).toArray 31 (0, 0))]))) (perm_cat [[own f2 (.cells (tmC ⟨1, 5, E0⟩).toArray 31 (0, 0))], baseA g1, [own f1 (.cells (tmC ⟨1, 5, E0⟩).toArray 31 (0, 0))]] [1, 0, 2] (by decide) rfl) ?_
  refine WL.callTA (ι := BaseG) (vs := [ptr g1.p, atV (factP 5) (some ⟨f2, 0, none⟩) 1]) (vv := fun _ => .tuple #[.bool false, .int .i64 0]) (pp := fun g' => BS g' (1 + 1) [(factP 5, 4)] ∧ g'.p = g1.p) (baseA g1) (AA := fun g' => baseA g') rfl (by kernel_rfl) (by rw [hpg1]; rfl) rfl (fun w' hw' hH => (badd_bs g1 1 [(factP 5, 4)] bsg1 (by decide) (factP 5) (some ⟨f2, 0, none⟩) 1 (by decide) (by decide) w' (hN.keeps hw'.keeps) (Sat.sepI hw' hN.lt) (RT.of_own hw' (List.mem_append_right _ (.head _))) (fun q hq _ => by cases hq; exact Sat.sepO hw' (i := own f2 (.cells (tmC ⟨1, 5, E0⟩).toArray 31 (0, 0))) (.head _) rfl) hH).mono (fun en w'' ⟨g', h1, h2, h3⟩ => ⟨g', by rw [h1, fact5]; rfl, by first | rwa [add5a] at h2 | rwa [add5b] at h2, h3⟩)) ?_
  rintro g2 ⟨bsg2, hpg2⟩
  refine WL.val (OV.move rfl) rfl ?_
  refine WL.val (OV.extract rfl rfl) rfl ?_
  refine WL.val (OV.extract rfl rfl) rfl ?_
  refine WL.val (OV.assign rfl) rfl ?_
  refine WL.val (OV.assign rfl) rfl ?_
  refine WL.nil ?_
  refine WX.next ?_
  refine WC.seq ?_
  refine WC.region ?_
  refine WL.val (OV.move rfl) rfl ?_
  refine WL.callTA (ι := BaseG) (vs := [ptr g2.p]) (vv := fun _ => .int .i64 1) (pp := fun g' => BS g' 2 [(factP 5, 2)] ∧ g'.p = g2.p) (baseA g2) (AA := fun g' => baseA g') rfl (by kernel_rfl) (by rw [hpg2, hpg1]; rfl) rfl (fun w' hw' hH => (bturn_bs g2 2 _ bsg2 w' hH).mono (fun en w'' ⟨g', h1, h2, h3⟩ => ⟨g', h1, h2, h3⟩)) ?_
  rintro g3 ⟨bsg3, hpg3⟩
  refine WL.val (OV.assign rfl) rfl ?_
  refine WL.nil ?_
  refine WX.next ?_
  refine WC.seq ?_
  refine WC.region ?_
  refine WL.val (OV.move rfl) rfl ?_
  refine WL.callTA (ι := AnsA) (vs := [ptr g3.p, .int .i64 2]) (vv := fun z => .slice z.a 1 z.c) (pp := fun z => z.ys.map AG.x = [factP 5]) (baseA g3) (AA := fun z => baseA z.g ++ atsA z.a z.c z.ys) rfl (by kernel_rfl) (by rw [hpg3, hpg2, hpg1]; rfl) rfl (fun w' hw' hH => (bfacts_bs g3 2 _ bsg3 2 w' hH).mono (fun en w'' ⟨z, h1, h2, h3⟩ => ⟨z, by rw [h1, show z.ys.length = 1 from by have h := congrArg List.length h2.1; rw [sel5, List.length_map] at h; exact h], by rw [h2.1, sel5], h3⟩)) ?_
  rintro z hz
  obtain ⟨y, hy⟩ : ∃ y, z.ys = [y] := by
    have h := congrArg List.length hz
    rw [List.length_map] at h
    exact List.length_eq_one_iff.1 h
  have hyx : y.x = factP 5 := by rw [hy] at hz; simpa using hz
  refine WL.val (OV.assign rfl) rfl ?_
  refine WL.nil ?_
  refine WX.next ?_
  refine WC.seq ?_
  refine WC.know (fun w' hw => (show ∃ q, z.a = some ⟨q, 0, none⟩ from row_addrK (hw.it (rowAt z.a z.c z.ys) (by simp [atsA])) (by rw [hy]; exact Nat.one_pos))) (fun hza => ?_)
  refine WC.drawn (fun w' => (rowAt z.a z.c z.ys).φ w') [] (by kernel_rfl) (by kernel_rfl) (m := 30) rfl ?_
  refine WH.free 0 rfl (by kernel_rfl) (by kernel_rfl) (by kernel_rfl) rfl (fun _ => (fun _ hw => hw.it _ (by simp [atsA]))) (OV.move rfl) rfl (listed' := [true, false, false, false, false, false, false, false, false, false, false, false, false, false, false, false, false, false, false, false, false, false, false, false, false, false, false, false, false, false]) rfl ?_
  refine WH.free 1 rfl (by kernel_rfl) (by kernel_rfl) (by kernel_rfl) rfl (fun _ => (fun _ hw => hw.it _ (by simp [atsA]))) (OV.move rfl) rfl (listed' := [true, true, false, false, false, false, false, false, false, false, false, false, false, false, false, false, false, false, false, false, false, false, false, false, false, false, false, false, false, false]) rfl ?_
  refine WH.known (t := 28) (b := true) rfl (by rfl) ?_
  refine WH.freeG 2 (b := true) rfl (by kernel_rfl) (by kernel_rfl) (by kernel_rfl) rfl (fun _ => (fun _ hw => hw.it _ (by simp [atsA]))) rfl rfl rfl (OV.move rfl) rfl (listed' := [true, true, true, false, false, false, false, false, false, false, false, false, false, false, false, false, false, false, false, false, false, false, false, false, false, false, false, false, false, false]) rfl ?_
  refine WH.freeG 3 (b := true) rfl (by kernel_rfl) (by kernel_rfl) (by kernel_rfl) rfl (fun _ => (fun _ hw => hw.it _ (by simp [atsA]))) rfl rfl rfl (OV.not rfl) rfl (listed' := [true, true, true, true, false, false, false, false, false, false, false, false, false, false, false, false, false, false, false, false, false, false, false, false, false, false, false, false, false, false]) rfl ?_
  refine WH.free 4 rfl (by kernel_rfl) (by kernel_rfl) (by kernel_rfl) rfl (fun _ => (fun _ hw => hw.it _ (by simp [atsA]))) (OV.pickT rfl rfl) rfl (listed' := [true, true, true, true, true, false, false, false, false, false, false, false, false, false, false, false, false, false, false, false, false, false, false, false, false, false, false, false, false, false]) rfl ?_
  refine WH.free 5 rfl (by kernel_rfl) (by kernel_rfl) (by kernel_rfl) rfl (fun _ => (fun _ hw => hw.it _ (by simp [atsA]))) (OV.move rfl) rfl (listed' := [true, true, true, true, true, true, false, false, false, false, false, false, false, false, false, false, false, false, false, false, false, false, false, false, false, false, false, false, false, false]) rfl ?_
  refine WH.known (t := 32) (b := true) rfl (by rfl) ?_
  refine WH.freeG 6 (b := true) rfl (by kernel_rfl) (by kernel_rfl) (by kernel_rfl) rfl (fun _ => (fun _ hw => hw.it _ (by simp [atsA]))) rfl rfl rfl (OV.move rfl) rfl (listed' := [true, true, true, true, true, true, true, false, false, false, false, false, false, false, false, false, false, false, false, false, false, false, false, false, false, false, false, false, false, false]) rfl ?_
  refine WH.freeG 7 (b := true) rfl (by kernel_rfl) (by kernel_rfl) (by kernel_rfl) rfl (fun _ => (fun _ hw => hw.it _ (by simp [atsA]))) rfl rfl rfl (OV.eql rfl rfl) rfl (listed' := [true, true, true, true, true, true, true, true, false, false, false, false, false, false, false, false, false, false, false, false, false, false, false, false, false, false, false, false, false, false]) rfl ?_
  refine WH.free 8 rfl (by kernel_rfl) (by kernel_rfl) (by kernel_rfl) rfl (fun _ => (fun _ hw => hw.it _ (by simp [atsA]))) (OV.pickT rfl rfl) rfl (listed' := [true, true, true, true, true, true, true, true, true, false, false, false, false, false, false, false, false, false, false, false, false, false, false, false, false, false, false, false, false, false]) rfl ?_
  refine WH.free 9 rfl (by kernel_rfl) (by kernel_rfl) (by kernel_rfl) rfl (fun _ => (fun _ hw => hw.it _ (by simp [atsA]))) (OV.move rfl) rfl (listed' := [true, true, true, true, true, true, true, true, true, true, false, false, false, false, false, false, false, false, false, false, false, false, false, false, false, false, false, false, false, false]) rfl ?_
  refine WH.known (t := 36) (b := true) rfl (by rfl) ?_
  refine WH.freeG 10 (b := true) rfl (by kernel_rfl) (by kernel_rfl) (by kernel_rfl) rfl (fun _ => (fun _ hw => hw.it _ (by simp [atsA]))) rfl rfl rfl (OV.move rfl) rfl (listed' := [true, true, true, true, true, true, true, true, true, true, true, false, false, false, false, false, false, false, false, false, false, false, false, false, false, false, false, false, false, false]) rfl ?_
  refine WH.freeG 11 (b := true) rfl (by kernel_rfl) (by kernel_rfl) (by kernel_rfl) rfl (fun _ => (fun _ hw => hw.it _ (by simp [atsA]))) rfl rfl rfl (OV.eql rfl rfl) rfl (listed' := [true, true, true, true, true, true, true, true, true, true, true, true, false, false, false, false, false, false, false, false, false, false, false, false, false, false, false, false, false, false]) rfl ?_
  refine WH.free 12 rfl (by kernel_rfl) (by kernel_rfl) (by kernel_rfl) rfl (fun _ => (fun _ hw => hw.it _ (by simp [atsA]))) (OV.pickT rfl rfl) rfl (listed' := [true, true, true, true, true, true, true, true, true, true, true, true, true, false, false, false, false, false, false, false, false, false, false, false, false, false, false, false, false, false]) rfl ?_
  refine WH.free 13 rfl (by kernel_rfl) (by kernel_rfl) (by kernel_rfl) rfl (fun _ => (fun _ hw => hw.it _ (by simp [atsA]))) (OV.move rfl) rfl (listed' := [true, true, true, true, true, true, true, true, true, true, true, true, true, true, false, false, false, false, false, false, false, false, false, false, false, false, false, false, false, false]) rfl ?_
  refine WH.known (t := 40) (b := true) rfl (by rfl) ?_
  refine WH.freeG 14 (b := true) rfl (by kernel_rfl) (by kernel_rfl) (by kernel_rfl) rfl (fun _ => (fun _ hw => hw.it _ (by simp [atsA]))) rfl rfl rfl (OV.move rfl) rfl (listed' := [true, true, true, true, true, true, true, true, true, true, true, true, true, true, true, false, false, false, false, false, false, false, false, false, false, false, false, false, false, false]) rfl ?_
  refine WH.freeG 15 (b := true) rfl (by kernel_rfl) (by kernel_rfl) (by kernel_rfl) rfl (fun _ => (fun _ hw => hw.it _ (by simp [atsA]))) rfl rfl rfl (OV.eql rfl rfl) rfl (listed' := [true, true, true, true, true, true, true, true, true, true, true, true, true, true, true, true, false, false, false, false, false, false, false, false, false, false, false, false, false, false]) rfl ?_
  refine WH.free 16 rfl (by kernel_rfl) (by kernel_rfl) (by kernel_rfl) rfl (fun _ => (fun _ hw => hw.it _ (by simp [atsA]))) (OV.pickT rfl rfl) rfl (listed' := [true, true, true, true, true, true, true, true, true, true, true, true, true, true, true, true, true, false, false, false, false, false, false, false, false, false, false, false, false, false]) rfl ?_
  refine WH.free 17 rfl (by kernel_rfl) (by kernel_rfl) (by kernel_rfl) rfl (fun _ => (fun _ hw => hw.it _ (by simp [atsA]))) (OV.move rfl) rfl (listed' := [true, true, true, true, true, true, true, true, true, true, true, true, true, true, true, true, true, true, false, false, false, false, false, false, false, false, false, false, false, false]) rfl ?_
  refine WH.known (t := 44) (b := true) rfl (by rfl) ?_
  refine WH.freeG 18 (b := true) rfl (by kernel_rfl) (by kernel_rfl) (by kernel_rfl) rfl (fun _ => (fun _ hw => hw.it _ (by simp [atsA]))) rfl rfl rfl (OV.move rfl) rfl (listed' := [true, true, true, true, true, true, true, true, true, true, true, true, true, true, true, true, true, true, true, false, false, false, false, false, false, false, false, false, false, false]) rfl ?_
  first
  | (refine WH.freeG 19 (b := true) rfl (by kernel_rfl) (by kernel_rfl) (by kernel_rfl) rfl (fun _ => (fun _ hw => hw.it _ (by simp [atsA]))) rfl rfl rfl (OV.lenSlice rfl T.u27) rfl (listed' := [true, true, true, true, true, true, true, true, true, true, true, true, true, true, true, true, true, true, true, true, false, false, false, false, false, false, false, false, false, false]) rfl ?_)
  | (refine WH.freeG 19 (b := true) rfl (by kernel_rfl) (by kernel_rfl) (by kernel_rfl) rfl (fun _ => (fun _ hw => hw.it _ (by simp [atsA]))) rfl rfl rfl (OV.lenStr rfl T.u27) rfl (listed' := [true, true, true, true, true, true, true, true, true, true, true, true, true, true, true, true, true, true, true, true, false, false, false, false, false, false, false, false, false, false]) rfl ?_)
  refine WH.freeG 20 (b := true) rfl (by kernel_rfl) (by kernel_rfl) (by kernel_rfl) rfl (fun _ => (fun _ hw => hw.it _ (by simp [atsA]))) rfl rfl rfl (OV.eql rfl rfl) rfl (listed' := [true, true, true, true, true, true, true, true, true, true, true, true, true, true, true, true, true, true, true, true, true, false, false, false, false, false, false, false, false, false]) rfl ?_
  refine WH.free 21 rfl (by kernel_rfl) (by kernel_rfl) (by kernel_rfl) rfl (fun _ => (fun _ hw => hw.it _ (by simp [atsA]))) (OV.pickT rfl rfl) rfl (listed' := [true, true, true, true, true, true, true, true, true, true, true, true, true, true, true, true, true, true, true, true, true, true, false, false, false, false, false, false, false, false]) rfl ?_
  refine WH.free 22 rfl (by kernel_rfl) (by kernel_rfl) (by kernel_rfl) rfl (fun _ => (fun _ hw => hw.it _ (by simp [atsA]))) (OV.move rfl) rfl (listed' := [true, true, true, true, true, true, true, true, true, true, true, true, true, true, true, true, true, true, true, true, true, true, true, false, false, false, false, false, false, false]) rfl ?_
  refine WH.known (t := 49) (b := true) rfl (by rfl) ?_
  refine WH.freeG 23 (b := true) rfl (by kernel_rfl) (by kernel_rfl) (by kernel_rfl) rfl (fun _ => (fun _ hw => hw.it _ (by simp [atsA]))) rfl rfl rfl (OV.move rfl) rfl (listed' := [true, true, true, true, true, true, true, true, true, true, true, true, true, true, true, true, true, true, true, true, true, true, true, true, false, false, false, false, false, false]) rfl ?_
  obtain ⟨q, hq⟩ := hza
  refine WH.freeG 24 (b := true) rfl (by kernel_rfl) (by kernel_rfl) (by kernel_rfl) rfl (fun _ => (fun _ hw => hw.it _ (by simp [atsA]))) rfl rfl rfl ((OV.indexSlice (show _ = some (Value.slice (some ⟨q, 0, none⟩) 1 z.c) by rw [← hq]; rfl) rfl T.u27 T.z34 (by omega)).cast (u := .pointer (some ((⟨q, 0, none⟩ : Addr).add (0 * 5)))) rfl) rfl (listed' := [true, true, true, true, true, true, true, true, true, true, true, true, true, true, true, true, true, true, true, true, true, true, true, true, true, false, false, false, false, false]) rfl ?_
  refine WH.takeG 25 (b := true) rfl (by kernel_rfl) (by kernel_rfl) (by kernel_rfl) (by kernel_rfl) (fun _ hw => hw.it _ (by simp [atsA])) rfl rfl rfl (OV.loadN (cs := agC y) rfl T.u34 rfl T.z34 (fun _ hw j v hj => by have h := row_cellsφE hq hw j v (by rw [hy]; simpa using hj); rwa [Nat.zero_mul, addr_add0])) rfl (listed' := [true, true, true, true, true, true, true, true, true, true, true, true, true, true, true, true, true, true, true, true, true, true, true, true, true, true, false, false, false, false]) rfl ?_
  refine WH.only 26 rfl (by kernel_rfl) (listed' := [true, true, true, true, true, true, true, true, true, true, true, true, true, true, true, true, true, true, true, true, true, true, true, true, true, true, true, false, false, false]) rfl (fl' := false) rfl ?_
  refine WL.go (b := true) rfl rfl rfl ?_
  refine WL.callTA (ι := Nat) (vs := [.int .i64 5]) (vv := fun b => atV (factP 5) (some ⟨b, 0, none⟩) 1) (pp := fun _ => True) [] (AA := fun b => [own b (.cells (tmC ⟨1, 5, E0⟩).toArray 31 (0, 0))]) rfl (by kernel_rfl) rfl rfl (fun w' hw' _ => (lfact_calls 5 w').mono (fun en w'' ⟨b, h1, h2⟩ => ⟨b, h1, trivial, h2⟩)) ?_
  rintro f3 _
  refine WL.nil ?_
  refine WX.contD (by kernel_rfl) (fun _ => (fun _ hw => hw.it _ (by simp [atsA]))) ?_
  refine WH.only 27 rfl (by kernel_rfl) (listed' := [true, true, true, true, true, true, true, true, true, true, true, true, true, true, true, true, true, true, true, true, true, true, true, true, true, true, true, true, false, false]) rfl (fl' := false) rfl ?_
  refine WL.go (b := true) rfl rfl rfl ?_
  refine WL.call0 (v := .bool true) (vs := [atV y.x y.a y.c, atV (factP 5) (some ⟨f3, 0, none⟩) 1]) (by kernel_rfl) rfl rfl (fun w' hw' => (sameAtom_calls y.x (factP 5) y.a (some ⟨f3, 0, none⟩) y.c 1 (by rw [hyx]; decide) (by decide) w' (RT.of_row (c := y.c) rfl hw' (by simp [atsA, hy, argsA])) (RT.of_own hw' (.head _))).mono (fun en w'' ⟨h1, h2⟩ => ⟨by rw [h1, hyx, decide_eq_true rfl], h2⟩)) ?_
  refine WL.nil ?_
  refine WX.contD (by kernel_rfl) (fun _ => (fun _ hw => hw.it _ (by simp [atsA]))) ?_
  refine WH.free 28 rfl (by kernel_rfl) (by kernel_rfl) (by kernel_rfl) rfl (fun _ => (fun _ hw => hw.it _ (by simp [atsA]))) (OV.pickT rfl rfl) rfl (listed' := [true, true, true, true, true, true, true, true, true, true, true, true, true, true, true, true, true, true, true, true, true, true, true, true, true, true, true, true, true, false]) rfl ?_
  refine WH.free 29 rfl (by kernel_rfl) (by kernel_rfl) (by kernel_rfl) rfl (fun _ => (fun _ hw => hw.it _ (by simp [atsA]))) (OV.assign rfl) rfl (listed' := [true, true, true, true, true, true, true, true, true, true, true, true, true, true, true, true, true, true, true, true, true, true, true, true, true, true, true, true, true, true]) rfl ?_
  refine WH.done (by kernel_rfl) ?_
  refine WX.next ?_
  refine WC.ret ?_
  exact WX.ret1 rfl rfl rfl (fun w' hw => ⟨rfl, hw.fr⟩)

end Go.Proofs.YtgiiifadbnpfkaaGreatDoor

namespace Go.Proofs.YtgiiifadbnpfkaaGreatDoor
open Go Go.Hw
set_option linter.unusedSimpArgs false
set_option linter.unusedVariables false
/-! ### Rounds of atoms, as they were handed in -/
structure RG where
  ys : List AG
  a : Option Addr
  c : Nat
/-- A list of lists of atoms. -/
structure RR (w : World) (a : Option Addr) (rs : List RG) : Prop where
  nil : a = none → rs.length = 0
  at_ : ∀ q, a = some q → ∀ i r, rs[i]? = some r → w.cell? (q.add i) = some (.slice r.a r.ys.length r.c)
  each : ∀ r ∈ rs, RA w r.a r.ys
theorem RR.get {w : World} {a : Option Addr} {rs : List RG} (h : RR w a rs) {i : Nat} (hi : i < rs.length) : ∃ q r, a = some q ∧ rs[i]? = some r ∧ r ∈ rs ∧ RA w r.a r.ys ∧ w.cell? (q.add i) = some (.slice r.a r.ys.length r.c) := by
  cases a with
  | none => have := h.nil rfl; omega
  | some q => exact ⟨q, rs[i], rfl, List.getElem?_eq_getElem hi, List.getElem_mem hi, h.each _ (List.getElem_mem hi), h.at_ q rfl i _ (List.getElem?_eq_getElem hi)⟩
theorem BS.mono {g : BaseG} {k m : Nat} {F : List (At × Nat)} (b : BS g k F) (h : k ≤ m) : BS g m F := ⟨b.ok, b.fs, by have := b.vk; omega, by have := b.rk; omega, by have := b.fk; omega⟩
theorem addF_not {F : List (At × Nat)} {x : At} (h : factB x = false) : addF F x = F := by
  unfold addF; rw [if_neg (fun k => by rw [h] at k; cases k.1)]
theorem drop_cons {α : Type} {l : List α} {j : Nat} {x : α} (h : l[j]? = some x) : l.drop j = x :: l.drop (j + 1) := by
  obtain ⟨hj, rfl⟩ := List.getElem?_eq_some_iff.1 h
  exact List.drop_eq_getElem_cons hj

end Go.Proofs.YtgiiifadbnpfkaaGreatDoor

namespace Go.Proofs.YtgiiifadbnpfkaaGreatDoor
open Go Go.Hw
set_option linter.unusedSimpArgs false
set_option linter.unusedVariables false
section
open Go.ChangeShapes Go.WideShapes Go.ChangeAt Go.RowKit
variable {H : Type} {enc : TypeId × Value → H} {w : World} {base : Nat} {spare : Nat → Bool} {held : Bool} {r : Reach} {b0 : Nat}
def inI (k : Int) : Prop := -9223372036854775808 ≤ k ∧ k ≤ 9223372036854775807
theorem getD_at {α : Type} {l : List α} {i : Nat} {x d : α} (h : l[i]? = some x) : l.getD i d = x := by rw [List.getD_eq_getElem?_getD, h]; rfl
theorem len_wt {α : Type} (wt : α → Nat) {k : Nat} (h : ∀ y, k ≤ wt y) (ys : List α) : k * ys.length ≤ (ys.map wt).sum := by
  induction ys with
  | nil => simp
  | cons x ys ih => have := h x; simp only [List.map_cons, List.sum_cons, List.length_cons]; rw [Nat.mul_add]; omega
theorem bulk_sum {α : Type} (dflt : α) (wt : α → Nat) : ∀ (elems : List (DataW H)) (ys : List α), elems.length = ys.length → (∀ i d, elems[i]? = some d → wt (ys.getD i dflt) ≤ Rows.uptoBulk d) → (ys.map wt).sum ≤ Rows.uptoBulkAll elems
  | [], [], _, _ => by simp [Rows.uptoBulkAll]
  | [], _ :: _, h, _ => by simp at h
  | _ :: _, [], h, _ => by simp at h
  | d :: elems, y :: ys, h, hd => by
    have h1 := hd 0 d rfl
    have h2 := bulk_sum dflt wt elems ys (by simpa using h) (fun i d hi => hd (i + 1) d hi)
    simp only [List.getD_cons_zero] at h1
    simp only [List.map_cons, List.sum_cons, Rows.uptoBulkAll]
    omega
/-- A list of things of s cells each. -/
theorem trod_listN {α : Type} (dflt : α) {tt t : TypeId} {s : Nat} {fuel : Nat} {cs : List Value} {x : DataW H × List MemPlace} (htt : Program.underlying Tryz.prog tt = some (.slice t)) (hs : Program.cellsOf Tryz.prog t = s) (en : α → List Value) (hl : ∀ y, (en y).length = s) (G : α → Prop) (wt : α → Nat)
    (hel : ∀ fuel cs x, DataW.trod enc Tryz.prog w base spare held fuel t cs = some x → ∃ y, cs = en y ∧ G y ∧ wt y ≤ Rows.uptoBulk x.1) (h : DataW.trod enc Tryz.prog w base spare held fuel tt cs = some x) :
    ∃ a c, ∃ ys : List α, cs = [.slice a ys.length c] ∧ (a = none → ys.length = 0) ∧ (∀ q, a = some q → ∀ i y, ys[i]? = some y → ∀ j v, (en y)[j]? = some v → w.cell? ((q.add (i * s)).add j) = some v) ∧ (∀ y ∈ ys, G y) ∧ (ys.map wt).sum + 1 ≤ Rows.uptoBulk x.1 := by
  rcases DataW.trod_slice htt h with ⟨rfl, rfl⟩ | ⟨a, len, cap, elems, rest, n, rfl, rfl, rfl, hb, hlc, hcm, hlen, hele, _, _⟩
  · exact ⟨none, 0, [], rfl, fun _ => rfl, (fun q hq => (by cases hq)), (fun y hy => by cases hy), by simp [Rows.uptoBulk]⟩
  · have key : ∀ i, i < len → ∃ y : α, ((∀ j v, (en y)[j]? = some v → w.cell? ((a.add (i * s)).add j) = some v) ∧ G y) ∧ ∀ d, (elems.map (·.1))[i]? = some d → wt y ≤ Rows.uptoBulk d := by
      intro i hi
      have h3 := hele i hi
      rw [hs] at h3
      have h4 : i < elems.length := by omega
      rw [List.getElem?_eq_getElem h4] at h3
      obtain ⟨us, hus, h5⟩ := Option.bind_eq_some_iff.1 h3
      obtain ⟨y, rfl, h6, h7⟩ := hel _ _ _ h5
      have h8 := (World.cells?_some hus).2.2
      refine ⟨y, ⟨fun j v hj => ?_, h6⟩, fun d hd => ?_⟩
      · have hj7 : j < s := by have := (List.getElem?_eq_some_iff.1 hj).1; rw [hl] at this; exact this
        rw [h8 j hj7]; exact hj
      · rw [List.getElem?_map, List.getElem?_eq_getElem h4] at hd
        simp only [Option.map_some, Option.some.injEq] at hd
        rw [← hd]; exact h7
    obtain ⟨ys, hyl, hq⟩ := exists_list dflt _ len key
    refine ⟨some a, cap, ys, by rw [hyl], fun h => (by cases h), fun q hq' i y hy => ?_, fun y hy => ?_, ?_⟩
    · simp only [Option.some.injEq] at hq'
      subst hq'
      have hi : i < len := by have := (List.getElem?_eq_some_iff.1 hy).1; omega
      have h9 := (hq i hi).1.1
      rwa [getD_at hy] at h9
    · obtain ⟨i, hi⟩ := List.mem_iff_getElem?.1 hy
      have hil : i < len := by have := (List.getElem?_eq_some_iff.1 hi).1; omega
      have h9 := (hq i hil).1.2
      rwa [getD_at hi] at h9
    · have := bulk_sum dflt wt (elems.map (·.1)) ys (by simp [hyl, hlen]) (fun i d hd => by
        have hi : i < len := by have := (List.getElem?_eq_some_iff.1 hd).1; simp at this; omega
        exact (hq i hi).2 d hd)
      simp only [Rows.uptoBulk]; omega
theorem inI_of {n : Int} (h : (Lit.int .i64 n).wf = true) : inI n := by simpa [inI, Lit.wf, IntKind.min, IntKind.max, IntKind.signed, IntKind.bits] using h
/-- A term's weight. -/
def wtT (t : Tm) : Nat := t.s.size + 4
set_option maxRecDepth 100000 in
theorem trod_term {fuel : Nat} {cs : List Value} {x : DataW H × List MemPlace} (h : DataW.trod enc Tryz.prog w base spare held fuel 31 cs = some x) :
    ∃ t : Tm, cs = tmC t ∧ (inI t.kind ∧ inI t.n) ∧ wtT t ≤ Rows.uptoBulk x.1 ∧ x.1 = .agg [.lit (.int .i64 t.kind), .lit (.int .i64 t.n), .lit (.string t.s.data.toList)] := by
  obtain ⟨xs, n, rfl, rfl, hl, hxs, hf⟩ := DataW.trod_struct T.u31 h
  have hl3 : cs.length = 3 := by rw [hl]; kernel_rfl
  have cI : Program.cellsOf Tryz.prog 3 = 1 := by kernel_rfl
  have cS : Program.cellsOf Tryz.prog 9 = 1 := by kernel_rfl
  match cs, hl3 with
  | [v0, v1, v2], _ =>
    match xs, hxs with
    | [x0, x1, x2], _ =>
      have k0 : DataW.trod enc Tryz.prog w base spare held n 3 [v0] = some x0 := by
        have k : DataW.trod enc Tryz.prog w base spare held n 3 (List.take (Program.cellsOf Tryz.prog 3) (List.drop 0 [v0, v1, v2])) = some x0 := hf 0 _ rfl
        rw [cI] at k; exact k
      have k1 : DataW.trod enc Tryz.prog w base spare held n 3 [v1] = some x1 := by
        have k : DataW.trod enc Tryz.prog w base spare held n 3 (List.take (Program.cellsOf Tryz.prog 3) (List.drop 1 [v0, v1, v2])) = some x1 := hf 1 _ rfl
        rw [cI] at k; exact k
      have k2 : DataW.trod enc Tryz.prog w base spare held n 9 [v2] = some x2 := by
        have k : DataW.trod enc Tryz.prog w base spare held n 9 (List.take (Program.cellsOf Tryz.prog 9) (List.drop 2 [v0, v1, v2])) = some x2 := hf 2 _ rfl
        rw [cS] at k; exact k
      obtain ⟨kind, e0, rfl, w0⟩ := DataW.trod_int T.u3 k0
      obtain ⟨num, e1, rfl, w1⟩ := DataW.trod_int T.u3 k1
      obtain ⟨s, e2, rfl, w2⟩ := DataW.trod_string T.u9 k2
      simp only [List.cons.injEq, and_true] at e0 e1 e2
      subst e0; subst e1; subst e2
      refine ⟨⟨kind, num, s⟩, rfl, ⟨inI_of w0, inI_of w1⟩, ?_, rfl⟩
      simp only [List.map_cons, List.map_nil, Rows.uptoBulk, Rows.uptoBulkAll, wtT]
      have : s.data.toList.length = s.size := by simp
      omega
/-- An atom's weight. -/
def wtA (y : AG) : Nat := y.x.name.size + y.x.args.length + 7
set_option maxRecDepth 100000 in
theorem trod_atom {fuel : Nat} {cs : List Value} {x : DataW H × List MemPlace} (h : DataW.trod enc Tryz.prog w base spare held fuel 34 cs = some x) :
    ∃ y : AG, cs = agC y ∧ RT w y.a y.x.args ∧ wtA y ≤ Rows.uptoBulk x.1 := by
  obtain ⟨xs, n, rfl, rfl, hl, hxs, hf⟩ := DataW.trod_struct T.u34 h
  have hl5 : cs.length = 5 := by rw [hl]; kernel_rfl
  have cT : Program.cellsOf Tryz.prog 31 = 3 := by kernel_rfl
  have cS : Program.cellsOf Tryz.prog 9 = 1 := by kernel_rfl
  have cL : Program.cellsOf Tryz.prog 32 = 1 := by kernel_rfl
  match cs, hl5 with
  | [v0, v1, v2, v3, v4], _ =>
    match xs, hxs with
    | [x0, x1, x2], _ =>
      have k0 : DataW.trod enc Tryz.prog w base spare held n 31 [v0, v1, v2] = some x0 := by
        have k : DataW.trod enc Tryz.prog w base spare held n 31 (List.take (Program.cellsOf Tryz.prog 31) (List.drop 0 [v0, v1, v2, v3, v4])) = some x0 := hf 0 _ rfl
        rw [cT] at k; exact k
      have k1 : DataW.trod enc Tryz.prog w base spare held n 9 [v3] = some x1 := by
        have k : DataW.trod enc Tryz.prog w base spare held n 9 (List.take (Program.cellsOf Tryz.prog 9) (List.drop 3 [v0, v1, v2, v3, v4])) = some x1 := hf 1 _ rfl
        rw [cS] at k; exact k
      have k2 : DataW.trod enc Tryz.prog w base spare held n 32 [v4] = some x2 := by
        have k : DataW.trod enc Tryz.prog w base spare held n 32 (List.take (Program.cellsOf Tryz.prog 32) (List.drop 4 [v0, v1, v2, v3, v4])) = some x2 := hf 2 _ rfl
        rw [cL] at k; exact k
      obtain ⟨t, e0, _, b0, _⟩ := trod_term k0
      obtain ⟨s, e1, rfl, w1⟩ := DataW.trod_string T.u9 k1
      obtain ⟨a, c, ts, e2, ha, hat, _, b2⟩ := trod_listN (default : Tm) T.u32 (by kernel_rfl) tmC tmC_len (fun _ => True) wtT (fun fuel cs x hx => by
        obtain ⟨t, e, _, hb, _⟩ := trod_term hx
        exact ⟨t, e, trivial, hb⟩) k2
      simp only [tmC, List.cons.injEq, and_true] at e0 e1 e2
      obtain ⟨rfl, rfl, rfl⟩ := e0
      subst e1; subst e2
      refine ⟨⟨⟨t, s, ts⟩, a, c⟩, rfl, ⟨ha, hat⟩, ?_⟩
      have h1 := len_wt wtT (k := 1) (fun y => by unfold wtT; omega) ts
      have h2 : s.data.toList.length = s.size := by simp
      unfold wtT at b0
      simp only [List.map_cons, List.map_nil, Rows.uptoBulk, Rows.uptoBulkAll, wtA]
      omega
theorem le_sum {α : Type} (wt : α → Nat) {ys : List α} {y : α} (h : y ∈ ys) : wt y ≤ (ys.map wt).sum := by
  induction ys with
  | nil => cases h
  | cons x ys ih =>
    rw [List.map_cons, List.sum_cons]
    rcases List.mem_cons.1 h with rfl | h
    · omega
    · have := ih h; omega
/-- term.none, as the row lays it. -/
theorem none_laid {fuel : Nat} {cs : Array Value} {q : List MemPlace} (hg : Program.globalNamed Tryz.prog "hearsay/term.none" = some 1) (hv : w.var? Tryz.prog "hearsay/term.none" = some cs) (hd : DataW.trod enc Tryz.prog w base spare held fuel 31 cs.toList = some (Rows.laid_hearsay_term_none, q)) : NoneAt w := by
  obtain ⟨t, e, _, _, ht⟩ := trod_term hd
  have ht0 : t = T0 := by
    simp only [Rows.laid_hearsay_term_none, DataW.agg.injEq, List.cons.injEq, DataW.lit.injEq, Lit.int.injEq, true_and, Lit.string.injEq, and_true] at ht
    obtain ⟨h1, h2, h3⟩ := ht
    obtain ⟨k, n, s⟩ := t
    simp only at h1 h2 h3
    subst h1; subst h2
    have : s = E0 := by
      obtain ⟨⟨l⟩⟩ := s
      have h4 : ([] : List UInt8) = l := h3
      subst h4; rfl
    rw [this]; rfl
  intro j v hj
  rw [World.var?_cell hg hv j, ← Array.getElem?_toList, e, ht0]
  exact hj
end

end Go.Proofs.YtgiiifadbnpfkaaGreatDoor

namespace Go.Proofs.YtgiiifadbnpfkaaGreatDoor
open Go Go.Hw
set_option linter.unusedSimpArgs false
set_option linter.unusedVariables false
structure IG where
  y : AG
  p : Nat
def igC (i : IG) : List Value := agC i.y ++ [.int .i64 (i.p : Int)]
theorem igC_len (i : IG) : (igC i).length = 6 := rfl
theorem igC_one (i : IG) : ∀ v ∈ igC i, v.oneCell' = true := by simp [igC, agC, atC, Value.oneCell']
theorem ig_left {i : IG} {j : Nat} {v : Value} (h : (agC i.y)[j]? = some v) : (igC i)[j]? = some v := by
  have hj := (List.getElem?_eq_some_iff.1 h).1
  unfold igC
  rw [List.getElem?_append_left hj]; exact h
abbrev rowIt (la : Option Addr) (lc : Nat) (is : List IG) : Hw.Item := row 36 6 la is.length lc (is.flatMap igC)
def itsA (la : Option Addr) (lc : Nat) (is : List IG) : List Hw.Item := rowIt la lc is :: argsA (is.map IG.y)
/-- Items that lie one behind the other. -/
structure RIt (w : World) (a : Option Addr) (is : List IG) : Prop where
  nil : a = none → is.length = 0
  at_ : ∀ q, a = some q → ∀ i y, is[i]? = some y → ∀ j v, (igC y)[j]? = some v → w.cell? ((q.add (i * 6)).add j) = some v
  args : ∀ i ∈ is, RT w i.y.a i.y.x.args
theorem RIt.keeps {w w' : World} {a : Option Addr} {is : List IG} (h : RIt w a is) (k : Keeps w w') : RIt w' a is := ⟨h.nil, fun q hq i t ht j v hv => k _ _ (h.at_ q hq i t ht j v hv), fun y hy => (h.args y hy).keeps k⟩
theorem RIt.get {w : World} {a : Option Addr} {is : List IG} (h : RIt w a is) {i : Nat} (hi : i < is.length) : ∃ q y, a = some q ∧ is[i]? = some y ∧ y ∈ is ∧ RT w y.y.a y.y.x.args ∧ ∀ j v, (igC y)[j]? = some v → w.cell? ((q.add (i * 6)).add j) = some v := by
  cases a with
  | none => have := h.nil rfl; omega
  | some q => exact ⟨q, is[i], rfl, List.getElem?_eq_getElem hi, List.getElem_mem hi, h.args _ (List.getElem_mem hi), h.at_ q rfl i _ (List.getElem?_eq_getElem hi)⟩
theorem RIt.of_row {w0 ws w : World} {M I : Nat → Prop} {ow : List Hw.Item} {a : Option Addr} {c : Nat} {is : List IG} (hw : Sat w0 M I ws ow w) (hm : ∀ i ∈ itsA a c is, i ∈ ow) : RIt w a is := by
  have hr : rowIt a c is ∈ ow := hm _ (.head _)
  refine ⟨fun ha => ?_, fun q hq i t ht j v hv => ?_, fun y hy => RT.of_row (c := y.y.c) rfl hw (hm _ (.tail _ (List.mem_map.2 ⟨y.y, List.mem_map.2 ⟨y, hy, rfl⟩, rfl⟩)))⟩
  · rcases (row_base hw hr).2 with ⟨_, h, _⟩ | ⟨b, hb, _⟩
    · exact h
    · rw [ha] at hb; cases hb
  · subst hq
    have hj : j < 6 := (List.getElem?_eq_some_iff.1 hv).1
    have h1 := row_cells hw hr (i * 6 + j) v (by rw [flat_get igC_len is i j t ht hj]; exact hv)
    rwa [add_add] at h1
theorem _root_.Go.Hw.OV.fieldAddrA {P : Program} {n : Nat} {ds : DS} {e : Env} {S : World → Prop} {dst : Option Tmp} {t lt : TypeId} {p : String} {af : Array Edge} {x : Operand} {a : Addr} {f off s : Nat} {fs : Array Field} {g : Option (Nat × Bool)} (hx : ev e x = some (.pointer (some a))) (hu : P.underlying lt = some (.struct fs)) (hf : (fs[f]?).map (fun q => (q.offset, P.sz q.type)) = some (off, some (s + 1))) :
    OV P n ds e S ⟨dst, .fieldAddr lt x f, t, p, af, g⟩ (.pointer (some (a.add off))) := fun _ w ha _ => by
  obtain ⟨q, hq, h⟩ := Option.map_eq_some_iff.1 hf
  simp only [Prod.mk.injEq] at h
  simp [execOp, ha.eval hx, Instr.fieldAt, run_underlying hu, Instr.sureAddr, hq, fieldPlace, Hw.run_sizeOf h.2 w, h.1]
/-- Where an atom stands in a list; -1: nowhere. -/
def placeI (l : List At) (f : At) : Int := if f ∈ l then (l.idxOf f : Int) else -1
theorem idx_first : ∀ {l : List At} {i : Nat} {f : At}, l[i]? = some f → (∀ j, j < i → l[j]? ≠ some f) → l.idxOf f = i
  | [], _, _, h, _ => by simp at h
  | x :: l, 0, f, h, _ => by
    simp only [List.getElem?_cons_zero, Option.some.injEq] at h
    subst h; simp
  | x :: l, i + 1, f, h, hn => by
    have h0 : x ≠ f := fun e => hn 0 (by omega) (by rw [e]; rfl)
    have h1 := idx_first (l := l) (i := i) (f := f) (by simpa using h) (fun j hj => by simpa using hn (j + 1) (by omega))
    rw [List.idxOf_cons, beq_eq_false_iff_ne.2 h0, h1]; rfl
theorem placeI_at {l : List At} {i : Nat} {f : At} (h : l[i]? = some f) (hn : ∀ j, j < i → l[j]? ≠ some f) : placeI l f = (i : Int) := by
  unfold placeI
  rw [if_pos (List.mem_of_getElem? h), idx_first h hn]
theorem placeI_not {l : List At} {f : At} (h : f ∉ l) : placeI l f = -1 := by unfold placeI; rw [if_neg h]
theorem placeI_get {l : List At} {f : At} (h : f ∈ l) : ∃ i : Nat, placeI l f = (i : Int) ∧ i < l.length ∧ l[i]? = some f := by
  refine ⟨l.idxOf f, by unfold placeI; rw [if_pos h], List.idxOf_lt_length_iff.2 h, ?_⟩
  rw [List.getElem?_eq_getElem (List.idxOf_lt_length_iff.2 h)]
  exact congrArg some (List.getElem_idxOf _)
abbrev xsI (is : List IG) : List At := is.map fun i => i.y.x

set_option maxRecDepth 10000 in
theorem place_calls (ls : List IG) (a1 : Option Addr) (c1 : Nat) (f : At) (fa : Option Addr) (fc : Nat) (h1 : ls.length ≤ 1099511627776) (hb : ∀ i ∈ ls, i.y.x.args.length ≤ 1099511627776) (hf : f.args.length ≤ 1099511627776) (w : World) (hr1 : RIt w a1 ls) (hr2 : RT w fa f.args) : Calls Tryz.prog 16 #[.slice a1 ls.length c1, atV f fa fc] w fun e w' => e = .returned (.int .i64 (placeI (xsI ls) f)) ∧ Fr0 w w' := by
  refine enterS (args := [.slice a1 ls.length c1, atV f fa fc]) (fun _ => False) Tryz.func16 rfl Tryz.ntmps16 rfl rfl ?_
  refine WC.seq ?_
  refine WC.region ?_
  refine WL.box rfl rfl rfl ?_
  intro b3
  refine WL.val (OV.assign rfl) rfl ?_
  refine WL.nil ?_
  refine WX.next ?_
  refine WC.seq ?_
  refine WC.seq ?_
  refine WC.region ?_
  refine WL.val (OV.assign rfl) rfl ?_
  refine WL.nil ?_
  refine WX.next ?_
  refine WC.block ?_
  refine WC.loop1 (fun (i : Nat) => [(0, .slice a1 ls.length c1), (3, .pointer (some ⟨b3, 0, none⟩)), (5, .int .i64 (i : Int))])
      (fun i w' => (i ≤ ls.length ∧ ∀ j, j < i → (xsI ls)[j]? ≠ some f) ∧ Sat w (fun _ => False) (fun b => b < w.heap.size) w (own b3 (.cells (atC f fa fc).toArray 34 (0, 0)) :: []) w')
      (fun i => ls.length - i) 0 ⟨rfl, rfl, rfl, trivial⟩ (fun w' hw => ⟨⟨by omega, (fun j hj => by omega)⟩, hw⟩) ?_
  intro i
  refine WC.pure (fun hi => ?_)
  obtain ⟨hi, hnf⟩ := hi
  refine WC.seq ?_
  refine WC.seq ?_
  refine WC.region ?_
  refine WL.val (OV.move rfl) rfl ?_
  refine WL.val (OV.move rfl) rfl ?_
  first
  | (refine WL.val (OV.lenSlice rfl T.u24) rfl ?_)
  | (refine WL.val (OV.lenStr rfl T.u24) rfl ?_)
  refine WL.val (OV.lss rfl rfl) rfl ?_
  refine WL.nil ?_
  refine WX.next ?_
  refine WC.cond rfl (fun c9 => ?_) (fun c9 => ?_)
  · try simp only [decide_eq_true_eq, decide_eq_false_iff_not, Bool.not_eq_true', Bool.not_eq_false'] at c9
    refine WC.skip ?_
    refine WX.next ?_
    refine WC.seq ?_
    refine WC.block ?_
    refine WC.seq ?_
    refine WC.drawn (fun w' => Keeps w w' ∧ w'.heap[b3]? = some (.cells (atC f fa fc).toArray 34 (0, 0))) [] (by kernel_rfl) (by kernel_rfl) (m := 7) rfl ?_
    refine WH.free 0 rfl (by kernel_rfl) (by kernel_rfl) (by kernel_rfl) rfl (fun _ => (fun _ hw => ⟨hw.keeps, hw.it (own b3 _) (.head _)⟩)) (OV.move rfl) rfl (listed' := [true, false, false, false, false, false, false]) rfl ?_
    refine WH.free 1 rfl (by kernel_rfl) (by kernel_rfl) (by kernel_rfl) rfl (fun _ => (fun _ hw => ⟨hw.keeps, hw.it (own b3 _) (.head _)⟩)) (OV.move rfl) rfl (listed' := [true, true, false, false, false, false, false]) rfl ?_
    obtain ⟨q1, t1, rfl, ht1, hm1, hg1, hc1⟩ := hr1.get (i := i) (by omega)
    refine WH.free 2 rfl (by kernel_rfl) (by kernel_rfl) (by kernel_rfl) rfl (fun _ => (fun _ hw => ⟨hw.keeps, hw.it (own b3 _) (.head _)⟩)) ((OV.indexSlice rfl rfl T.u24 T.z36 (by omega)).cast (u := .pointer (some (q1.add (i * 6)))) (by rw [Int.toNat_natCast])) rfl (listed' := [true, true, true, false, false, false, false]) rfl ?_
    refine WH.free 3 rfl (by kernel_rfl) (by kernel_rfl) (by kernel_rfl) rfl (fun _ => (fun _ hw => ⟨hw.keeps, hw.it (own b3 _) (.head _)⟩)) ((OV.fieldAddrA (off := 0) rfl T.u36 rfl).cast (u := .pointer (some (q1.add (i * 6)))) (by rw [addr_add0])) rfl (listed' := [true, true, true, true, false, false, false]) rfl ?_
    refine WH.take 4 rfl (by kernel_rfl) (by kernel_rfl) (by kernel_rfl) (by kernel_rfl) (fun _ hw => ⟨hw.keeps, hw.it (own b3 _) (.head _)⟩) (OV.loadN (cs := agC t1.y) rfl T.u34 rfl T.z34 (fun _ hw j v hj => hw.1 _ _ (hc1 j v (ig_left hj)))) rfl (listed' := [true, true, true, true, true, false, false]) rfl ?_
    refine WH.take 5 rfl (by kernel_rfl) (by kernel_rfl) (by kernel_rfl) (by kernel_rfl) (fun _ hw => ⟨hw.keeps, hw.it (own b3 _) (.head _)⟩) (OV.loadN (cs := atC f fa fc) rfl T.u34 rfl T.z34 (fun _ hw j v hj => by rw [add_off]; exact heap_part hw.2 (o := 0) (cs' := atC f fa fc) rfl j v hj)) rfl (listed' := [true, true, true, true, true, true, false]) rfl ?_
    refine WH.only 6 rfl (by kernel_rfl) (listed' := [true, true, true, true, true, true, true]) rfl (fl' := false) rfl ?_
    refine WL.call0 (v := .bool (decide (t1.y.x = f))) (by kernel_rfl) rfl rfl (fun w' hw' => sameAtom_calls t1.y.x f t1.y.a fa t1.y.c fc (hb _ hm1) hf w' (hg1.keeps hw'.keeps) (hr2.keeps hw'.keeps)) ?_
    refine WL.nil ?_
    refine WX.contD (by kernel_rfl) (fun _ => (fun _ hw => ⟨hw.keeps, hw.it (own b3 _) (.head _)⟩)) ?_
    refine WH.done (by kernel_rfl) ?_
    refine WX.next ?_
    refine WC.cond rfl (fun c18 => ?_) (fun c18 => ?_)
    · try simp only [decide_eq_true_eq, decide_eq_false_iff_not, Bool.not_eq_true', Bool.not_eq_false'] at c18
      refine WC.seq ?_
      refine WC.region ?_
      refine WL.val (OV.move rfl) rfl ?_
      refine WL.val (OV.assign rfl) rfl ?_
      refine WL.nil ?_
      refine WX.next ?_
      refine WC.ret ?_
      refine WX.block_ret ?_
      refine WX.then_ret ?_
      refine WX.then_ret ?_
      refine WX.block_ret ?_
      refine WX.then_ret ?_
      exact WX.ret1 rfl rfl rfl (fun w' hw => ⟨by rw [placeI_at (i := i) (by rw [List.getElem?_map, ht1]; exact congrArg some (by simpa using c18)) hnf], hw.fr⟩)
    · try simp only [decide_eq_true_eq, decide_eq_false_iff_not, Bool.not_eq_true', Bool.not_eq_false'] at c18
      refine WC.skip ?_
      refine WX.block_normal ?_
      refine WX.next ?_
      refine WC.region ?_
      refine WL.val (OV.move rfl) rfl ?_
      refine WL.val (OV.addN (j := 1) rfl rfl (by omega)) rfl ?_
      refine WL.val (OV.assign rfl) rfl ?_
      refine WL.nil ?_
      have hg : ¬ t1.y.x = f := by simpa using c18
      exact WX.round1 (i + 1) ⟨rfl, rfl, rfl, trivial⟩ (fun w' hw => ⟨⟨by omega, fun j hj => by
        rcases Nat.lt_or_ge j i with h | h
        · exact hnf j h
        · rw [show j = i by omega, List.getElem?_map, ht1]
          exact fun e => hg (Option.some.inj e)⟩, hw⟩) (by show ls.length - (i + 1) < ls.length - i; omega)
  · try simp only [decide_eq_true_eq, decide_eq_false_iff_not, Bool.not_eq_true', Bool.not_eq_false'] at c9
    refine WC.exit ?_
    refine WX.then_exit ?_
    refine WX.then_exit ?_
    refine WX.block_hit ?_
    refine WX.next ?_
    refine WC.seq ?_
    refine WC.region ?_
    refine WL.val (OV.assign rfl) rfl ?_
    refine WL.nil ?_
    refine WX.next ?_
    refine WC.ret ?_
    have hno : f ∉ xsI ls := fun hm => by
      obtain ⟨j, hj⟩ := List.mem_iff_getElem?.1 hm
      have := (List.getElem?_eq_some_iff.1 hj).1
      simp only [List.length_map] at this
      exact hnf j (by omega) hj
    exact WX.ret1 rfl rfl rfl (fun w' hw => ⟨by rw [placeI_not hno], hw.fr⟩)

set_option maxRecDepth 10000 in
theorem rises_calls (ls : List AG) (a1 : Option Addr) (c1 : Nat) (h1 : ls.length ≤ 1099511627776) (hb : ∀ y ∈ ls, y.x.args.length ≤ 1099511627776) (hup : ∀ i x y, (ls.map AG.x)[i]? = some x → (ls.map AG.x)[i + 1]? = some y → cmpA x y < 0) (w : World) (hr1 : RA w a1 ls) : Calls Tryz.prog 15 #[.slice a1 ls.length c1] w fun e w' => e = .returned (.bool true) ∧ Fr0 w w' := by
  refine enterS (args := [.slice a1 ls.length c1]) (fun _ => False) Tryz.func15 rfl Tryz.ntmps15 rfl rfl ?_
  refine WC.seq ?_
  refine WC.region ?_
  refine WL.val (OV.assign rfl) rfl ?_
  refine WL.nil ?_
  refine WX.next ?_
  refine WC.seq ?_
  refine WC.seq ?_
  refine WC.region ?_
  refine WL.val (OV.assign rfl) rfl ?_
  refine WL.nil ?_
  refine WX.next ?_
  refine WC.block ?_
  refine WC.loop1 (fun (i : Nat) => [(0, .slice a1 ls.length c1), (3, .int .i64 (i : Int))])
      (fun i w' => 1 ≤ i ∧ Sat w (fun _ => False) (fun b => b < w.heap.size) w ([]) w')
      (fun i => ls.length - i) 1 ⟨rfl, rfl, trivial⟩ (fun w' hw => ⟨by omega, hw⟩) ?_
  intro i
  refine WC.pure (fun hi => ?_)
  refine WC.seq ?_
  refine WC.seq ?_
  refine WC.region ?_
  refine WL.val (OV.move rfl) rfl ?_
  refine WL.val (OV.move rfl) rfl ?_
  first
  | (refine WL.val (OV.lenSlice rfl T.u27) rfl ?_)
  | (refine WL.val (OV.lenStr rfl T.u27) rfl ?_)
  refine WL.val (OV.lss rfl rfl) rfl ?_
  refine WL.nil ?_
  refine WX.next ?_
  refine WC.cond rfl (fun c7 => ?_) (fun c7 => ?_)
  · try simp only [decide_eq_true_eq, decide_eq_false_iff_not, Bool.not_eq_true', Bool.not_eq_false'] at c7
    refine WC.skip ?_
    refine WX.next ?_
    refine WC.seq ?_
    refine WC.block ?_
    refine WC.seq ?_
    refine WC.quietS (by kernel_rfl) (by kernel_rfl) (m := 11) rfl ?_
    refine WH.free 0 rfl (by kernel_rfl) (by kernel_rfl) (by kernel_rfl) rfl (fun _ => (fun _ h => h)) (OV.move rfl) rfl (listed' := [true, false, false, false, false, false, false, false, false, false, false]) rfl ?_
    refine WH.free 1 rfl (by kernel_rfl) (by kernel_rfl) (by kernel_rfl) rfl (fun _ => (fun _ h => h)) (OV.move rfl) rfl (listed' := [true, true, false, false, false, false, false, false, false, false, false]) rfl ?_
    first
    | (refine WH.free 2 rfl (by kernel_rfl) (by kernel_rfl) (by kernel_rfl) rfl (fun _ => (fun _ h => h)) (OV.subN (j := 1) rfl rfl (wrap_i64 (by omega)) (by omega)) rfl (listed' := [true, true, true, false, false, false, false, false, false, false, false]) rfl ?_)
    | (refine WH.free 2 rfl (by kernel_rfl) (by kernel_rfl) (by kernel_rfl) rfl (fun _ => (fun _ h => h)) (OV.subI rfl rfl (by omega)) rfl (listed' := [true, true, true, false, false, false, false, false, false, false, false]) rfl ?_)
    | (refine WH.free 2 rfl (by kernel_rfl) (by kernel_rfl) (by kernel_rfl) rfl (fun _ => (fun _ h => h)) (OV.sub rfl rfl) rfl (listed' := [true, true, true, false, false, false, false, false, false, false, false]) rfl ?_)
    obtain ⟨q1, t1, hq1, ht1, hm1, hg1, hc1⟩ := hr1.get (i := i - 1) (by omega)
    obtain ⟨q2, t2, hq2, ht2, hm2, hg2, hc2⟩ := hr1.get (i := i) (by omega)
    refine WH.free 3 rfl (by kernel_rfl) (by kernel_rfl) (by kernel_rfl) rfl (fun _ => (fun _ h => h)) ((OV.indexSlice (show _ = some (Value.slice (some q1) ls.length c1) by rw [← hq1]; rfl) rfl T.u27 T.z34 (by omega)).cast (u := .pointer (some (q1.add ((i - 1) * 5)))) (by rw [Int.toNat_natCast])) rfl (listed' := [true, true, true, true, false, false, false, false, false, false, false]) rfl ?_
    refine WH.take 4 rfl (by kernel_rfl) (by kernel_rfl) (by kernel_rfl) (by kernel_rfl) (fun _ h => h) (OV.loadN (cs := agC t1) rfl T.u34 rfl T.z34 (fun _ hw j v hj => hw.keeps _ _ (hc1 j v hj))) rfl (listed' := [true, true, true, true, true, false, false, false, false, false, false]) rfl ?_
    refine WH.free 5 rfl (by kernel_rfl) (by kernel_rfl) (by kernel_rfl) rfl (fun _ => (fun _ h => h)) (OV.move rfl) rfl (listed' := [true, true, true, true, true, true, false, false, false, false, false]) rfl ?_
    refine WH.free 6 rfl (by kernel_rfl) (by kernel_rfl) (by kernel_rfl) rfl (fun _ => (fun _ h => h)) (OV.move rfl) rfl (listed' := [true, true, true, true, true, true, true, false, false, false, false]) rfl ?_
    refine WH.free 7 rfl (by kernel_rfl) (by kernel_rfl) (by kernel_rfl) rfl (fun _ => (fun _ h => h)) ((OV.indexSlice (show _ = some (Value.slice (some q2) ls.length c1) by rw [← hq2]; rfl) rfl T.u27 T.z34 (by omega)).cast (u := .pointer (some (q2.add (i * 5)))) (by rw [Int.toNat_natCast])) rfl (listed' := [true, true, true, true, true, true, true, true, false, false, false]) rfl ?_
    refine WH.take 8 rfl (by kernel_rfl) (by kernel_rfl) (by kernel_rfl) (by kernel_rfl) (fun _ h => h) (OV.loadN (cs := agC t2) rfl T.u34 rfl T.z34 (fun _ hw j v hj => hw.keeps _ _ (hc2 j v hj))) rfl (listed' := [true, true, true, true, true, true, true, true, true, false, false]) rfl ?_
    refine WH.only 9 rfl (by kernel_rfl) (listed' := [true, true, true, true, true, true, true, true, true, true, false]) rfl (fl' := false) rfl ?_
    refine WL.call0 (v := .int .i64 (cmpA t1.x t2.x)) (by kernel_rfl) rfl rfl (fun w' hw' => cmpA_calls t1.x t2.x t1.a t2.a t1.c t2.c (hb _ hm1) (hb _ hm2) w' (hg1.keeps hw'.keeps) (hg2.keeps hw'.keeps)) ?_
    refine WL.nil ?_
    refine WX.contD (by kernel_rfl) (fun _ => (fun _ h => h)) ?_
    refine WH.free 10 rfl (by kernel_rfl) (by kernel_rfl) (by kernel_rfl) rfl (fun _ => (fun _ h => h)) (OV.geq rfl rfl) rfl (listed' := [true, true, true, true, true, true, true, true, true, true, true]) rfl ?_
    refine WH.done (by kernel_rfl) ?_
    refine WX.next ?_
    refine WC.condF (show _ = some (Value.bool false) from by exact congrArg (fun b => some (Value.bool b)) (by have h := hup (i - 1) t1.x t2.x (by rw [List.getElem?_map, ht1]; rfl) (by rw [List.getElem?_map, show i - 1 + 1 = i by omega, ht2]; rfl); rw [decide_eq_false]; omega)) ?_
    refine WC.skip ?_
    refine WX.block_normal ?_
    refine WX.next ?_
    refine WC.region ?_
    refine WL.val (OV.move rfl) rfl ?_
    refine WL.val (OV.addN (j := 1) rfl rfl (by omega)) rfl ?_
    refine WL.val (OV.assign rfl) rfl ?_
    refine WL.nil ?_
    exact WX.round1 (i + 1) ⟨rfl, rfl, trivial⟩ (fun w' hw => ⟨by omega, hw⟩) (by show ls.length - (i + 1) < ls.length - i; omega)
  · try simp only [decide_eq_true_eq, decide_eq_false_iff_not, Bool.not_eq_true', Bool.not_eq_false'] at c7
    refine WC.exit ?_
    refine WX.then_exit ?_
    refine WX.then_exit ?_
    refine WX.block_hit ?_
    refine WX.next ?_
    refine WC.seq ?_
    refine WC.region ?_
    refine WL.val (OV.assign rfl) rfl ?_
    refine WL.nil ?_
    refine WX.next ?_
    refine WC.ret ?_
    exact WX.ret1 rfl rfl rfl (fun w' hw => ⟨rfl, hw.fr⟩)

end Go.Proofs.YtgiiifadbnpfkaaGreatDoor
