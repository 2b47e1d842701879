/- Contracts of functions of the program: what each returns and leaves in memory. Printed by gen.py and walk.py. -/
import Derived.Test.YtgiiifadbnpfkaaGreatDoorMg14
namespace Go.Proofs.YtgiiifadbnpfkaaGreatDoor
open Go Go.Hw
set_option linter.unusedSimpArgs false
set_option linter.unusedVariables false
abbrev SAYS : ByteArray := ⟨#[115, 97, 121, 115]⟩
def letB (c : UInt8) : Bool := decide (((97 : Int) ≤ c.toNat ∧ (c.toNat : Int) ≤ 122) ∨ ((65 : Int) ≤ c.toNat ∧ (c.toNat : Int) ≤ 90) ∨ ((48 : Int) ≤ c.toNat ∧ (c.toNat : Int) ≤ 57) ∨ (c.toNat : Int) = 95)
def bAt (s : ByteArray) (i : Nat) : UInt8 := s.data.toList.getD i 0
def nameB (s : ByteArray) : Bool := decide (s ≠ E0 ∧ s.size ≤ 32 ∧ s ≠ SAYS ∧ (97 : Int) ≤ (bAt s 0).toNat ∧ ((bAt s 0).toNat : Int) ≤ 122 ∧ ∀ i, i < s.size → letB (bAt s i) = true)
def T0 : Tm := ⟨0, 0, E0⟩
def badB (t : Tm) : Bool := !constB t && !varB t
def chkA (x : At) : Int := if nameB x.name = false then 21 else if 8 < x.args.length then 22 else if x.b ≠ T0 ∧ prinB x.b = false ∧ varB x.b = false then 23 else if x.args.any badB then 24 else 0
def factB (x : At) : Bool := decide (chkA x = 0) && !varB x.b && !x.args.any varB
theorem bget {s : ByteArray} {i : Nat} (h : i < s.size) : s[i]? = some (bAt s i) := by
  have h2 : i < s.data.toList.length := by simpa using h
  unfold bAt
  rw [List.getD_eq_getElem?_getD, List.getElem?_eq_getElem h2, Option.getD_some]
  rw [getElem?_pos s i h]
  rfl
theorem size_pos {s : ByteArray} (h : ¬ s = E0) : 0 < s.size := by
  rcases Nat.eq_zero_or_pos s.size with h0 | h0
  · exfalso
    apply h
    obtain ⟨⟨l⟩⟩ := s
    have : l.length = 0 := h0
    rw [List.length_eq_zero_iff.1 this]
  · exact h0
/-- term.none, as it is laid. -/
def NoneAt (w : World) : Prop := ∀ j v, (tmC T0)[j]? = some v → w.cell? ⟨1, j, none⟩ = some v
theorem NoneAt.keeps {w w' : World} (h : NoneAt w) (k : Keeps w w') : NoneAt w' := fun j v hj => k _ _ (h j v hj)
theorem nameB_no {s : ByteArray} {i : Nat} (h : i < s.size) (hl : ¬ letB (bAt s i) = true) : nameB s = false := by
  unfold nameB
  rw [decide_eq_false_iff_not]
  exact fun hh => hl (hh.2.2.2.2.2 i h)

set_option maxRecDepth 10000 in
theorem name_calls (s : ByteArray) (hs : s.size ≤ 1099511627776) (w : World) : Calls Tryz.prog 88 #[.string s] w fun e w' => e = .returned (.bool (nameB s)) ∧ Fr0 w w' := by
  refine enterS (args := [.string s]) (fun _ => False) Tryz.func88 rfl Tryz.ntmps88 rfl rfl ?_
  refine WC.seq ?_
  refine WC.region ?_
  refine WL.val (OV.assign rfl) rfl ?_
  refine WL.nil ?_
  refine WX.next ?_
  refine WC.seq ?_
  refine WC.seq ?_
  refine WC.region ?_
  refine WL.val (OV.move rfl) rfl ?_
  refine WL.val (OV.eqlS rfl rfl) rfl ?_
  refine WL.val (OV.move rfl) rfl ?_
  refine WL.split (t := 7) rfl (fun g7 => ?_) (fun g7 => ?_)
  · try simp only [decide_eq_true_eq, decide_eq_false_iff_not, Bool.not_eq_true', Bool.not_eq_false'] at g7
    refine WL.skip (b := true) rfl rfl rfl rfl ?_
    refine WL.skip (b := true) rfl rfl rfl rfl ?_
    refine WL.skip (b := true) rfl rfl rfl rfl ?_
    refine WL.val (OV.pickT rfl rfl) rfl ?_
    refine WL.val (OV.move rfl) rfl ?_
    refine WL.skip (b := true) rfl rfl rfl rfl ?_
    refine WL.skip (b := true) rfl rfl rfl rfl ?_
    refine WL.val (OV.pickT rfl rfl) rfl ?_
    refine WL.val (OV.move rfl) rfl ?_
    refine WL.skip (b := true) rfl rfl rfl rfl ?_
    refine WL.skip (b := true) rfl rfl rfl rfl ?_
    refine WL.skip (b := true) rfl rfl rfl rfl ?_
    refine WL.val (OV.pickT rfl rfl) rfl ?_
    refine WL.val (OV.move rfl) rfl ?_
    refine WL.skip (b := true) rfl rfl rfl rfl ?_
    refine WL.skip (b := true) rfl rfl rfl rfl ?_
    refine WL.skip (b := true) rfl rfl rfl rfl ?_
    refine WL.val (OV.pickT rfl rfl) rfl ?_
    refine WL.nil ?_
    refine WX.next ?_
    refine WC.condT rfl ?_
    refine WC.seq ?_
    refine WC.region ?_
    refine WL.val (OV.assign rfl) rfl ?_
    refine WL.nil ?_
    refine WX.next ?_
    refine WC.ret ?_
    refine WX.then_ret ?_
    exact WX.ret1 rfl rfl rfl (fun w' hw => ⟨by clear hw; rw [show nameB s = false from by unfold nameB; rw [decide_eq_false_iff_not]; rintro ⟨h1, h2, h3, h4, h5, h6⟩; first | exact h1 (by assumption) | exact h3 (by assumption) | omega], hw.fr⟩)
  · try simp only [decide_eq_true_eq, decide_eq_false_iff_not, Bool.not_eq_true', Bool.not_eq_false'] at g7
    refine WL.go (b := false) rfl rfl rfl ?_
    refine WL.val (OV.move rfl) rfl ?_
    refine WL.go (b := false) rfl rfl rfl ?_
    first
    | (refine WL.val (OV.lenSlice rfl T.u9) rfl ?_)
    | (refine WL.val (OV.lenStr rfl T.u9) rfl ?_)
    refine WL.go (b := false) rfl rfl rfl ?_
    refine WL.val (OV.gtr rfl rfl) rfl ?_
    refine WL.val (OV.pickF rfl rfl) rfl ?_
    refine WL.val (OV.move rfl) rfl ?_
    refine WL.split (t := 12) rfl (fun g12 => ?_) (fun g12 => ?_)
    · try simp only [decide_eq_true_eq, decide_eq_false_iff_not, Bool.not_eq_true', Bool.not_eq_false'] at g12
      refine WL.skip (b := true) rfl rfl rfl rfl ?_
      refine WL.skip (b := true) rfl rfl rfl rfl ?_
      refine WL.val (OV.pickT rfl rfl) rfl ?_
      refine WL.val (OV.move rfl) rfl ?_
      refine WL.skip (b := true) rfl rfl rfl rfl ?_
      refine WL.skip (b := true) rfl rfl rfl rfl ?_
      refine WL.skip (b := true) rfl rfl rfl rfl ?_
      refine WL.val (OV.pickT rfl rfl) rfl ?_
      refine WL.val (OV.move rfl) rfl ?_
      refine WL.skip (b := true) rfl rfl rfl rfl ?_
      refine WL.skip (b := true) rfl rfl rfl rfl ?_
      refine WL.skip (b := true) rfl rfl rfl rfl ?_
      refine WL.val (OV.pickT rfl rfl) rfl ?_
      refine WL.nil ?_
      refine WX.next ?_
      refine WC.condT rfl ?_
      refine WC.seq ?_
      refine WC.region ?_
      refine WL.val (OV.assign rfl) rfl ?_
      refine WL.nil ?_
      refine WX.next ?_
      refine WC.ret ?_
      refine WX.then_ret ?_
      exact WX.ret1 rfl rfl rfl (fun w' hw => ⟨by clear hw; rw [show nameB s = false from by unfold nameB; rw [decide_eq_false_iff_not]; rintro ⟨h1, h2, h3, h4, h5, h6⟩; first | exact h1 (by assumption) | exact h3 (by assumption) | omega], hw.fr⟩)
    · try simp only [decide_eq_true_eq, decide_eq_false_iff_not, Bool.not_eq_true', Bool.not_eq_false'] at g12
      refine WL.go (b := false) rfl rfl rfl ?_
      refine WL.val (OV.move rfl) rfl ?_
      refine WL.go (b := false) rfl rfl rfl ?_
      refine WL.val (OV.eqlS rfl rfl) rfl ?_
      refine WL.val (OV.pickF rfl rfl) rfl ?_
      refine WL.val (OV.move rfl) rfl ?_
      refine WL.split (t := 16) rfl (fun g16 => ?_) (fun g16 => ?_)
      · try simp only [decide_eq_true_eq, decide_eq_false_iff_not, Bool.not_eq_true', Bool.not_eq_false'] at g16
        refine WL.skip (b := true) rfl rfl rfl rfl ?_
        refine WL.skip (b := true) rfl rfl rfl rfl ?_
        refine WL.skip (b := true) rfl rfl rfl rfl ?_
        refine WL.val (OV.pickT rfl rfl) rfl ?_
        refine WL.val (OV.move rfl) rfl ?_
        refine WL.skip (b := true) rfl rfl rfl rfl ?_
        refine WL.skip (b := true) rfl rfl rfl rfl ?_
        refine WL.skip (b := true) rfl rfl rfl rfl ?_
        refine WL.val (OV.pickT rfl rfl) rfl ?_
        refine WL.nil ?_
        refine WX.next ?_
        refine WC.condT rfl ?_
        refine WC.seq ?_
        refine WC.region ?_
        refine WL.val (OV.assign rfl) rfl ?_
        refine WL.nil ?_
        refine WX.next ?_
        refine WC.ret ?_
        refine WX.then_ret ?_
        exact WX.ret1 rfl rfl rfl (fun w' hw => ⟨by clear hw; rw [show nameB s = false from by unfold nameB; rw [decide_eq_false_iff_not]; rintro ⟨h1, h2, h3, h4, h5, h6⟩; first | exact h1 (by assumption) | exact h3 (by assumption) | omega], hw.fr⟩)
      · try simp only [decide_eq_true_eq, decide_eq_false_iff_not, Bool.not_eq_true', Bool.not_eq_false'] at g16
        refine WL.go (b := false) rfl rfl rfl ?_
        refine WL.val (OV.move rfl) rfl ?_
        refine WL.go (b := false) rfl rfl rfl ?_
        have hsz := size_pos g7
        refine WL.val (OV.indexStr (r := bAt s 0) rfl rfl T.u9 ⟨by omega, bget hsz⟩) rfl ?_
        refine WL.go (b := false) rfl rfl rfl ?_
        refine WL.val (OV.lss rfl rfl) rfl ?_
        refine WL.val (OV.pickF rfl rfl) rfl ?_
        refine WL.val (OV.move rfl) rfl ?_
        refine WL.split (t := 21) rfl (fun g21 => ?_) (fun g21 => ?_)
        · try simp only [decide_eq_true_eq, decide_eq_false_iff_not, Bool.not_eq_true', Bool.not_eq_false'] at g21
          refine WL.skip (b := true) rfl rfl rfl rfl ?_
          refine WL.skip (b := true) rfl rfl rfl rfl ?_
          refine WL.skip (b := true) rfl rfl rfl rfl ?_
          refine WL.val (OV.pickT rfl rfl) rfl ?_
          refine WL.nil ?_
          refine WX.next ?_
          refine WC.condT rfl ?_
          refine WC.seq ?_
          refine WC.region ?_
          refine WL.val (OV.assign rfl) rfl ?_
          refine WL.nil ?_
          refine WX.next ?_
          refine WC.ret ?_
          refine WX.then_ret ?_
          exact WX.ret1 rfl rfl rfl (fun w' hw => ⟨by clear hw; rw [show nameB s = false from by unfold nameB; rw [decide_eq_false_iff_not]; rintro ⟨h1, h2, h3, h4, h5, h6⟩; first | exact h1 (by assumption) | exact h3 (by assumption) | omega], hw.fr⟩)
        · try simp only [decide_eq_true_eq, decide_eq_false_iff_not, Bool.not_eq_true', Bool.not_eq_false'] at g21
          refine WL.go (b := false) rfl rfl rfl ?_
          refine WL.val (OV.move rfl) rfl ?_
          refine WL.go (b := false) rfl rfl rfl ?_
          refine WL.val (OV.indexStr (r := bAt s 0) rfl rfl T.u9 ⟨by omega, bget hsz⟩) rfl ?_
          refine WL.go (b := false) rfl rfl rfl ?_
          refine WL.val (OV.gtr rfl rfl) rfl ?_
          refine WL.val (OV.pickF rfl rfl) rfl ?_
          refine WL.nil ?_
          refine WX.next ?_
          refine WC.cond rfl (fun c25 => ?_) (fun c25 => ?_)
          · try simp only [decide_eq_true_eq, decide_eq_false_iff_not, Bool.not_eq_true', Bool.not_eq_false'] at c25
            refine WC.seq ?_
            refine WC.region ?_
            refine WL.val (OV.assign rfl) rfl ?_
            refine WL.nil ?_
            refine WX.next ?_
            refine WC.ret ?_
            refine WX.then_ret ?_
            exact WX.ret1 rfl rfl rfl (fun w' hw => ⟨by clear hw; rw [show nameB s = false from by unfold nameB; rw [decide_eq_false_iff_not]; rintro ⟨h1, h2, h3, h4, h5, h6⟩; first | exact h1 (by assumption) | exact h3 (by assumption) | omega], hw.fr⟩)
          · try simp only [decide_eq_true_eq, decide_eq_false_iff_not, Bool.not_eq_true', Bool.not_eq_false'] at c25
            refine WC.skip ?_
            refine WX.next ?_
            refine WC.seq ?_
            refine WC.seq ?_
            refine WC.region ?_
            refine WL.val (OV.move rfl) rfl ?_
            first
            | (refine WL.val (OV.lenSlice rfl T.u9) rfl ?_)
            | (refine WL.val (OV.lenStr rfl T.u9) rfl ?_)
            refine WL.val (OV.move rfl) rfl ?_
            refine WL.nil ?_
            refine WX.next ?_
            refine WC.block ?_
            refine WC.loop1 (fun (i : Nat) => [(0, .string s), (27, .int .i64 (s.size : Int)), (28, .int .i64 (i : Int))])
                (fun i w' => (i ≤ s.size ∧ ∀ j, j < i → letB (bAt s j) = true) ∧ Sat w (fun _ => False) (fun b => b < w.heap.size) w ([]) w')
                (fun i => s.size - i) 0 ⟨rfl, rfl, rfl, trivial⟩ (fun w' hw => ⟨⟨by omega, by intro j hj; omega⟩, hw⟩) ?_
            intro i
            refine WC.pure (fun hi => ?_)
            obtain ⟨hi, hz⟩ := hi
            refine WC.seq ?_
            refine WC.region ?_
            refine WL.val (OV.lss rfl rfl) rfl ?_
            refine WL.nil ?_
            refine WX.next ?_
            refine WC.seq ?_
            refine WC.cond rfl (fun c29 => ?_) (fun c29 => ?_)
            · try simp only [decide_eq_true_eq, decide_eq_false_iff_not, Bool.not_eq_true', Bool.not_eq_false'] at c29
              refine WC.skip ?_
              refine WX.next ?_
              refine WC.seq ?_
              refine WC.block ?_
              refine WC.seq ?_
              refine WC.region ?_
              refine WL.val (OV.move rfl) rfl ?_
              refine WL.val (OV.assign rfl) rfl ?_
              refine WL.nil ?_
              refine WX.next ?_
              refine WC.seq ?_
              refine WC.region ?_
              refine WL.val (OV.move rfl) rfl ?_
              refine WL.val (OV.move rfl) rfl ?_
              obtain ⟨cb, hcb⟩ : ∃ cb, cb = bAt s i := ⟨_, rfl⟩
              refine WL.val (OV.indexStr (r := cb) rfl rfl T.u9 ⟨by omega, by rw [hcb]; exact bget (by omega)⟩) rfl ?_
              refine WL.val (OV.assign rfl) rfl ?_
              refine WL.nil ?_
              refine WX.next ?_
              refine WC.seq ?_
              refine WC.region ?_
              refine WL.val (OV.move rfl) rfl ?_
              refine WL.val (OV.geq rfl rfl) rfl ?_
              refine WL.val (OV.move rfl) rfl ?_
              refine WL.split (t := 36) rfl (fun g36 => ?_) (fun g36 => ?_)
              · try simp only [decide_eq_true_eq, decide_eq_false_iff_not, Bool.not_eq_true', Bool.not_eq_false'] at g36
                refine WL.go (b := true) rfl rfl rfl ?_
                refine WL.val (OV.move rfl) rfl ?_
                refine WL.go (b := true) rfl rfl rfl ?_
                refine WL.val (OV.leq rfl rfl) rfl ?_
                refine WL.val (OV.pickT rfl rfl) rfl ?_
                refine WL.val (OV.move rfl) rfl ?_
                refine WL.split (t := 40) rfl (fun g40 => ?_) (fun g40 => ?_)
                · try simp only [decide_eq_true_eq, decide_eq_false_iff_not, Bool.not_eq_true', Bool.not_eq_false'] at g40
                  refine WL.skip (b := true) rfl rfl rfl rfl ?_
                  refine WL.skip (b := true) rfl rfl rfl rfl ?_
                  refine WL.skip (b := true) rfl rfl rfl rfl ?_
                  refine WL.skipU rfl rfl rfl ?_
                  refine WL.skipU rfl rfl rfl ?_
                  refine WL.skip (b := true) rfl rfl rfl rfl ?_
                  refine WL.val (OV.pickT rfl rfl) rfl ?_
                  refine WL.val (OV.move rfl) rfl ?_
                  refine WL.skip (b := true) rfl rfl rfl rfl ?_
                  refine WL.skip (b := true) rfl rfl rfl rfl ?_
                  refine WL.skip (b := true) rfl rfl rfl rfl ?_
                  refine WL.skipU rfl rfl rfl ?_
                  refine WL.skipU rfl rfl rfl ?_
                  refine WL.skip (b := true) rfl rfl rfl rfl ?_
                  refine WL.val (OV.pickT rfl rfl) rfl ?_
                  refine WL.val (OV.move rfl) rfl ?_
                  refine WL.skip (b := true) rfl rfl rfl rfl ?_
                  refine WL.skip (b := true) rfl rfl rfl rfl ?_
                  refine WL.val (OV.pickT rfl rfl) rfl ?_
                  refine WL.val (OV.not rfl) rfl ?_
                  refine WL.nil ?_
                  refine WX.next ?_
                  refine WC.condF rfl ?_
                  refine WC.skip ?_
                  refine WX.block_normal ?_
                  refine WX.next ?_
                  refine WC.region ?_
                  refine WL.val (OV.addN (j := 1) rfl rfl (by omega)) rfl ?_
                  refine WL.val (OV.move rfl) rfl ?_
                  refine WL.nil ?_
                  exact WX.round1 (i + 1) ⟨rfl, rfl, rfl, trivial⟩ (fun w' hw => ⟨⟨by omega, fun j hj => by rcases Nat.lt_or_ge j i with h | h; exact hz j h; rw [show j = i by omega]; rw [← hcb]; unfold letB; rw [decide_eq_true_eq]; omega⟩, hw⟩) (by show s.size - (i + 1) < s.size - i; omega)
                · try simp only [decide_eq_true_eq, decide_eq_false_iff_not, Bool.not_eq_true', Bool.not_eq_false'] at g40
                  refine WL.go (b := false) rfl rfl rfl ?_
                  refine WL.val (OV.move rfl) rfl ?_
                  refine WL.go (b := false) rfl rfl rfl ?_
                  refine WL.val (OV.geq rfl rfl) rfl ?_
                  refine WL.go (b := false) rfl rfl rfl ?_
                  refine WL.val (OV.move rfl) rfl ?_
                  refine WL.split (t := 43) rfl (fun g43 => ?_) (fun g43 => ?_)
                  · try simp only [decide_eq_true_eq, decide_eq_false_iff_not, Bool.not_eq_true', Bool.not_eq_false'] at g43
                    refine WL.go (b := true) rfl rfl rfl ?_
                    refine WL.val (OV.move rfl) rfl ?_
                    refine WL.go (b := true) rfl rfl rfl ?_
                    refine WL.val (OV.leq rfl rfl) rfl ?_
                    refine WL.go (b := false) rfl rfl rfl ?_
                    refine WL.val (OV.pickT rfl rfl) rfl ?_
                    refine WL.val (OV.pickF rfl rfl) rfl ?_
                    refine WL.val (OV.move rfl) rfl ?_
                    refine WL.split (t := 48) rfl (fun g48 => ?_) (fun g48 => ?_)
                    · try simp only [decide_eq_true_eq, decide_eq_false_iff_not, Bool.not_eq_true', Bool.not_eq_false'] at g48
                      refine WL.skip (b := true) rfl rfl rfl rfl ?_
                      refine WL.skip (b := true) rfl rfl rfl rfl ?_
                      refine WL.skip (b := true) rfl rfl rfl rfl ?_
                      refine WL.skipU rfl rfl rfl ?_
                      refine WL.skipU rfl rfl rfl ?_
                      refine WL.skip (b := true) rfl rfl rfl rfl ?_
                      refine WL.val (OV.pickT rfl rfl) rfl ?_
                      refine WL.val (OV.move rfl) rfl ?_
                      refine WL.skip (b := true) rfl rfl rfl rfl ?_
                      refine WL.skip (b := true) rfl rfl rfl rfl ?_
                      refine WL.val (OV.pickT rfl rfl) rfl ?_
                      refine WL.val (OV.not rfl) rfl ?_
                      refine WL.nil ?_
                      refine WX.next ?_
                      refine WC.condF rfl ?_
                      refine WC.skip ?_
                      refine WX.block_normal ?_
                      refine WX.next ?_
                      refine WC.region ?_
                      refine WL.val (OV.addN (j := 1) rfl rfl (by omega)) rfl ?_
                      refine WL.val (OV.move rfl) rfl ?_
                      refine WL.nil ?_
                      exact WX.round1 (i + 1) ⟨rfl, rfl, rfl, trivial⟩ (fun w' hw => ⟨⟨by omega, fun j hj => by rcases Nat.lt_or_ge j i with h | h; exact hz j h; rw [show j = i by omega]; rw [← hcb]; unfold letB; rw [decide_eq_true_eq]; omega⟩, hw⟩) (by show s.size - (i + 1) < s.size - i; omega)
                    · try simp only [decide_eq_true_eq, decide_eq_false_iff_not, Bool.not_eq_true', Bool.not_eq_false'] at g48
                      refine WL.go (b := false) rfl rfl rfl ?_
                      refine WL.val (OV.move rfl) rfl ?_
                      refine WL.go (b := false) rfl rfl rfl ?_
                      refine WL.val (OV.geq rfl rfl) rfl ?_
                      refine WL.go (b := false) rfl rfl rfl ?_
                      refine WL.val (OV.move rfl) rfl ?_
                      refine WL.split (t := 51) rfl (fun g51 => ?_) (fun g51 => ?_)
                      · try simp only [decide_eq_true_eq, decide_eq_false_iff_not, Bool.not_eq_true', Bool.not_eq_false'] at g51
                        refine WL.go (b := true) rfl rfl rfl ?_
                        refine WL.val (OV.move rfl) rfl ?_
                        refine WL.go (b := true) rfl rfl rfl ?_
                        refine WL.val (OV.leq rfl rfl) rfl ?_
                        refine WL.go (b := false) rfl rfl rfl ?_
                        refine WL.val (OV.pickT rfl rfl) rfl ?_
                        refine WL.val (OV.pickF rfl rfl) rfl ?_
                        refine WL.val (OV.move rfl) rfl ?_
                        refine WL.split (t := 56) rfl (fun g56 => ?_) (fun g56 => ?_)
                        · try simp only [decide_eq_true_eq, decide_eq_false_iff_not, Bool.not_eq_true', Bool.not_eq_false'] at g56
                          refine WL.skip (b := true) rfl rfl rfl rfl ?_
                          refine WL.skip (b := true) rfl rfl rfl rfl ?_
                          refine WL.val (OV.pickT rfl rfl) rfl ?_
                          refine WL.val (OV.not rfl) rfl ?_
                          refine WL.nil ?_
                          refine WX.next ?_
                          refine WC.condF rfl ?_
                          refine WC.skip ?_
                          refine WX.block_normal ?_
                          refine WX.next ?_
                          refine WC.region ?_
                          refine WL.val (OV.addN (j := 1) rfl rfl (by omega)) rfl ?_
                          refine WL.val (OV.move rfl) rfl ?_
                          refine WL.nil ?_
                          exact WX.round1 (i + 1) ⟨rfl, rfl, rfl, trivial⟩ (fun w' hw => ⟨⟨by omega, fun j hj => by rcases Nat.lt_or_ge j i with h | h; exact hz j h; rw [show j = i by omega]; rw [← hcb]; unfold letB; rw [decide_eq_true_eq]; omega⟩, hw⟩) (by show s.size - (i + 1) < s.size - i; omega)
                        · try simp only [decide_eq_true_eq, decide_eq_false_iff_not, Bool.not_eq_true', Bool.not_eq_false'] at g56
                          refine WL.go (b := false) rfl rfl rfl ?_
                          refine WL.val (OV.move rfl) rfl ?_
                          refine WL.go (b := false) rfl rfl rfl ?_
                          refine WL.val (OV.eql rfl rfl) rfl ?_
                          refine WL.val (OV.pickF rfl rfl) rfl ?_
                          refine WL.val (OV.not rfl) rfl ?_
                          refine WL.nil ?_
                          refine WX.next ?_
                          refine WC.cond rfl (fun c60 => ?_) (fun c60 => ?_)
                          · try simp only [decide_eq_true_eq, decide_eq_false_iff_not, Bool.not_eq_true', Bool.not_eq_false'] at c60
                            refine WC.seq ?_
                            refine WC.region ?_
                            refine WL.val (OV.assign rfl) rfl ?_
                            refine WL.nil ?_
                            refine WX.next ?_
                            refine WC.ret ?_
                            refine WX.block_ret ?_
                            refine WX.then_ret ?_
                            refine WX.then_ret ?_
                            refine WX.block_ret ?_
                            refine WX.then_ret ?_
                            exact WX.ret1 rfl rfl rfl (fun w' hw => ⟨by clear hw; rw [nameB_no (i := i) (by omega) (by rw [← hcb]; unfold letB; rw [decide_eq_true_eq]; omega)], hw.fr⟩)
                          · try simp only [decide_eq_true_eq, decide_eq_false_iff_not, Bool.not_eq_true', Bool.not_eq_false'] at c60
                            refine WC.skip ?_
                            refine WX.block_normal ?_
                            refine WX.next ?_
                            refine WC.region ?_
                            refine WL.val (OV.addN (j := 1) rfl rfl (by omega)) rfl ?_
                            refine WL.val (OV.move rfl) rfl ?_
                            refine WL.nil ?_
                            exact WX.round1 (i + 1) ⟨rfl, rfl, rfl, trivial⟩ (fun w' hw => ⟨⟨by omega, fun j hj => by rcases Nat.lt_or_ge j i with h | h; exact hz j h; rw [show j = i by omega]; rw [← hcb]; unfold letB; rw [decide_eq_true_eq]; omega⟩, hw⟩) (by show s.size - (i + 1) < s.size - i; omega)
                      · try simp only [decide_eq_true_eq, decide_eq_false_iff_not, Bool.not_eq_true', Bool.not_eq_false'] at g51
                        refine WL.skip (b := false) rfl rfl rfl rfl ?_
                        refine WL.skip (b := false) rfl rfl rfl rfl ?_
                        refine WL.go (b := false) rfl rfl rfl ?_
                        refine WL.val (OV.pickF rfl rfl) rfl ?_
                        refine WL.val (OV.pickF rfl rfl) rfl ?_
                        refine WL.val (OV.move rfl) rfl ?_
                        refine WL.go (b := false) rfl rfl rfl ?_
                        refine WL.val (OV.move rfl) rfl ?_
                        refine WL.go (b := false) rfl rfl rfl ?_
                        refine WL.val (OV.eql rfl rfl) rfl ?_
                        refine WL.val (OV.pickF rfl rfl) rfl ?_
                        refine WL.val (OV.not rfl) rfl ?_
                        refine WL.nil ?_
                        refine WX.next ?_
                        refine WC.cond rfl (fun c60 => ?_) (fun c60 => ?_)
                        · try simp only [decide_eq_true_eq, decide_eq_false_iff_not, Bool.not_eq_true', Bool.not_eq_false'] at c60
                          refine WC.seq ?_
                          refine WC.region ?_
                          refine WL.val (OV.assign rfl) rfl ?_
                          refine WL.nil ?_
                          refine WX.next ?_
                          refine WC.ret ?_
                          refine WX.block_ret ?_
                          refine WX.then_ret ?_
                          refine WX.then_ret ?_
                          refine WX.block_ret ?_
                          refine WX.then_ret ?_
                          exact WX.ret1 rfl rfl rfl (fun w' hw => ⟨by clear hw; rw [nameB_no (i := i) (by omega) (by rw [← hcb]; unfold letB; rw [decide_eq_true_eq]; omega)], hw.fr⟩)
                        · try simp only [decide_eq_true_eq, decide_eq_false_iff_not, Bool.not_eq_true', Bool.not_eq_false'] at c60
                          refine WC.skip ?_
                          refine WX.block_normal ?_
                          refine WX.next ?_
                          refine WC.region ?_
                          refine WL.val (OV.addN (j := 1) rfl rfl (by omega)) rfl ?_
                          refine WL.val (OV.move rfl) rfl ?_
                          refine WL.nil ?_
                          exact WX.round1 (i + 1) ⟨rfl, rfl, rfl, trivial⟩ (fun w' hw => ⟨⟨by omega, fun j hj => by rcases Nat.lt_or_ge j i with h | h; exact hz j h; rw [show j = i by omega]; rw [← hcb]; unfold letB; rw [decide_eq_true_eq]; omega⟩, hw⟩) (by show s.size - (i + 1) < s.size - i; omega)
                  · try simp only [decide_eq_true_eq, decide_eq_false_iff_not, Bool.not_eq_true', Bool.not_eq_false'] at g43
                    refine WL.skip (b := false) rfl rfl rfl rfl ?_
                    refine WL.skip (b := false) rfl rfl rfl rfl ?_
                    refine WL.go (b := false) rfl rfl rfl ?_
                    refine WL.val (OV.pickF rfl rfl) rfl ?_
                    refine WL.val (OV.pickF rfl rfl) rfl ?_
                    refine WL.val (OV.move rfl) rfl ?_
                    refine WL.go (b := false) rfl rfl rfl ?_
                    refine WL.val (OV.move rfl) rfl ?_
                    refine WL.go (b := false) rfl rfl rfl ?_
                    refine WL.val (OV.geq rfl rfl) rfl ?_
                    refine WL.go (b := false) rfl rfl rfl ?_
                    refine WL.val (OV.move rfl) rfl ?_
                    refine WL.split (t := 51) rfl (fun g51 => ?_) (fun g51 => ?_)
                    · try simp only [decide_eq_true_eq, decide_eq_false_iff_not, Bool.not_eq_true', Bool.not_eq_false'] at g51
                      refine WL.go (b := true) rfl rfl rfl ?_
                      refine WL.val (OV.move rfl) rfl ?_
                      refine WL.go (b := true) rfl rfl rfl ?_
                      refine WL.val (OV.leq rfl rfl) rfl ?_
                      refine WL.go (b := false) rfl rfl rfl ?_
                      refine WL.val (OV.pickT rfl rfl) rfl ?_
                      refine WL.val (OV.pickF rfl rfl) rfl ?_
                      refine WL.val (OV.move rfl) rfl ?_
                      refine WL.split (t := 56) rfl (fun g56 => ?_) (fun g56 => ?_)
                      · try simp only [decide_eq_true_eq, decide_eq_false_iff_not, Bool.not_eq_true', Bool.not_eq_false'] at g56
                        refine WL.skip (b := true) rfl rfl rfl rfl ?_
                        refine WL.skip (b := true) rfl rfl rfl rfl ?_
                        refine WL.val (OV.pickT rfl rfl) rfl ?_
                        refine WL.val (OV.not rfl) rfl ?_
                        refine WL.nil ?_
                        refine WX.next ?_
                        refine WC.condF rfl ?_
                        refine WC.skip ?_
                        refine WX.block_normal ?_
                        refine WX.next ?_
                        refine WC.region ?_
                        refine WL.val (OV.addN (j := 1) rfl rfl (by omega)) rfl ?_
                        refine WL.val (OV.move rfl) rfl ?_
                        refine WL.nil ?_
                        exact WX.round1 (i + 1) ⟨rfl, rfl, rfl, trivial⟩ (fun w' hw => ⟨⟨by omega, fun j hj => by rcases Nat.lt_or_ge j i with h | h; exact hz j h; rw [show j = i by omega]; rw [← hcb]; unfold letB; rw [decide_eq_true_eq]; omega⟩, hw⟩) (by show s.size - (i + 1) < s.size - i; omega)
                      · try simp only [decide_eq_true_eq, decide_eq_false_iff_not, Bool.not_eq_true', Bool.not_eq_false'] at g56
                        refine WL.go (b := false) rfl rfl rfl ?_
                        refine WL.val (OV.move rfl) rfl ?_
                        refine WL.go (b := false) rfl rfl rfl ?_
                        refine WL.val (OV.eql rfl rfl) rfl ?_
                        refine WL.val (OV.pickF rfl rfl) rfl ?_
                        refine WL.val (OV.not rfl) rfl ?_
                        refine WL.nil ?_
                        refine WX.next ?_
                        refine WC.cond rfl (fun c60 => ?_) (fun c60 => ?_)
                        · try simp only [decide_eq_true_eq, decide_eq_false_iff_not, Bool.not_eq_true', Bool.not_eq_false'] at c60
                          refine WC.seq ?_
                          refine WC.region ?_
                          refine WL.val (OV.assign rfl) rfl ?_
                          refine WL.nil ?_
                          refine WX.next ?_
                          refine WC.ret ?_
                          refine WX.block_ret ?_
                          refine WX.then_ret ?_
                          refine WX.then_ret ?_
                          refine WX.block_ret ?_
                          refine WX.then_ret ?_
                          exact WX.ret1 rfl rfl rfl (fun w' hw => ⟨by clear hw; rw [nameB_no (i := i) (by omega) (by rw [← hcb]; unfold letB; rw [decide_eq_true_eq]; omega)], hw.fr⟩)
                        · try simp only [decide_eq_true_eq, decide_eq_false_iff_not, Bool.not_eq_true', Bool.not_eq_false'] at c60
                          refine WC.skip ?_
                          refine WX.block_normal ?_
                          refine WX.next ?_
                          refine WC.region ?_
                          refine WL.val (OV.addN (j := 1) rfl rfl (by omega)) rfl ?_
                          refine WL.val (OV.move rfl) rfl ?_
                          refine WL.nil ?_
                          exact WX.round1 (i + 1) ⟨rfl, rfl, rfl, trivial⟩ (fun w' hw => ⟨⟨by omega, fun j hj => by rcases Nat.lt_or_ge j i with h | h; exact hz j h; rw [show j = i by omega]; rw [← hcb]; unfold letB; rw [decide_eq_true_eq]; omega⟩, hw⟩) (by show s.size - (i + 1) < s.size - i; omega)
                    · try simp only [decide_eq_true_eq, decide_eq_false_iff_not, Bool.not_eq_true', Bool.not_eq_false'] at g51
                      refine WL.skip (b := false) rfl rfl rfl rfl ?_
                      refine WL.skip (b := false) rfl rfl rfl rfl ?_
                      refine WL.go (b := false) rfl rfl rfl ?_
                      refine WL.val (OV.pickF rfl rfl) rfl ?_
                      refine WL.val (OV.pickF rfl rfl) rfl ?_
                      refine WL.val (OV.move rfl) rfl ?_
                      refine WL.go (b := false) rfl rfl rfl ?_
                      refine WL.val (OV.move rfl) rfl ?_
                      refine WL.go (b := false) rfl rfl rfl ?_
                      refine WL.val (OV.eql rfl rfl) rfl ?_
                      refine WL.val (OV.pickF rfl rfl) rfl ?_
                      refine WL.val (OV.not rfl) rfl ?_
                      refine WL.nil ?_
                      refine WX.next ?_
                      refine WC.cond rfl (fun c60 => ?_) (fun c60 => ?_)
                      · try simp only [decide_eq_true_eq, decide_eq_false_iff_not, Bool.not_eq_true', Bool.not_eq_false'] at c60
                        refine WC.seq ?_
                        refine WC.region ?_
                        refine WL.val (OV.assign rfl) rfl ?_
                        refine WL.nil ?_
                        refine WX.next ?_
                        refine WC.ret ?_
                        refine WX.block_ret ?_
                        refine WX.then_ret ?_
                        refine WX.then_ret ?_
                        refine WX.block_ret ?_
                        refine WX.then_ret ?_
                        exact WX.ret1 rfl rfl rfl (fun w' hw => ⟨by clear hw; rw [nameB_no (i := i) (by omega) (by rw [← hcb]; unfold letB; rw [decide_eq_true_eq]; omega)], hw.fr⟩)
                      · try simp only [decide_eq_true_eq, decide_eq_false_iff_not, Bool.not_eq_true', Bool.not_eq_false'] at c60
                        refine WC.skip ?_
                        refine WX.block_normal ?_
                        refine WX.next ?_
                        refine WC.region ?_
                        refine WL.val (OV.addN (j := 1) rfl rfl (by omega)) rfl ?_
                        refine WL.val (OV.move rfl) rfl ?_
                        refine WL.nil ?_
                        exact WX.round1 (i + 1) ⟨rfl, rfl, rfl, trivial⟩ (fun w' hw => ⟨⟨by omega, fun j hj => by rcases Nat.lt_or_ge j i with h | h; exact hz j h; rw [show j = i by omega]; rw [← hcb]; unfold letB; rw [decide_eq_true_eq]; omega⟩, hw⟩) (by show s.size - (i + 1) < s.size - i; omega)
              · try simp only [decide_eq_true_eq, decide_eq_false_iff_not, Bool.not_eq_true', Bool.not_eq_false'] at g36
                refine WL.skip (b := false) rfl rfl rfl rfl ?_
                refine WL.skip (b := false) rfl rfl rfl rfl ?_
                refine WL.val (OV.pickF rfl rfl) rfl ?_
                refine WL.val (OV.move rfl) rfl ?_
                refine WL.go (b := false) rfl rfl rfl ?_
                refine WL.val (OV.move rfl) rfl ?_
                refine WL.go (b := false) rfl rfl rfl ?_
                refine WL.val (OV.geq rfl rfl) rfl ?_
                refine WL.go (b := false) rfl rfl rfl ?_
                refine WL.val (OV.move rfl) rfl ?_
                refine WL.split (t := 43) rfl (fun g43 => ?_) (fun g43 => ?_)
                · try simp only [decide_eq_true_eq, decide_eq_false_iff_not, Bool.not_eq_true', Bool.not_eq_false'] at g43
                  refine WL.go (b := true) rfl rfl rfl ?_
                  refine WL.val (OV.move rfl) rfl ?_
                  refine WL.go (b := true) rfl rfl rfl ?_
                  refine WL.val (OV.leq rfl rfl) rfl ?_
                  refine WL.go (b := false) rfl rfl rfl ?_
                  refine WL.val (OV.pickT rfl rfl) rfl ?_
                  refine WL.val (OV.pickF rfl rfl) rfl ?_
                  refine WL.val (OV.move rfl) rfl ?_
                  refine WL.split (t := 48) rfl (fun g48 => ?_) (fun g48 => ?_)
                  · try simp only [decide_eq_true_eq, decide_eq_false_iff_not, Bool.not_eq_true', Bool.not_eq_false'] at g48
                    refine WL.skip (b := true) rfl rfl rfl rfl ?_
                    refine WL.skip (b := true) rfl rfl rfl rfl ?_
                    refine WL.skip (b := true) rfl rfl rfl rfl ?_
                    refine WL.skipU rfl rfl rfl ?_
                    refine WL.skipU rfl rfl rfl ?_
                    refine WL.skip (b := true) rfl rfl rfl rfl ?_
                    refine WL.val (OV.pickT rfl rfl) rfl ?_
                    refine WL.val (OV.move rfl) rfl ?_
                    refine WL.skip (b := true) rfl rfl rfl rfl ?_
                    refine WL.skip (b := true) rfl rfl rfl rfl ?_
                    refine WL.val (OV.pickT rfl rfl) rfl ?_
                    refine WL.val (OV.not rfl) rfl ?_
                    refine WL.nil ?_
                    refine WX.next ?_
                    refine WC.condF rfl ?_
                    refine WC.skip ?_
                    refine WX.block_normal ?_
                    refine WX.next ?_
                    refine WC.region ?_
                    refine WL.val (OV.addN (j := 1) rfl rfl (by omega)) rfl ?_
                    refine WL.val (OV.move rfl) rfl ?_
                    refine WL.nil ?_
                    exact WX.round1 (i + 1) ⟨rfl, rfl, rfl, trivial⟩ (fun w' hw => ⟨⟨by omega, fun j hj => by rcases Nat.lt_or_ge j i with h | h; exact hz j h; rw [show j = i by omega]; rw [← hcb]; unfold letB; rw [decide_eq_true_eq]; omega⟩, hw⟩) (by show s.size - (i + 1) < s.size - i; omega)
                  · try simp only [decide_eq_true_eq, decide_eq_false_iff_not, Bool.not_eq_true', Bool.not_eq_false'] at g48
                    refine WL.go (b := false) rfl rfl rfl ?_
                    refine WL.val (OV.move rfl) rfl ?_
                    refine WL.go (b := false) rfl rfl rfl ?_
                    refine WL.val (OV.geq rfl rfl) rfl ?_
                    refine WL.go (b := false) rfl rfl rfl ?_
                    refine WL.val (OV.move rfl) rfl ?_
                    refine WL.split (t := 51) rfl (fun g51 => ?_) (fun g51 => ?_)
                    · try simp only [decide_eq_true_eq, decide_eq_false_iff_not, Bool.not_eq_true', Bool.not_eq_false'] at g51
                      refine WL.go (b := true) rfl rfl rfl ?_
                      refine WL.val (OV.move rfl) rfl ?_
                      refine WL.go (b := true) rfl rfl rfl ?_
                      refine WL.val (OV.leq rfl rfl) rfl ?_
                      refine WL.go (b := false) rfl rfl rfl ?_
                      refine WL.val (OV.pickT rfl rfl) rfl ?_
                      refine WL.val (OV.pickF rfl rfl) rfl ?_
                      refine WL.val (OV.move rfl) rfl ?_
                      refine WL.split (t := 56) rfl (fun g56 => ?_) (fun g56 => ?_)
                      · try simp only [decide_eq_true_eq, decide_eq_false_iff_not, Bool.not_eq_true', Bool.not_eq_false'] at g56
                        refine WL.skip (b := true) rfl rfl rfl rfl ?_
                        refine WL.skip (b := true) rfl rfl rfl rfl ?_
                        refine WL.val (OV.pickT rfl rfl) rfl ?_
                        refine WL.val (OV.not rfl) rfl ?_
                        refine WL.nil ?_
                        refine WX.next ?_
                        refine WC.condF rfl ?_
                        refine WC.skip ?_
                        refine WX.block_normal ?_
                        refine WX.next ?_
                        refine WC.region ?_
                        refine WL.val (OV.addN (j := 1) rfl rfl (by omega)) rfl ?_
                        refine WL.val (OV.move rfl) rfl ?_
                        refine WL.nil ?_
                        exact WX.round1 (i + 1) ⟨rfl, rfl, rfl, trivial⟩ (fun w' hw => ⟨⟨by omega, fun j hj => by rcases Nat.lt_or_ge j i with h | h; exact hz j h; rw [show j = i by omega]; rw [← hcb]; unfold letB; rw [decide_eq_true_eq]; omega⟩, hw⟩) (by show s.size - (i + 1) < s.size - i; omega)
                      · try simp only [decide_eq_true_eq, decide_eq_false_iff_not, Bool.not_eq_true', Bool.not_eq_false'] at g56
                        refine WL.go (b := false) rfl rfl rfl ?_
                        refine WL.val (OV.move rfl) rfl ?_
                        refine WL.go (b := false) rfl rfl rfl ?_
                        refine WL.val (OV.eql rfl rfl) rfl ?_
                        refine WL.val (OV.pickF rfl rfl) rfl ?_
                        refine WL.val (OV.not rfl) rfl ?_
                        refine WL.nil ?_
                        refine WX.next ?_
                        refine WC.cond rfl (fun c60 => ?_) (fun c60 => ?_)
                        · try simp only [decide_eq_true_eq, decide_eq_false_iff_not, Bool.not_eq_true', Bool.not_eq_false'] at c60
                          refine WC.seq ?_
                          refine WC.region ?_
                          refine WL.val (OV.assign rfl) rfl ?_
                          refine WL.nil ?_
                          refine WX.next ?_
                          refine WC.ret ?_
                          refine WX.block_ret ?_
                          refine WX.then_ret ?_
                          refine WX.then_ret ?_
                          refine WX.block_ret ?_
                          refine WX.then_ret ?_
                          exact WX.ret1 rfl rfl rfl (fun w' hw => ⟨by clear hw; rw [nameB_no (i := i) (by omega) (by rw [← hcb]; unfold letB; rw [decide_eq_true_eq]; omega)], hw.fr⟩)
                        · try simp only [decide_eq_true_eq, decide_eq_false_iff_not, Bool.not_eq_true', Bool.not_eq_false'] at c60
                          refine WC.skip ?_
                          refine WX.block_normal ?_
                          refine WX.next ?_
                          refine WC.region ?_
                          refine WL.val (OV.addN (j := 1) rfl rfl (by omega)) rfl ?_
                          refine WL.val (OV.move rfl) rfl ?_
                          refine WL.nil ?_
                          exact WX.round1 (i + 1) ⟨rfl, rfl, rfl, trivial⟩ (fun w' hw => ⟨⟨by omega, fun j hj => by rcases Nat.lt_or_ge j i with h | h; exact hz j h; rw [show j = i by omega]; rw [← hcb]; unfold letB; rw [decide_eq_true_eq]; omega⟩, hw⟩) (by show s.size - (i + 1) < s.size - i; omega)
                    · try simp only [decide_eq_true_eq, decide_eq_false_iff_not, Bool.not_eq_true', Bool.not_eq_false'] at g51
                      refine WL.skip (b := false) rfl rfl rfl rfl ?_
                      refine WL.skip (b := false) rfl rfl rfl rfl ?_
                      refine WL.go (b := false) rfl rfl rfl ?_
                      refine WL.val (OV.pickF rfl rfl) rfl ?_
                      refine WL.val (OV.pickF rfl rfl) rfl ?_
                      refine WL.val (OV.move rfl) rfl ?_
                      refine WL.go (b := false) rfl rfl rfl ?_
                      refine WL.val (OV.move rfl) rfl ?_
                      refine WL.go (b := false) rfl rfl rfl ?_
                      refine WL.val (OV.eql rfl rfl) rfl ?_
                      refine WL.val (OV.pickF rfl rfl) rfl ?_
                      refine WL.val (OV.not rfl) rfl ?_
                      refine WL.nil ?_
                      refine WX.next ?_
                      refine WC.cond rfl (fun c60 => ?_) (fun c60 => ?_)
                      · try simp only [decide_eq_true_eq, decide_eq_false_iff_not, Bool.not_eq_true', Bool.not_eq_false'] at c60
                        refine WC.seq ?_
                        refine WC.region ?_
                        refine WL.val (OV.assign rfl) rfl ?_
                        refine WL.nil ?_
                        refine WX.next ?_
                        refine WC.ret ?_
                        refine WX.block_ret ?_
                        refine WX.then_ret ?_
                        refine WX.then_ret ?_
                        refine WX.block_ret ?_
                        refine WX.then_ret ?_
                        exact WX.ret1 rfl rfl rfl (fun w' hw => ⟨by clear hw; rw [nameB_no (i := i) (by omega) (by rw [← hcb]; unfold letB; rw [decide_eq_true_eq]; omega)], hw.fr⟩)
                      · try simp only [decide_eq_true_eq, decide_eq_false_iff_not, Bool.not_eq_true', Bool.not_eq_false'] at c60
                        refine WC.skip ?_
                        refine WX.block_normal ?_
                        refine WX.next ?_
                        refine WC.region ?_
                        refine WL.val (OV.addN (j := 1) rfl rfl (by omega)) rfl ?_
                        refine WL.val (OV.move rfl) rfl ?_
                        refine WL.nil ?_
                        exact WX.round1 (i + 1) ⟨rfl, rfl, rfl, trivial⟩ (fun w' hw => ⟨⟨by omega, fun j hj => by rcases Nat.lt_or_ge j i with h | h; exact hz j h; rw [show j = i by omega]; rw [← hcb]; unfold letB; rw [decide_eq_true_eq]; omega⟩, hw⟩) (by show s.size - (i + 1) < s.size - i; omega)
                · try simp only [decide_eq_true_eq, decide_eq_false_iff_not, Bool.not_eq_true', Bool.not_eq_false'] at g43
                  refine WL.skip (b := false) rfl rfl rfl rfl ?_
                  refine WL.skip (b := false) rfl rfl rfl rfl ?_
                  refine WL.go (b := false) rfl rfl rfl ?_
                  refine WL.val (OV.pickF rfl rfl) rfl ?_
                  refine WL.val (OV.pickF rfl rfl) rfl ?_
                  refine WL.val (OV.move rfl) rfl ?_
                  refine WL.go (b := false) rfl rfl rfl ?_
                  refine WL.val (OV.move rfl) rfl ?_
                  refine WL.go (b := false) rfl rfl rfl ?_
                  refine WL.val (OV.geq rfl rfl) rfl ?_
                  refine WL.go (b := false) rfl rfl rfl ?_
                  refine WL.val (OV.move rfl) rfl ?_
                  refine WL.split (t := 51) rfl (fun g51 => ?_) (fun g51 => ?_)
                  · try simp only [decide_eq_true_eq, decide_eq_false_iff_not, Bool.not_eq_true', Bool.not_eq_false'] at g51
                    refine WL.go (b := true) rfl rfl rfl ?_
                    refine WL.val (OV.move rfl) rfl ?_
                    refine WL.go (b := true) rfl rfl rfl ?_
                    refine WL.val (OV.leq rfl rfl) rfl ?_
                    refine WL.go (b := false) rfl rfl rfl ?_
                    refine WL.val (OV.pickT rfl rfl) rfl ?_
                    refine WL.val (OV.pickF rfl rfl) rfl ?_
                    refine WL.val (OV.move rfl) rfl ?_
                    refine WL.split (t := 56) rfl (fun g56 => ?_) (fun g56 => ?_)
                    · try simp only [decide_eq_true_eq, decide_eq_false_iff_not, Bool.not_eq_true', Bool.not_eq_false'] at g56
                      refine WL.skip (b := true) rfl rfl rfl rfl ?_
                      refine WL.skip (b := true) rfl rfl rfl rfl ?_
                      refine WL.val (OV.pickT rfl rfl) rfl ?_
                      refine WL.val (OV.not rfl) rfl ?_
                      refine WL.nil ?_
                      refine WX.next ?_
                      refine WC.condF rfl ?_
                      refine WC.skip ?_
                      refine WX.block_normal ?_
                      refine WX.next ?_
                      refine WC.region ?_
                      refine WL.val (OV.addN (j := 1) rfl rfl (by omega)) rfl ?_
                      refine WL.val (OV.move rfl) rfl ?_
                      refine WL.nil ?_
                      exact WX.round1 (i + 1) ⟨rfl, rfl, rfl, trivial⟩ (fun w' hw => ⟨⟨by omega, fun j hj => by rcases Nat.lt_or_ge j i with h | h; exact hz j h; rw [show j = i by omega]; rw [← hcb]; unfold letB; rw [decide_eq_true_eq]; omega⟩, hw⟩) (by show s.size - (i + 1) < s.size - i; omega)
                    · try simp only [decide_eq_true_eq, decide_eq_false_iff_not, Bool.not_eq_true', Bool.not_eq_false'] at g56
                      refine WL.go (b := false) rfl rfl rfl ?_
                      refine WL.val (OV.move rfl) rfl ?_
                      refine WL.go (b := false) rfl rfl rfl ?_
                      refine WL.val (OV.eql rfl rfl) rfl ?_
                      refine WL.val (OV.pickF rfl rfl) rfl ?_
                      refine WL.val (OV.not rfl) rfl ?_
                      refine WL.nil ?_
                      refine WX.next ?_
                      refine WC.cond rfl (fun c60 => ?_) (fun c60 => ?_)
                      · try simp only [decide_eq_true_eq, decide_eq_false_iff_not, Bool.not_eq_true', Bool.not_eq_false'] at c60
                        refine WC.seq ?_
                        refine WC.region ?_
                        refine WL.val (OV.assign rfl) rfl ?_
                        refine WL.nil ?_
                        refine WX.next ?_
                        refine WC.ret ?_
                        refine WX.block_ret ?_
                        refine WX.then_ret ?_
                        refine WX.then_ret ?_
                        refine WX.block_ret ?_
                        refine WX.then_ret ?_
                        exact WX.ret1 rfl rfl rfl (fun w' hw => ⟨by clear hw; rw [nameB_no (i := i) (by omega) (by rw [← hcb]; unfold letB; rw [decide_eq_true_eq]; omega)], hw.fr⟩)
                      · try simp only [decide_eq_true_eq, decide_eq_false_iff_not, Bool.not_eq_true', Bool.not_eq_false'] at c60
                        refine WC.skip ?_
                        refine WX.block_normal ?_
                        refine WX.next ?_
                        refine WC.region ?_
                        refine WL.val (OV.addN (j := 1) rfl rfl (by omega)) rfl ?_
                        refine WL.val (OV.move rfl) rfl ?_
                        refine WL.nil ?_
                        exact WX.round1 (i + 1) ⟨rfl, rfl, rfl, trivial⟩ (fun w' hw => ⟨⟨by omega, fun j hj => by rcases Nat.lt_or_ge j i with h | h; exact hz j h; rw [show j = i by omega]; rw [← hcb]; unfold letB; rw [decide_eq_true_eq]; omega⟩, hw⟩) (by show s.size - (i + 1) < s.size - i; omega)
                  · try simp only [decide_eq_true_eq, decide_eq_false_iff_not, Bool.not_eq_true', Bool.not_eq_false'] at g51
                    refine WL.skip (b := false) rfl rfl rfl rfl ?_
                    refine WL.skip (b := false) rfl rfl rfl rfl ?_
                    refine WL.go (b := false) rfl rfl rfl ?_
                    refine WL.val (OV.pickF rfl rfl) rfl ?_
                    refine WL.val (OV.pickF rfl rfl) rfl ?_
                    refine WL.val (OV.move rfl) rfl ?_
                    refine WL.go (b := false) rfl rfl rfl ?_
                    refine WL.val (OV.move rfl) rfl ?_
                    refine WL.go (b := false) rfl rfl rfl ?_
                    refine WL.val (OV.eql rfl rfl) rfl ?_
                    refine WL.val (OV.pickF rfl rfl) rfl ?_
                    refine WL.val (OV.not rfl) rfl ?_
                    refine WL.nil ?_
                    refine WX.next ?_
                    refine WC.cond rfl (fun c60 => ?_) (fun c60 => ?_)
                    · try simp only [decide_eq_true_eq, decide_eq_false_iff_not, Bool.not_eq_true', Bool.not_eq_false'] at c60
                      refine WC.seq ?_
                      refine WC.region ?_
                      refine WL.val (OV.assign rfl) rfl ?_
                      refine WL.nil ?_
                      refine WX.next ?_
                      refine WC.ret ?_
                      refine WX.block_ret ?_
                      refine WX.then_ret ?_
                      refine WX.then_ret ?_
                      refine WX.block_ret ?_
                      refine WX.then_ret ?_
                      exact WX.ret1 rfl rfl rfl (fun w' hw => ⟨by clear hw; rw [nameB_no (i := i) (by omega) (by rw [← hcb]; unfold letB; rw [decide_eq_true_eq]; omega)], hw.fr⟩)
                    · try simp only [decide_eq_true_eq, decide_eq_false_iff_not, Bool.not_eq_true', Bool.not_eq_false'] at c60
                      refine WC.skip ?_
                      refine WX.block_normal ?_
                      refine WX.next ?_
                      refine WC.region ?_
                      refine WL.val (OV.addN (j := 1) rfl rfl (by omega)) rfl ?_
                      refine WL.val (OV.move rfl) rfl ?_
                      refine WL.nil ?_
                      exact WX.round1 (i + 1) ⟨rfl, rfl, rfl, trivial⟩ (fun w' hw => ⟨⟨by omega, fun j hj => by rcases Nat.lt_or_ge j i with h | h; exact hz j h; rw [show j = i by omega]; rw [← hcb]; unfold letB; rw [decide_eq_true_eq]; omega⟩, hw⟩) (by show s.size - (i + 1) < s.size - i; omega)
            · try simp only [decide_eq_true_eq, decide_eq_false_iff_not, Bool.not_eq_true', Bool.not_eq_false'] at c29
              refine WC.exit ?_
              refine WX.then_exit ?_
              refine WX.then_exit ?_
              refine WX.block_hit ?_
              refine WX.next ?_
              refine WC.seq ?_
              refine WC.region ?_
              refine WL.val (OV.assign rfl) rfl ?_
              refine WL.nil ?_
              refine WX.next ?_
              refine WC.ret ?_
              exact WX.ret1 rfl rfl rfl (fun w' hw => ⟨by clear hw; rw [show nameB s = true from by unfold nameB; rw [decide_eq_true_eq]; exact ⟨by assumption, by omega, by assumption, by omega, by omega, fun j hj => hz j (by omega)⟩], hw.fr⟩)

set_option maxRecDepth 10000 in
theorem bad_calls (t : Tm) (w : World) : Calls Tryz.prog 90 #[tmV t] w fun e w' => e = .returned (.bool (badB t)) ∧ Fr0 w w' := by
  refine enterS (args := [tmV t]) (fun _ => False) Tryz.func90 rfl Tryz.ntmps90 rfl rfl ?_
  refine WC.seq ?_
  refine WC.region ?_
  refine WL.box rfl rfl rfl ?_
  intro b1
  refine WL.val (OV.assign rfl) rfl ?_
  refine WL.nil ?_
  refine WX.next ?_
  refine WC.seq ?_
  refine WC.region ?_
  refine WL.val (OV.loadN (cs := tmC t) rfl T.u31 rfl T.z31 (fun _ hw j v hj => by rw [add_off, Nat.zero_add]; exact own_cells hw (.head _) j v hj)) rfl ?_
  refine WL.call0 (v := .bool (constB t)) (by kernel_rfl) rfl rfl (fun w' hw' => const_calls t w') ?_
  refine WL.val (OV.not rfl) rfl ?_
  refine WL.val (OV.move rfl) rfl ?_
  refine WL.split (t := 6) rfl (fun g6 => ?_) (fun g6 => ?_)
  · try simp only [decide_eq_true_eq, decide_eq_false_iff_not, Bool.not_eq_true', Bool.not_eq_false'] at g6
    refine WL.go (b := true) rfl rfl rfl ?_
    refine WL.val (OV.loadN (cs := tmC t) rfl T.u31 rfl T.z31 (fun _ hw j v hj => by rw [add_off, Nat.zero_add]; exact own_cells hw (.head _) j v hj)) rfl ?_
    refine WL.go (b := true) rfl rfl rfl ?_
    refine WL.call0 (v := .bool (varB t)) (by kernel_rfl) rfl rfl (fun w' hw' => var_calls t w') ?_
    refine WL.go (b := true) rfl rfl rfl ?_
    refine WL.val (OV.not rfl) rfl ?_
    refine WL.val (OV.pickT rfl rfl) rfl ?_
    refine WL.val (OV.assign rfl) rfl ?_
    refine WL.nil ?_
    refine WX.next ?_
    refine WC.ret ?_
    exact WX.ret1 rfl rfl rfl (fun w' hw => ⟨by clear hw; simp_all [badB], hw.fr⟩)
  · try simp only [decide_eq_true_eq, decide_eq_false_iff_not, Bool.not_eq_true', Bool.not_eq_false'] at g6
    refine WL.skip (b := false) rfl rfl rfl rfl ?_
    refine WL.skip (b := false) rfl rfl rfl rfl ?_
    refine WL.skip (b := false) rfl rfl rfl rfl ?_
    refine WL.val (OV.pickF rfl rfl) rfl ?_
    refine WL.val (OV.assign rfl) rfl ?_
    refine WL.nil ?_
    refine WX.next ?_
    refine WC.ret ?_
    exact WX.ret1 rfl rfl rfl (fun w' hw => ⟨by clear hw; simp_all [badB], hw.fr⟩)

set_option maxRecDepth 10000 in
theorem indexF_calls (p : Tm → Bool) (g : Nat) (hg : bodied Tryz.prog g = true) (ts : List Tm) (a : Option Addr) (c : Nat) (hl : ts.length ≤ 1099511627776) (w : World) (hr : RT w a ts) (hp : ∀ t w', Keeps w w' → Calls Tryz.prog g #[tmV t] w' fun e w'' => e = .returned (.bool (p t)) ∧ Fr0 w' w'') : Calls Tryz.prog 92 #[.slice a ts.length c, .func (.func g) #[] #[]] w fun e w' => ∃ k : Int, e = .returned (.int .i64 k) ∧ (0 ≤ k ↔ ts.any p = true) ∧ Fr0 w w' := by
  refine enterS (args := [.slice a ts.length c, .func (.func g) #[] #[]]) (fun _ => False) Tryz.func92 rfl Tryz.ntmps92 rfl rfl ?_
  refine WC.seq ?_
  refine WC.region ?_
  refine WL.val (OV.assign rfl) rfl ?_
  refine WL.nil ?_
  refine WX.next ?_
  refine WC.seq ?_
  refine WC.seq ?_
  refine WC.region ?_
  refine WL.val (OV.move rfl) rfl ?_
  first
  | (refine WL.val (OV.lenSlice rfl T.u32) rfl ?_)
  | (refine WL.val (OV.lenStr rfl T.u32) rfl ?_)
  refine WL.val (OV.move rfl) rfl ?_
  refine WL.nil ?_
  refine WX.next ?_
  refine WC.block ?_
  refine WC.loop1 (fun (i : Nat) => [(0, .slice a ts.length c), (1, .func (.func g) #[] #[]), (7, .int .i64 (ts.length : Int)), (8, .int .i64 (i : Int))])
      (fun i w' => (i ≤ ts.length ∧ ∀ (j : Nat) u, j < i → ts[j]? = some u → p u = false) ∧ Sat w (fun _ => False) (fun b => b < w.heap.size) w ([]) w')
      (fun i => ts.length - i) 0 ⟨rfl, rfl, rfl, rfl, trivial⟩ (fun w' hw => ⟨⟨by omega, by intro j u hj; omega⟩, hw⟩) ?_
  intro i
  refine WC.pure (fun hi => ?_)
  obtain ⟨hi, hz⟩ := hi
  refine WC.seq ?_
  refine WC.region ?_
  refine WL.val (OV.lss rfl rfl) rfl ?_
  refine WL.nil ?_
  refine WX.next ?_
  refine WC.seq ?_
  refine WC.cond rfl (fun c9 => ?_) (fun c9 => ?_)
  · try simp only [decide_eq_true_eq, decide_eq_false_iff_not, Bool.not_eq_true', Bool.not_eq_false'] at c9
    refine WC.skip ?_
    refine WX.next ?_
    refine WC.seq ?_
    refine WC.block ?_
    refine WC.seq ?_
    refine WC.region ?_
    refine WL.val (OV.move rfl) rfl ?_
    refine WL.val (OV.assign rfl) rfl ?_
    refine WL.nil ?_
    refine WX.next ?_
    refine WC.seq ?_
    refine WC.region ?_
    refine WL.val (OV.move rfl) rfl ?_
    refine WL.val (OV.move rfl) rfl ?_
    refine WL.val (OV.move rfl) rfl ?_
    obtain ⟨q1, t, rfl, ht, htm, htd, hcell⟩ := hr.get (i := i) (by omega)
    refine WL.val ((OV.indexSlice rfl rfl T.u32 T.z31 (by omega)).cast (u := .pointer (some (q1.add (i * 3)))) (by rw [Int.toNat_natCast])) rfl ?_
    refine WL.val (OV.loadN (cs := tmC t) rfl T.u31 rfl T.z31 (fun _ hw j v hj => hw.keeps _ _ (hcell j v hj))) rfl ?_
    refine WL.callV (ι := Unit) (f := g) (caps := []) (vs := [tmV t]) (vv := fun _ => .bool (p t)) (SS := fun _ => Sat w (fun _ => False) (fun b => b < w.heap.size) w ([])) hg rfl rfl rfl (fun w' hw' => (hp t w' hw'.keeps).mono (fun en w'' ⟨h1, h2⟩ => ⟨(), h1, hw'.keep h2⟩)) ?_
    intro _
    refine WL.nil ?_
    refine WX.next ?_
    refine WC.cond rfl (fun c16 => ?_) (fun c16 => ?_)
    · try simp only [decide_eq_true_eq, decide_eq_false_iff_not, Bool.not_eq_true', Bool.not_eq_false'] at c16
      refine WC.seq ?_
      refine WC.region ?_
      refine WL.val (OV.move rfl) rfl ?_
      refine WL.val (OV.assign rfl) rfl ?_
      refine WL.nil ?_
      refine WX.next ?_
      refine WC.ret ?_
      refine WX.block_ret ?_
      refine WX.then_ret ?_
      refine WX.then_ret ?_
      refine WX.block_ret ?_
      refine WX.then_ret ?_
      exact WX.ret1 rfl rfl rfl (fun w' hw => ⟨(i : Int), rfl, ⟨fun _ => List.any_eq_true.2 ⟨t, htm, c16⟩, fun _ => by omega⟩, hw.fr⟩)
    · try simp only [decide_eq_true_eq, decide_eq_false_iff_not, Bool.not_eq_true', Bool.not_eq_false'] at c16
      refine WC.skip ?_
      refine WX.block_normal ?_
      refine WX.next ?_
      refine WC.region ?_
      refine WL.val (OV.addN (j := 1) rfl rfl (by omega)) rfl ?_
      refine WL.val (OV.move rfl) rfl ?_
      refine WL.nil ?_
      exact WX.round1 (i + 1) ⟨rfl, rfl, rfl, rfl, trivial⟩ (fun w' hw => ⟨⟨by omega, fun j u hj hu => by
        rcases Nat.lt_or_ge j i with h | h
        · exact hz j u h hu
        · rw [show j = i by omega] at hu
          rw [← Option.some.inj (ht.symm.trans hu)]
          simpa using c16⟩, hw⟩) (by show ts.length - (i + 1) < ts.length - i; omega)
  · try simp only [decide_eq_true_eq, decide_eq_false_iff_not, Bool.not_eq_true', Bool.not_eq_false'] at c9
    refine WC.exit ?_
    refine WX.then_exit ?_
    refine WX.then_exit ?_
    refine WX.block_hit ?_
    refine WX.next ?_
    refine WC.seq ?_
    refine WC.region ?_
    refine WL.val (OV.assign rfl) rfl ?_
    refine WL.nil ?_
    refine WX.next ?_
    refine WC.ret ?_
    exact WX.ret1 rfl rfl rfl (fun w' hw => ⟨-1, rfl, ⟨fun h => absurd h (by omega), fun h => by
      obtain ⟨u, hu, hpu⟩ := List.any_eq_true.1 h
      obtain ⟨j, hj⟩ := List.mem_iff_getElem?.1 hu
      rw [hz j u (by have := (List.getElem?_eq_some_iff.1 hj).1; omega) hj] at hpu
      cases hpu⟩, hw.fr⟩)

set_option maxRecDepth 10000 in
theorem contF_calls (p : Tm → Bool) (g : Nat) (hg : bodied Tryz.prog g = true) (ts : List Tm) (a : Option Addr) (c : Nat) (hl : ts.length ≤ 1099511627776) (w : World) (hr : RT w a ts) (hp : ∀ t w', Keeps w w' → Calls Tryz.prog g #[tmV t] w' fun e w'' => e = .returned (.bool (p t)) ∧ Fr0 w' w'') : Calls Tryz.prog 64 #[.slice a ts.length c, .func (.func g) #[] #[]] w fun e w' => e = .returned (.bool (ts.any p)) ∧ Fr0 w w' := by
  refine enterS (args := [.slice a ts.length c, .func (.func g) #[] #[]]) (fun _ => False) Tryz.func64 rfl Tryz.ntmps64 rfl rfl ?_
  refine WC.seq ?_
  refine WC.region ?_
  refine WL.val (OV.assign rfl) rfl ?_
  refine WL.nil ?_
  refine WX.next ?_
  refine WC.seq ?_
  refine WC.region ?_
  refine WL.val (OV.move rfl) rfl ?_
  refine WL.val (OV.move rfl) rfl ?_
  refine WL.call (ι := Int) (vs := [.slice a ts.length c, .func (.func g) #[] #[]]) (vv := fun k => .int .i64 k) (SS := fun k w' => (0 ≤ k ↔ ts.any p = true) ∧ Sat w (fun _ => False) (fun b => b < w.heap.size) w ([]) w') (by kernel_rfl) rfl rfl (fun w' hw' => (indexF_calls p g hg ts a c hl w' (hr.keeps hw'.keeps) (fun t w'' hk => hp t w'' (hw'.keeps.trans hk))).mono (fun en w'' ⟨k, h1, h2, h3⟩ => ⟨k, h1, h2, hw'.keep h3⟩)) ?_
  intro k
  refine WL.pure (fun hk => ?_)
  refine WL.val (OV.geq rfl rfl) rfl ?_
  refine WL.val (OV.assign rfl) rfl ?_
  refine WL.nil ?_
  refine WX.next ?_
  refine WC.ret ?_
  exact WX.ret1 rfl rfl rfl (fun w' hw => ⟨by congr 2; rw [Bool.eq_iff_iff, decide_eq_true_eq]; exact hk, hw.fr⟩)

set_option maxRecDepth 10000 in
theorem chkA_calls (x : At) (a : Option Addr) (c : Nat) (hl : x.args.length ≤ 1099511627776) (hs : x.name.size ≤ 1099511627776) (w : World) (hN : NoneAt w) (hr : RT w a x.args) : Calls Tryz.prog 63 #[atV x a c] w fun e w' => e = .returned (.int .i64 (chkA x)) ∧ Fr0 w w' := by
  refine enterS (args := [atV x a c]) (fun _ => False) Tryz.func63 rfl Tryz.ntmps63 rfl rfl ?_
  refine WC.seq ?_
  refine WC.region ?_
  refine WL.box rfl rfl rfl ?_
  intro b1
  refine WL.val (OV.assign rfl) rfl ?_
  refine WL.nil ?_
  refine WX.next ?_
  refine WC.seq ?_
  refine WC.block ?_
  refine WC.seq ?_
  refine WC.region ?_
  first
  | (refine WL.val (OV.fieldAddr0 (off := 3) rfl T.u34 rfl) rfl ?_)
  | (refine WL.val (OV.fieldAddr (off := 3) rfl T.u34 rfl) rfl ?_)
  first
  | (refine WL.val (OV.load1 rfl T.u9 rfl (fun _ hw => cell_own hw (.head _) rfl)) rfl ?_)
  | (refine WL.val (OV.load1 rfl T.u9 rfl (fun _ hw => cell_own hw (.tail _ (.head _)) rfl)) rfl ?_)
  | (refine WL.val (OV.load1 rfl T.u9 rfl (fun _ hw => cell_own hw (.tail _ (.tail _ (.head _))) rfl)) rfl ?_)
  | (refine WL.val (OV.load1 rfl T.u9 rfl (fun _ hw => cell_own hw (.tail _ (.tail _ (.tail _ (.head _)))) rfl)) rfl ?_)
  refine WL.call0 (v := .bool (nameB x.name)) (by kernel_rfl) rfl rfl (fun w' hw' => name_calls x.name hs w') ?_
  refine WL.val (OV.not rfl) rfl ?_
  refine WL.val (OV.assign rfl) rfl ?_
  refine WL.nil ?_
  refine WX.next ?_
  refine WC.cond rfl (fun c3 => ?_) (fun c3 => ?_)
  · try simp only [decide_eq_true_eq, decide_eq_false_iff_not, Bool.not_eq_true', Bool.not_eq_false'] at c3
    refine WC.seq ?_
    refine WC.region ?_
    refine WL.val (OV.assign rfl) rfl ?_
    refine WL.nil ?_
    refine WX.next ?_
    refine WC.ret ?_
    refine WX.block_ret ?_
    refine WX.then_ret ?_
    exact WX.ret1 rfl rfl rfl (fun w' hw => ⟨by clear hw; congr 2; simp_all [chkA] <;> (repeat' split) <;> first | omega | (exfalso; omega) | (rename_i hh; obtain ⟨y, h1, h2⟩ := hh; rw [c30 y h1] at h2; cases h2) | simp_all, hw.fr⟩)
  · try simp only [decide_eq_true_eq, decide_eq_false_iff_not, Bool.not_eq_true', Bool.not_eq_false'] at c3
    refine WC.seq ?_
    refine WC.region ?_
    first
    | (refine WL.val (OV.fieldAddr0 (off := 4) rfl T.u34 rfl) rfl ?_)
    | (refine WL.val (OV.fieldAddr (off := 4) rfl T.u34 rfl) rfl ?_)
    first
    | (refine WL.val (OV.load1 rfl T.u32 rfl (fun _ hw => cell_own hw (.head _) rfl)) rfl ?_)
    | (refine WL.val (OV.load1 rfl T.u32 rfl (fun _ hw => cell_own hw (.tail _ (.head _)) rfl)) rfl ?_)
    | (refine WL.val (OV.load1 rfl T.u32 rfl (fun _ hw => cell_own hw (.tail _ (.tail _ (.head _))) rfl)) rfl ?_)
    | (refine WL.val (OV.load1 rfl T.u32 rfl (fun _ hw => cell_own hw (.tail _ (.tail _ (.tail _ (.head _)))) rfl)) rfl ?_)
    first
    | (refine WL.val (OV.lenSlice rfl T.u32) rfl ?_)
    | (refine WL.val (OV.lenStr rfl T.u32) rfl ?_)
    refine WL.val (OV.gtr rfl rfl) rfl ?_
    refine WL.val (OV.assign rfl) rfl ?_
    refine WL.nil ?_
    refine WX.next ?_
    refine WC.cond rfl (fun c8 => ?_) (fun c8 => ?_)
    · try simp only [decide_eq_true_eq, decide_eq_false_iff_not, Bool.not_eq_true', Bool.not_eq_false'] at c8
      refine WC.seq ?_
      refine WC.region ?_
      refine WL.val (OV.assign rfl) rfl ?_
      refine WL.nil ?_
      refine WX.next ?_
      refine WC.ret ?_
      refine WX.block_ret ?_
      refine WX.then_ret ?_
      exact WX.ret1 rfl rfl rfl (fun w' hw => ⟨by clear hw; congr 2; simp_all [chkA] <;> (repeat' split) <;> first | omega | (exfalso; omega) | (rename_i hh; obtain ⟨y, h1, h2⟩ := hh; rw [c30 y h1] at h2; cases h2) | simp_all, hw.fr⟩)
    · try simp only [decide_eq_true_eq, decide_eq_false_iff_not, Bool.not_eq_true', Bool.not_eq_false'] at c8
      refine WC.seq ?_
      refine WC.region ?_
      first
      | (refine WL.val (OV.fieldAddr0 (off := 0) rfl T.u34 rfl) rfl ?_)
      | (refine WL.val (OV.fieldAddr (off := 0) rfl T.u34 rfl) rfl ?_)
      refine WL.val (OV.loadN (cs := tmC x.b) rfl T.u31 rfl T.z31 (fun _ hw j v hj => by rw [add_off]; exact own_part hw (.head _) (o := 0) (cs' := tmC x.b) rfl j v hj)) rfl ?_
      refine WL.val (OV.loadN (cs := tmC T0) rfl T.u31 rfl T.z31 (fun _ hw j v hj => by rw [add_off, Nat.zero_add]; exact hw.keeps _ _ (hN j v hj))) rfl ?_
      refine WL.val (OV.neqTm (a := x.b) (b := T0) rfl rfl) rfl ?_
      refine WL.val (OV.move rfl) rfl ?_
      refine WL.split (t := 18) rfl (fun g18 => ?_) (fun g18 => ?_)
      · try simp only [decide_eq_true_eq, decide_eq_false_iff_not, Bool.not_eq_true', Bool.not_eq_false'] at g18
        refine WL.go (b := true) rfl rfl rfl ?_
        first
        | (refine WL.val (OV.fieldAddr0 (off := 0) rfl T.u34 rfl) rfl ?_)
        | (refine WL.val (OV.fieldAddr (off := 0) rfl T.u34 rfl) rfl ?_)
        refine WL.go (b := true) rfl rfl rfl ?_
        refine WL.val (OV.loadN (cs := tmC x.b) rfl T.u31 rfl T.z31 (fun _ hw j v hj => by rw [add_off]; exact own_part hw (.head _) (o := 0) (cs' := tmC x.b) rfl j v hj)) rfl ?_
        refine WL.go (b := true) rfl rfl rfl ?_
        refine WL.call0 (v := .bool (prinB x.b)) (by kernel_rfl) rfl rfl (fun w' hw' => prin_calls x.b w') ?_
        refine WL.go (b := true) rfl rfl rfl ?_
        refine WL.val (OV.not rfl) rfl ?_
        refine WL.val (OV.pickT rfl rfl) rfl ?_
        refine WL.val (OV.move rfl) rfl ?_
        refine WL.split (t := 24) rfl (fun g24 => ?_) (fun g24 => ?_)
        · try simp only [decide_eq_true_eq, decide_eq_false_iff_not, Bool.not_eq_true', Bool.not_eq_false'] at g24
          refine WL.go (b := true) rfl rfl rfl ?_
          first
          | (refine WL.val (OV.fieldAddr0 (off := 0) rfl T.u34 rfl) rfl ?_)
          | (refine WL.val (OV.fieldAddr (off := 0) rfl T.u34 rfl) rfl ?_)
          refine WL.go (b := true) rfl rfl rfl ?_
          refine WL.val (OV.loadN (cs := tmC x.b) rfl T.u31 rfl T.z31 (fun _ hw j v hj => by rw [add_off]; exact own_part hw (.head _) (o := 0) (cs' := tmC x.b) rfl j v hj)) rfl ?_
          refine WL.go (b := true) rfl rfl rfl ?_
          refine WL.call0 (v := .bool (varB x.b)) (by kernel_rfl) rfl rfl (fun w' hw' => var_calls x.b w') ?_
          refine WL.go (b := true) rfl rfl rfl ?_
          refine WL.val (OV.not rfl) rfl ?_
          refine WL.val (OV.pickT rfl rfl) rfl ?_
          refine WL.val (OV.assign rfl) rfl ?_
          refine WL.nil ?_
          refine WX.next ?_
          refine WC.cond rfl (fun c13 => ?_) (fun c13 => ?_)
          · try simp only [decide_eq_true_eq, decide_eq_false_iff_not, Bool.not_eq_true', Bool.not_eq_false'] at c13
            refine WC.seq ?_
            refine WC.region ?_
            refine WL.val (OV.assign rfl) rfl ?_
            refine WL.nil ?_
            refine WX.next ?_
            refine WC.ret ?_
            refine WX.block_ret ?_
            refine WX.then_ret ?_
            exact WX.ret1 rfl rfl rfl (fun w' hw => ⟨by clear hw; congr 2; simp_all [chkA] <;> (repeat' split) <;> first | omega | (exfalso; omega) | (rename_i hh; obtain ⟨y, h1, h2⟩ := hh; rw [c30 y h1] at h2; cases h2) | simp_all, hw.fr⟩)
          · try simp only [decide_eq_true_eq, decide_eq_false_iff_not, Bool.not_eq_true', Bool.not_eq_false'] at c13
            refine WC.seq ?_
            refine WC.region ?_
            first
            | (refine WL.val (OV.fieldAddr0 (off := 4) rfl T.u34 rfl) rfl ?_)
            | (refine WL.val (OV.fieldAddr (off := 4) rfl T.u34 rfl) rfl ?_)
            first
            | (refine WL.val (OV.load1 rfl T.u32 rfl (fun _ hw => cell_own hw (.head _) rfl)) rfl ?_)
            | (refine WL.val (OV.load1 rfl T.u32 rfl (fun _ hw => cell_own hw (.tail _ (.head _)) rfl)) rfl ?_)
            | (refine WL.val (OV.load1 rfl T.u32 rfl (fun _ hw => cell_own hw (.tail _ (.tail _ (.head _))) rfl)) rfl ?_)
            | (refine WL.val (OV.load1 rfl T.u32 rfl (fun _ hw => cell_own hw (.tail _ (.tail _ (.tail _ (.head _)))) rfl)) rfl ?_)
            refine WL.call0 (v := .bool (x.args.any badB)) (vs := [.slice a x.args.length c, .func (.func 90) #[] #[]]) (by kernel_rfl) rfl rfl (fun w' hw' => contF_calls badB 90 (by kernel_rfl) x.args a c hl w' (hr.keeps hw'.keeps) (fun t w'' _ => bad_calls t w'')) ?_
            refine WL.val (OV.assign rfl) rfl ?_
            refine WL.nil ?_
            refine WX.next ?_
            refine WC.cond rfl (fun c30 => ?_) (fun c30 => ?_)
            · try simp only [decide_eq_true_eq, decide_eq_false_iff_not, Bool.not_eq_true', Bool.not_eq_false'] at c30
              refine WC.seq ?_
              refine WC.region ?_
              refine WL.val (OV.assign rfl) rfl ?_
              refine WL.nil ?_
              refine WX.next ?_
              refine WC.ret ?_
              refine WX.block_ret ?_
              refine WX.then_ret ?_
              exact WX.ret1 rfl rfl rfl (fun w' hw => ⟨by clear hw; congr 2; simp_all [chkA] <;> (repeat' split) <;> first | omega | (exfalso; omega) | (rename_i hh; obtain ⟨y, h1, h2⟩ := hh; rw [c30 y h1] at h2; cases h2) | simp_all, hw.fr⟩)
            · try simp only [decide_eq_true_eq, decide_eq_false_iff_not, Bool.not_eq_true', Bool.not_eq_false'] at c30
              refine WC.skip ?_
              refine WX.block_normal ?_
              refine WX.next ?_
              refine WC.seq ?_
              refine WC.region ?_
              refine WL.val (OV.assign rfl) rfl ?_
              refine WL.nil ?_
              refine WX.next ?_
              refine WC.ret ?_
              exact WX.ret1 rfl rfl rfl (fun w' hw => ⟨by clear hw; congr 2; simp_all [chkA] <;> (repeat' split) <;> first | omega | (exfalso; omega) | (rename_i hh; obtain ⟨y, h1, h2⟩ := hh; rw [c30 y h1] at h2; cases h2) | simp_all, hw.fr⟩)
        · try simp only [decide_eq_true_eq, decide_eq_false_iff_not, Bool.not_eq_true', Bool.not_eq_false'] at g24
          refine WL.skip (b := false) rfl rfl rfl rfl ?_
          refine WL.skip (b := false) rfl rfl rfl rfl ?_
          refine WL.skip (b := false) rfl rfl rfl rfl ?_
          refine WL.skip (b := false) rfl rfl rfl rfl ?_
          refine WL.val (OV.pickF rfl rfl) rfl ?_
          refine WL.val (OV.assign rfl) rfl ?_
          refine WL.nil ?_
          refine WX.next ?_
          refine WC.condF rfl ?_
          refine WC.seq ?_
          refine WC.region ?_
          first
          | (refine WL.val (OV.fieldAddr0 (off := 4) rfl T.u34 rfl) rfl ?_)
          | (refine WL.val (OV.fieldAddr (off := 4) rfl T.u34 rfl) rfl ?_)
          first
          | (refine WL.val (OV.load1 rfl T.u32 rfl (fun _ hw => cell_own hw (.head _) rfl)) rfl ?_)
          | (refine WL.val (OV.load1 rfl T.u32 rfl (fun _ hw => cell_own hw (.tail _ (.head _)) rfl)) rfl ?_)
          | (refine WL.val (OV.load1 rfl T.u32 rfl (fun _ hw => cell_own hw (.tail _ (.tail _ (.head _))) rfl)) rfl ?_)
          | (refine WL.val (OV.load1 rfl T.u32 rfl (fun _ hw => cell_own hw (.tail _ (.tail _ (.tail _ (.head _)))) rfl)) rfl ?_)
          refine WL.call0 (v := .bool (x.args.any badB)) (vs := [.slice a x.args.length c, .func (.func 90) #[] #[]]) (by kernel_rfl) rfl rfl (fun w' hw' => contF_calls badB 90 (by kernel_rfl) x.args a c hl w' (hr.keeps hw'.keeps) (fun t w'' _ => bad_calls t w'')) ?_
          refine WL.val (OV.assign rfl) rfl ?_
          refine WL.nil ?_
          refine WX.next ?_
          refine WC.cond rfl (fun c30 => ?_) (fun c30 => ?_)
          · try simp only [decide_eq_true_eq, decide_eq_false_iff_not, Bool.not_eq_true', Bool.not_eq_false'] at c30
            refine WC.seq ?_
            refine WC.region ?_
            refine WL.val (OV.assign rfl) rfl ?_
            refine WL.nil ?_
            refine WX.next ?_
            refine WC.ret ?_
            refine WX.block_ret ?_
            refine WX.then_ret ?_
            exact WX.ret1 rfl rfl rfl (fun w' hw => ⟨by clear hw; congr 2; simp_all [chkA] <;> (repeat' split) <;> first | omega | (exfalso; omega) | (rename_i hh; obtain ⟨y, h1, h2⟩ := hh; rw [c30 y h1] at h2; cases h2) | simp_all, hw.fr⟩)
          · try simp only [decide_eq_true_eq, decide_eq_false_iff_not, Bool.not_eq_true', Bool.not_eq_false'] at c30
            refine WC.skip ?_
            refine WX.block_normal ?_
            refine WX.next ?_
            refine WC.seq ?_
            refine WC.region ?_
            refine WL.val (OV.assign rfl) rfl ?_
            refine WL.nil ?_
            refine WX.next ?_
            refine WC.ret ?_
            exact WX.ret1 rfl rfl rfl (fun w' hw => ⟨by clear hw; congr 2; simp_all [chkA] <;> (repeat' split) <;> first | omega | (exfalso; omega) | (rename_i hh; obtain ⟨y, h1, h2⟩ := hh; rw [c30 y h1] at h2; cases h2) | simp_all, hw.fr⟩)
      · try simp only [decide_eq_true_eq, decide_eq_false_iff_not, Bool.not_eq_true', Bool.not_eq_false'] at g18
        refine WL.skip (b := false) rfl rfl rfl rfl ?_
        refine WL.skip (b := false) rfl rfl rfl rfl ?_
        refine WL.skip (b := false) rfl rfl rfl rfl ?_
        refine WL.skip (b := false) rfl rfl rfl rfl ?_
        refine WL.val (OV.pickF rfl rfl) rfl ?_
        refine WL.val (OV.move rfl) rfl ?_
        refine WL.skip (b := false) rfl rfl rfl rfl ?_
        refine WL.skip (b := false) rfl rfl rfl rfl ?_
        refine WL.skip (b := false) rfl rfl rfl rfl ?_
        refine WL.skip (b := false) rfl rfl rfl rfl ?_
        refine WL.val (OV.pickF rfl rfl) rfl ?_
        refine WL.val (OV.assign rfl) rfl ?_
        refine WL.nil ?_
        refine WX.next ?_
        refine WC.condF rfl ?_
        refine WC.seq ?_
        refine WC.region ?_
        first
        | (refine WL.val (OV.fieldAddr0 (off := 4) rfl T.u34 rfl) rfl ?_)
        | (refine WL.val (OV.fieldAddr (off := 4) rfl T.u34 rfl) rfl ?_)
        first
        | (refine WL.val (OV.load1 rfl T.u32 rfl (fun _ hw => cell_own hw (.head _) rfl)) rfl ?_)
        | (refine WL.val (OV.load1 rfl T.u32 rfl (fun _ hw => cell_own hw (.tail _ (.head _)) rfl)) rfl ?_)
        | (refine WL.val (OV.load1 rfl T.u32 rfl (fun _ hw => cell_own hw (.tail _ (.tail _ (.head _))) rfl)) rfl ?_)
        | (refine WL.val (OV.load1 rfl T.u32 rfl (fun _ hw => cell_own hw (.tail _ (.tail _ (.tail _ (.head _)))) rfl)) rfl ?_)
        refine WL.call0 (v := .bool (x.args.any badB)) (vs := [.slice a x.args.length c, .func (.func 90) #[] #[]]) (by kernel_rfl) rfl rfl (fun w' hw' => contF_calls badB 90 (by kernel_rfl) x.args a c hl w' (hr.keeps hw'.keeps) (fun t w'' _ => bad_calls t w'')) ?_
        refine WL.val (OV.assign rfl) rfl ?_
        refine WL.nil ?_
        refine WX.next ?_
        refine WC.cond rfl (fun c30 => ?_) (fun c30 => ?_)
        · try simp only [decide_eq_true_eq, decide_eq_false_iff_not, Bool.not_eq_true', Bool.not_eq_false'] at c30
          refine WC.seq ?_
          refine WC.region ?_
          refine WL.val (OV.assign rfl) rfl ?_
          refine WL.nil ?_
          refine WX.next ?_
          refine WC.ret ?_
          refine WX.block_ret ?_
          refine WX.then_ret ?_
          exact WX.ret1 rfl rfl rfl (fun w' hw => ⟨by clear hw; congr 2; simp_all [chkA] <;> (repeat' split) <;> first | omega | (exfalso; omega) | (rename_i hh; obtain ⟨y, h1, h2⟩ := hh; rw [c30 y h1] at h2; cases h2) | simp_all, hw.fr⟩)
        · try simp only [decide_eq_true_eq, decide_eq_false_iff_not, Bool.not_eq_true', Bool.not_eq_false'] at c30
          refine WC.skip ?_
          refine WX.block_normal ?_
          refine WX.next ?_
          refine WC.seq ?_
          refine WC.region ?_
          refine WL.val (OV.assign rfl) rfl ?_
          refine WL.nil ?_
          refine WX.next ?_
          refine WC.ret ?_
          exact WX.ret1 rfl rfl rfl (fun w' hw => ⟨by clear hw; congr 2; simp_all [chkA] <;> (repeat' split) <;> first | omega | (exfalso; omega) | (rename_i hh; obtain ⟨y, h1, h2⟩ := hh; rw [c30 y h1] at h2; cases h2) | simp_all, hw.fr⟩)

set_option maxRecDepth 10000 in
theorem fact_calls (x : At) (a : Option Addr) (c : Nat) (hl : x.args.length ≤ 1099511627776) (hs : x.name.size ≤ 1099511627776) (w : World) (hN : NoneAt w) (hr : RT w a x.args) : Calls Tryz.prog 34 #[atV x a c] w fun e w' => e = .returned (.bool (factB x)) ∧ Fr0 w w' := by
  refine enterS (args := [atV x a c]) (fun _ => False) Tryz.func34 rfl Tryz.ntmps34 rfl rfl ?_
  refine WC.seq ?_
  refine WC.region ?_
  refine WL.box rfl rfl rfl ?_
  intro b1
  refine WL.val (OV.assign rfl) rfl ?_
  refine WL.nil ?_
  refine WX.next ?_
  refine WC.seq ?_
  refine WC.region ?_
  refine WL.val (OV.loadN (cs := atC x a c) rfl T.u34 rfl T.z34 (fun _ hw j v hj => by rw [add_off, Nat.zero_add]; exact own_cells hw (.head _) j v hj)) rfl ?_
  refine WL.call0 (v := .int .i64 (chkA x)) (by kernel_rfl) rfl rfl (fun w' hw' => chkA_calls x a c hl hs w' (hN.keeps hw'.keeps) (hr.keeps hw'.keeps)) ?_
  refine WL.val (OV.eql rfl rfl) rfl ?_
  refine WL.val (OV.move rfl) rfl ?_
  refine WL.split (t := 6) rfl (fun g6 => ?_) (fun g6 => ?_)
  · try simp only [decide_eq_true_eq, decide_eq_false_iff_not, Bool.not_eq_true', Bool.not_eq_false'] at g6
    refine WL.go (b := true) rfl rfl rfl ?_
    first
    | (refine WL.val (OV.fieldAddr0 (off := 0) rfl T.u34 rfl) rfl ?_)
    | (refine WL.val (OV.fieldAddr (off := 0) rfl T.u34 rfl) rfl ?_)
    refine WL.go (b := true) rfl rfl rfl ?_
    refine WL.val (OV.loadN (cs := tmC x.b) rfl T.u31 rfl T.z31 (fun _ hw j v hj => by rw [add_off]; exact own_part hw (.head _) (o := 0) (cs' := tmC x.b) rfl j v hj)) rfl ?_
    refine WL.go (b := true) rfl rfl rfl ?_
    refine WL.call0 (v := .bool (varB x.b)) (by kernel_rfl) rfl rfl (fun w' hw' => var_calls x.b w') ?_
    refine WL.go (b := true) rfl rfl rfl ?_
    refine WL.val (OV.not rfl) rfl ?_
    refine WL.val (OV.pickT rfl rfl) rfl ?_
    refine WL.val (OV.move rfl) rfl ?_
    refine WL.split (t := 12) rfl (fun g12 => ?_) (fun g12 => ?_)
    · try simp only [decide_eq_true_eq, decide_eq_false_iff_not, Bool.not_eq_true', Bool.not_eq_false'] at g12
      refine WL.go (b := true) rfl rfl rfl ?_
      first
      | (refine WL.val (OV.fieldAddr0 (off := 4) rfl T.u34 rfl) rfl ?_)
      | (refine WL.val (OV.fieldAddr (off := 4) rfl T.u34 rfl) rfl ?_)
      refine WL.go (b := true) rfl rfl rfl ?_
      first
      | (refine WL.val (OV.load1 rfl T.u32 rfl (fun _ hw => cell_own hw (.head _) rfl)) rfl ?_)
      | (refine WL.val (OV.load1 rfl T.u32 rfl (fun _ hw => cell_own hw (.tail _ (.head _)) rfl)) rfl ?_)
      | (refine WL.val (OV.load1 rfl T.u32 rfl (fun _ hw => cell_own hw (.tail _ (.tail _ (.head _))) rfl)) rfl ?_)
      | (refine WL.val (OV.load1 rfl T.u32 rfl (fun _ hw => cell_own hw (.tail _ (.tail _ (.tail _ (.head _)))) rfl)) rfl ?_)
      refine WL.go (b := true) rfl rfl rfl ?_
      refine WL.call0 (v := .bool (x.args.any varB)) (vs := [.slice a x.args.length c, .func (.func 48) #[] #[]]) (by kernel_rfl) rfl rfl (fun w' hw' => contF_calls varB 48 (by kernel_rfl) x.args a c hl w' (hr.keeps hw'.keeps) (fun t w'' _ => var_calls t w'')) ?_
      refine WL.go (b := true) rfl rfl rfl ?_
      refine WL.val (OV.not rfl) rfl ?_
      refine WL.val (OV.pickT rfl rfl) rfl ?_
      refine WL.val (OV.assign rfl) rfl ?_
      refine WL.nil ?_
      refine WX.next ?_
      refine WC.ret ?_
      exact WX.ret1 rfl rfl rfl (fun w' hw => ⟨by clear hw; congr 2; simp_all [factB], hw.fr⟩)
    · try simp only [decide_eq_true_eq, decide_eq_false_iff_not, Bool.not_eq_true', Bool.not_eq_false'] at g12
      refine WL.skip (b := false) rfl rfl rfl rfl ?_
      refine WL.skip (b := false) rfl rfl rfl rfl ?_
      refine WL.skip (b := false) rfl rfl rfl rfl ?_
      refine WL.skip (b := false) rfl rfl rfl rfl ?_
      refine WL.val (OV.pickF rfl rfl) rfl ?_
      refine WL.val (OV.assign rfl) rfl ?_
      refine WL.nil ?_
      refine WX.next ?_
      refine WC.ret ?_
      exact WX.ret1 rfl rfl rfl (fun w' hw => ⟨by clear hw; congr 2; simp_all [factB], hw.fr⟩)
  · try simp only [decide_eq_true_eq, decide_eq_false_iff_not, Bool.not_eq_true', Bool.not_eq_false'] at g6
    refine WL.skip (b := false) rfl rfl rfl rfl ?_
    refine WL.skip (b := false) rfl rfl rfl rfl ?_
    refine WL.skip (b := false) rfl rfl rfl rfl ?_
    refine WL.skip (b := false) rfl rfl rfl rfl ?_
    refine WL.val (OV.pickF rfl rfl) rfl ?_
    refine WL.val (OV.move rfl) rfl ?_
    refine WL.skip (b := false) rfl rfl rfl rfl ?_
    refine WL.skip (b := false) rfl rfl rfl rfl ?_
    refine WL.skip (b := false) rfl rfl rfl rfl ?_
    refine WL.skip (b := false) rfl rfl rfl rfl ?_
    refine WL.val (OV.pickF rfl rfl) rfl ?_
    refine WL.val (OV.assign rfl) rfl ?_
    refine WL.nil ?_
    refine WX.next ?_
    refine WC.ret ?_
    exact WX.ret1 rfl rfl rfl (fun w' hw => ⟨by clear hw; congr 2; simp_all [factB], hw.fr⟩)

end Go.Proofs.YtgiiifadbnpfkaaGreatDoor

namespace Go.Proofs.YtgiiifadbnpfkaaGreatDoor
open Go Go.Hw
set_option linter.unusedSimpArgs false
set_option linter.unusedVariables false
/-! ### Orders -/
structure CmpOK {α : Type} (f : α → α → Int) : Prop where
  refl : ∀ a, f a a = 0
  anti : ∀ a b, f b a = - f a b
  tr : ∀ a b c, f a b < 0 → f b c < 0 → f a c < 0
  eq : ∀ a b, f a b = 0 → a = b
theorem cmpN_ok : CmpOK cmpN where
  refl a := by unfold cmpN; omega
  anti a b := by unfold cmpN; split <;> split <;> omega
  tr a b c := by unfold cmpN; intro h1 h2; split at h1 <;> split at h2 <;> (try split) <;> (try split at h1) <;> (try split at h2) <;> (try split) <;> omega
  eq a b := by unfold cmpN; intro h; split at h <;> (try split at h) <;> omega
theorem CmpOK.lex {α β : Type} {f : α → α → Int} {g : β → β → Int} (hf : CmpOK f) (hg : CmpOK g) : CmpOK (fun a b : α × β => if f a.1 b.1 ≠ 0 then f a.1 b.1 else g a.2 b.2) where
  refl a := by simp [hf.refl, hg.refl]
  anti a b := by
    (try simp only)
    by_cases h : f a.1 b.1 = 0
    · rw [if_neg (by rw [hf.anti, h]; simp), if_neg (by simp [h]), hg.anti]
    · rw [if_pos (by rw [hf.anti]; omega), if_pos h, hf.anti]
  tr a b c := by
    (try simp only)
    intro h1 h2
    by_cases e1 : f a.1 b.1 = 0
    · rw [if_neg (by simp [e1])] at h1
      have := hf.eq _ _ e1
      rw [this]
      by_cases e2 : f b.1 c.1 = 0
      · rw [if_neg (by simp [e2])] at h2 ⊢
        exact hg.tr _ _ _ h1 h2
      · rw [if_pos e2] at h2 ⊢
        exact h2
    · rw [if_pos e1] at h1
      by_cases e2 : f b.1 c.1 = 0
      · have := hf.eq _ _ e2
        rw [← this, if_pos e1]
        exact h1
      · rw [if_pos e2] at h2
        have h3 := hf.tr _ _ _ h1 h2
        rw [if_pos (by omega)]
        exact h3
  eq a b := by
    (try simp only)
    intro h
    by_cases e1 : f a.1 b.1 = 0
    · rw [if_neg (by simp [e1])] at h
      exact Prod.ext (hf.eq _ _ e1) (hg.eq _ _ h)
    · rw [if_pos e1] at h
      exact absurd h e1
theorem CmpOK.pull {α β : Type} {f : β → β → Int} (hf : CmpOK f) (m : α → β) (hm : ∀ a b, m a = m b → a = b) : CmpOK (fun a b => f (m a) (m b)) :=
  ⟨fun a => hf.refl _, fun a b => hf.anti _ _, fun a b c h1 h2 => hf.tr _ _ _ h1 h2, fun a b h => hm _ _ (hf.eq _ _ h)⟩
theorem CmpOK.swo {α : Type} {f : α → α → Int} (hf : CmpOK f) : Go.Sort.SWO (Go.Proofs.ltOf f) where
  irrefl a := by simp [Go.Proofs.ltOf, hf.refl]
  trans a b c h1 h2 := by simp only [Go.Proofs.ltOf, decide_eq_true_eq] at *; exact hf.tr _ _ _ h1 h2
  ntrans a b c h1 h2 := by
    simp only [Go.Proofs.ltOf, decide_eq_false_iff_not] at *
    intro h
    have e1 := hf.anti a c
    rcases Int.lt_trichotomy (f a b) 0 with h3 | h3 | h3
    · exact h1 h3
    · have := hf.eq _ _ h3
      rw [this] at h
      exact h2 h
    · have h4 : f b a < 0 := by rw [hf.anti]; omega
      have h5 := hf.tr _ _ _ h4 h
      exact h2 h5
def cmpList {α : Type} (f : α → α → Int) : List α → List α → Int
  | [], [] => 0
  | [], _ :: _ => -1
  | _ :: _, [] => 1
  | a :: ls, b :: ms => if f a b ≠ 0 then f a b else cmpList f ls ms
theorem cmpList_refl {α : Type} {f : α → α → Int} (hf : CmpOK f) : ∀ a, cmpList f a a = 0
  | [] => rfl
  | a :: ls => by rw [cmpList, hf.refl]; simpa using cmpList_refl hf ls
theorem cmpList_anti {α : Type} {f : α → α → Int} (hf : CmpOK f) : ∀ a b, cmpList f b a = - cmpList f a b
  | [], [] => rfl
  | [], _ :: _ => rfl
  | _ :: _, [] => rfl
  | a :: ls, b :: ms => by
    rw [cmpList, cmpList, hf.anti a b]
    by_cases h : f a b = 0
    · rw [if_neg (by simp [h]), if_neg (by simp [h])]; exact cmpList_anti hf ls ms
    · rw [if_pos (by omega), if_pos h]
theorem cmpList_eq {α : Type} {f : α → α → Int} (hf : CmpOK f) : ∀ a b, cmpList f a b = 0 → a = b
  | [], [], _ => rfl
  | [], _ :: _, h => by simp [cmpList] at h
  | _ :: _, [], h => by simp [cmpList] at h
  | a :: ls, b :: ms, h => by
    rw [cmpList] at h
    by_cases h1 : f a b = 0
    · rw [if_neg (by simp [h1])] at h
      rw [hf.eq _ _ h1, cmpList_eq hf ls ms h]
    · rw [if_pos h1] at h; exact absurd h h1
theorem cmpList_tr {α : Type} {f : α → α → Int} (hf : CmpOK f) : ∀ a b c, cmpList f a b < 0 → cmpList f b c < 0 → cmpList f a c < 0
  | [], [], _, h, _ => by simp [cmpList] at h
  | [], _ :: _, [], _, h => by simp [cmpList] at h
  | [], _ :: _, _ :: _, _, _ => by simp [cmpList]
  | _ :: _, [], _, h, _ => by simp [cmpList] at h
  | _ :: _, _ :: _, [], _, h => by simp [cmpList] at h
  | a :: ls, b :: ms, c :: ns, h1, h2 => by
    rw [cmpList] at *
    by_cases e1 : f a b = 0
    · rw [if_neg (by simp [e1])] at h1
      have := hf.eq _ _ e1
      subst this
      by_cases e2 : f a c = 0
      · rw [if_neg (by simp [e2])] at h2 ⊢
        exact cmpList_tr hf ls ms ns h1 h2
      · rw [if_pos e2] at h2 ⊢
        exact h2
    · rw [if_pos e1] at h1
      by_cases e2 : f b c = 0
      · have := hf.eq _ _ e2
        subst this
        rw [if_pos e1]; exact h1
      · rw [if_pos e2] at h2
        have h3 := hf.tr _ _ _ h1 h2
        rw [if_pos (by omega)]; exact h3
theorem cmpList_ok {α : Type} {f : α → α → Int} (hf : CmpOK f) : CmpOK (cmpList f) := ⟨cmpList_refl hf, cmpList_anti hf, cmpList_tr hf, cmpList_eq hf⟩
theorem u8_ok : CmpOK (fun a b : UInt8 => cmpN a.toNat b.toNat) := cmpN_ok.pull (fun a : UInt8 => (a.toNat : Int)) (fun a b h => UInt8.toNat_inj.1 (Int.ofNat.inj h))
theorem cmp_step (m n : Nat) (c d : Int) (h : c = d) : (if m < n then (-1 : Int) else if n < m then 1 else c) = if cmpN m n ≠ 0 then cmpN m n else d := by
  subst h
  unfold cmpN
  by_cases h1 : m < n
  · have h1' : (m : Int) < n := by omega
    simp [h1, h1']
  · have h1' : ¬ (m : Int) < n := by omega
    by_cases h2 : n < m
    · have h2' : (n : Int) < m := by omega
      simp [h1, h2, h1', h2']
    · have h2' : ¬ (n : Int) < m := by omega
      simp [h1, h2, h1', h2']
theorem compareBytes_eq : ∀ a b : List UInt8, Lib.compareBytes a b = cmpList (fun a b : UInt8 => cmpN a.toNat b.toNat) a b
  | [], [] => rfl
  | [], _ :: _ => rfl
  | _ :: _, [] => rfl
  | a :: l, b :: m => by
    rw [Lib.compareBytes, cmpList]
    exact cmp_step a.toNat b.toNat _ _ (compareBytes_eq l m)
theorem ba_ext {a b : ByteArray} (h : a.data.toList = b.data.toList) : a = b := by
  obtain ⟨⟨a⟩⟩ := a; obtain ⟨⟨b⟩⟩ := b; simp at h; rw [h]
theorem cmpS_ok : CmpOK cmpS := by
  have h := (cmpList_ok u8_ok).pull (fun s : ByteArray => s.data.toList) (fun a b h => ba_ext h)
  have e : cmpS = fun a b : ByteArray => cmpList (fun a b : UInt8 => cmpN a.toNat b.toNat) a.data.toList b.data.toList := by
    funext a b; exact compareBytes_eq _ _
  rw [e]; exact h
theorem cmpT_ok : CmpOK cmpT := by
  have h := (cmpN_ok.lex (cmpN_ok.lex cmpS_ok)).pull (fun t : Tm => (t.kind, t.n, t.s)) (fun a b h => by cases a; cases b; simp at h; simp [h])
  have e : cmpT = fun a b : Tm => if cmpN a.kind b.kind ≠ 0 then cmpN a.kind b.kind else if cmpN a.n b.n ≠ 0 then cmpN a.n b.n else cmpS a.s b.s := by
    funext a b; simp only [cmpT, orL]; split <;> (try rfl); split <;> (try rfl); split <;> omega
  rw [e]; exact h
def cmpA (x y : At) : Int := if orL [cmpS x.name y.name, cmpN x.args.length y.args.length, cmpT x.b y.b] ≠ 0 then orL [cmpS x.name y.name, cmpN x.args.length y.args.length, cmpT x.b y.b] else cmpList cmpT x.args y.args
theorem or3 (a b c d : Int) : (if orL [a, b, c] ≠ 0 then orL [a, b, c] else d) = if a ≠ 0 then a else if b ≠ 0 then b else if c ≠ 0 then c else d := by
  simp only [orL]
  by_cases h1 : a = 0
  · by_cases h2 : b = 0
    · by_cases h3 : c = 0 <;> simp [h1, h2, h3]
    · simp [h1, h2]
  · simp [h1]
theorem cmpA_eq (x y : At) : cmpA x y = if cmpS x.name y.name ≠ 0 then cmpS x.name y.name else if cmpN x.args.length y.args.length ≠ 0 then cmpN x.args.length y.args.length else if cmpT x.b y.b ≠ 0 then cmpT x.b y.b else cmpList cmpT x.args y.args := or3 _ _ _ _
/-- The number of arguments goes ahead: an order all the same. -/
theorem cmpA_ok : CmpOK cmpA := by
  have hl : CmpOK (fun a b : List Tm => if cmpN a.length b.length ≠ 0 then cmpN a.length b.length else cmpList cmpT a b) := by
    have hh := cmpList_ok cmpT_ok
    refine ⟨fun a => by simp [cmpN_ok.refl, hh.refl], fun a b => ?_, fun a b c h1 h2 => ?_, fun a b h => ?_⟩
    · (try simp only)
      by_cases h : cmpN (a.length : Int) b.length = 0
      · rw [if_neg (by rw [cmpN_ok.anti, h]; simp), if_neg (by simp [h]), hh.anti]
      · rw [if_pos (by rw [cmpN_ok.anti]; omega), if_pos h, cmpN_ok.anti]
    · (try simp only at *)
      by_cases e1 : cmpN (a.length : Int) b.length = 0
      · rw [if_neg (by simp [e1])] at h1
        have hl := cmpN_ok.eq _ _ e1
        rw [hl]
        by_cases e2 : cmpN (b.length : Int) c.length = 0
        · rw [if_neg (by simp [e2])] at h2 ⊢
          exact hh.tr _ _ _ h1 h2
        · rw [if_pos e2] at h2 ⊢; exact h2
      · rw [if_pos e1] at h1
        by_cases e2 : cmpN (b.length : Int) c.length = 0
        · have hl := cmpN_ok.eq _ _ e2
          rw [← hl, if_pos e1]; exact h1
        · rw [if_pos e2] at h2
          have h3 := cmpN_ok.tr _ _ _ h1 h2
          rw [if_pos (by omega)]; exact h3
    · (try simp only at h)
      by_cases e1 : cmpN (a.length : Int) b.length = 0
      · rw [if_neg (by simp [e1])] at h; exact hh.eq _ _ h
      · rw [if_pos e1] at h; exact absurd h e1
  have hb := cmpN_ok.lex (cmpT_ok.lex (cmpList_ok cmpT_ok))
  have h := (cmpS_ok.lex hb).pull (fun x : At => (x.name, (x.args.length : Int), x.b, x.args)) (fun a b h => by cases a; cases b; simp at h; simp [h])
  have e : cmpA = fun x y : At => if cmpS x.name y.name ≠ 0 then cmpS x.name y.name else if cmpN x.args.length y.args.length ≠ 0 then cmpN x.args.length y.args.length else if cmpT x.b y.b ≠ 0 then cmpT x.b y.b else cmpList cmpT x.args y.args := by
    funext x y; exact cmpA_eq x y
  rw [e]; exact h
theorem cmpList_drop {l m : List Tm} {i : Nat} {x y : Tm} (hx : l[i]? = some x) (hy : m[i]? = some y) (h : cmpT x y = 0) : cmpList cmpT (l.drop i) (m.drop i) = cmpList cmpT (l.drop (i + 1)) (m.drop (i + 1)) := by
  obtain ⟨h1, rfl⟩ := List.getElem?_eq_some_iff.1 hx
  obtain ⟨h2, rfl⟩ := List.getElem?_eq_some_iff.1 hy
  rw [List.drop_eq_getElem_cons h1, List.drop_eq_getElem_cons h2, cmpList, if_neg (by simp [h])]
theorem cmpList_hit {l m : List Tm} {i : Nat} {x y : Tm} (hx : l[i]? = some x) (hy : m[i]? = some y) (h : cmpT x y ≠ 0) : cmpList cmpT (l.drop i) (m.drop i) = cmpT x y := by
  obtain ⟨h1, rfl⟩ := List.getElem?_eq_some_iff.1 hx
  obtain ⟨h2, rfl⟩ := List.getElem?_eq_some_iff.1 hy
  rw [List.drop_eq_getElem_cons h1, List.drop_eq_getElem_cons h2, cmpList, if_pos h]

set_option maxRecDepth 10000 in
theorem cmpF_calls (ls ms : List Tm) (a1 a2 : Option Addr) (c1 c2 : Nat) (h1 : ls.length ≤ 1099511627776) (h2 : ms.length ≤ 1099511627776) (w : World) (hr1 : RT w a1 ls) (hr2 : RT w a2 ms) : Calls Tryz.prog 70 #[.slice a1 ls.length c1, .slice a2 ms.length c2, .func (.func 69) #[] #[]] w fun e w' => e = .returned (.int .i64 (cmpList cmpT ls ms)) ∧ Fr0 w w' := by
  refine enterS (args := [.slice a1 ls.length c1, .slice a2 ms.length c2, .func (.func 69) #[] #[]]) (fun _ => False) Tryz.func70 rfl Tryz.ntmps70 rfl rfl ?_
  refine WC.seq ?_
  refine WC.region ?_
  refine WL.val (OV.assign rfl) rfl ?_
  refine WL.nil ?_
  refine WX.next ?_
  refine WC.seq ?_
  refine WC.seq ?_
  refine WC.region ?_
  refine WL.val (OV.move rfl) rfl ?_
  first
  | (refine WL.val (OV.lenSlice rfl T.u32) rfl ?_)
  | (refine WL.val (OV.lenStr rfl T.u32) rfl ?_)
  refine WL.val (OV.move rfl) rfl ?_
  refine WL.nil ?_
  refine WX.next ?_
  refine WC.block ?_
  refine WC.loop1 (fun (i : Nat) => [(0, .slice a1 ls.length c1), (1, .slice a2 ms.length c2), (2, .func (.func 69) #[] #[]), (11, .slice a1 ls.length c1), (12, .int .i64 (ls.length : Int)), (13, .int .i64 (i : Int))])
      (fun i w' => (i ≤ ls.length ∧ cmpList cmpT ls ms = cmpList cmpT (ls.drop i) (ms.drop i)) ∧ Sat w (fun _ => False) (fun b => b < w.heap.size) w ([]) w')
      (fun i => ls.length - i) 0 ⟨rfl, rfl, rfl, rfl, rfl, rfl, trivial⟩ (fun w' hw => ⟨⟨by omega, rfl⟩, hw⟩) ?_
  intro i
  refine WC.pure (fun hi => ?_)
  obtain ⟨hi, hz⟩ := hi
  refine WC.seq ?_
  refine WC.region ?_
  refine WL.val (OV.lss rfl rfl) rfl ?_
  refine WL.nil ?_
  refine WX.next ?_
  refine WC.seq ?_
  refine WC.cond rfl (fun c14 => ?_) (fun c14 => ?_)
  · try simp only [decide_eq_true_eq, decide_eq_false_iff_not, Bool.not_eq_true', Bool.not_eq_false'] at c14
    refine WC.skip ?_
    refine WX.next ?_
    refine WC.seq ?_
    refine WC.block ?_
    refine WC.seq ?_
    refine WC.region ?_
    refine WL.val (OV.move rfl) rfl ?_
    obtain ⟨q1, t1, rfl, ht1, _, _, hc1⟩ := hr1.get (i := i) (by omega)
    refine WL.val ((OV.indexSlice rfl rfl T.u32 T.z31 (by omega)).cast (u := .pointer (some (q1.add (i * 3)))) (by rw [Int.toNat_natCast])) rfl ?_
    refine WL.val (OV.loadN (cs := tmC t1) rfl T.u31 rfl T.z31 (fun _ hw j v hj => hw.keeps _ _ (hc1 j v hj))) rfl ?_
    refine WL.alloc T.zr31 rfl ?_
    intro bb8
    refine WL.val (OV.assign rfl) rfl ?_
    refine WL.storeAll (vs := tmC t1) rfl rfl rfl T.z31 rfl ?_
    refine WL.nil ?_
    refine WX.next ?_
    refine WC.seq ?_
    refine WC.seq ?_
    refine WC.region ?_
    refine WL.val (OV.move rfl) rfl ?_
    refine WL.val (OV.move rfl) rfl ?_
    first
    | (refine WL.val (OV.lenSlice rfl T.u32) rfl ?_)
    | (refine WL.val (OV.lenStr rfl T.u32) rfl ?_)
    refine WL.val (OV.geq rfl rfl) rfl ?_
    refine WL.nil ?_
    refine WX.next ?_
    refine WC.cond rfl (fun c21 => ?_) (fun c21 => ?_)
    · try simp only [decide_eq_true_eq, decide_eq_false_iff_not, Bool.not_eq_true', Bool.not_eq_false'] at c21
      refine WC.seq ?_
      refine WC.region ?_
      refine WL.val (OV.assign rfl) rfl ?_
      refine WL.nil ?_
      refine WX.next ?_
      refine WC.ret ?_
      refine WX.then_ret ?_
      refine WX.block_ret ?_
      refine WX.then_ret ?_
      refine WX.then_ret ?_
      refine WX.block_ret ?_
      refine WX.then_ret ?_
      exact WX.ret1 rfl rfl rfl (fun w' hw => ⟨by congr 2; rw [hz, (show ms.drop i = [] from List.drop_eq_nil_of_le (by omega)), List.drop_eq_getElem_cons (by omega : i < ls.length)]; rfl, hw.fr⟩)
    · try simp only [decide_eq_true_eq, decide_eq_false_iff_not, Bool.not_eq_true', Bool.not_eq_false'] at c21
      refine WC.skip ?_
      refine WX.next ?_
      refine WC.seq ?_
      refine WC.region ?_
      refine WL.val (OV.move rfl) rfl ?_
      refine WL.val (OV.move rfl) rfl ?_
      obtain ⟨q2, t2, rfl, ht2, _, _, hc2⟩ := hr2.get (i := i) (by omega)
      refine WL.val ((OV.indexSlice rfl rfl T.u32 T.z31 (by omega)).cast (u := .pointer (some (q2.add (i * 3)))) (by rw [Int.toNat_natCast])) rfl ?_
      refine WL.val (OV.loadN (cs := tmC t2) rfl T.u31 rfl T.z31 (fun _ hw j v hj => hw.keeps _ _ (hc2 j v hj))) rfl ?_
      refine WL.alloc T.zr31 rfl ?_
      intro b9
      refine WL.storeAll (vs := tmC t2) rfl rfl rfl T.z31 rfl ?_
      refine WL.nil ?_
      refine WX.next ?_
      refine WC.seq ?_
      refine WC.region ?_
      refine WL.val (OV.move rfl) rfl ?_
      refine WL.val (OV.loadN (cs := tmC t1) rfl T.u31 rfl T.z31 (fun _ hw j v hj => by rw [add_off, Nat.zero_add]; exact own_cells hw (.tail _ (.head _)) j v hj)) rfl ?_
      refine WL.val (OV.loadN (cs := tmC t2) rfl T.u31 rfl T.z31 (fun _ hw j v hj => by rw [add_off, Nat.zero_add]; exact own_cells hw (.head _) j v hj)) rfl ?_
      refine WL.callV (ι := Unit) (f := 69) (caps := []) (vs := [tmV t1, tmV t2]) (vv := fun _ => .int .i64 (cmpT t1 t2)) (SS := fun _ => Sat w (fun _ => False) (fun b => b < w.heap.size) w (own b9 (.cells (tmC t2).toArray 31 (0, 0)) :: own bb8 (.cells (tmC t1).toArray 31 (0, 0)) :: [])) (by kernel_rfl) rfl rfl rfl (fun w' hw' => (cmpT_calls t1 t2 w').mono (fun en w'' ⟨h1, h2⟩ => ⟨(), h1, hw'.keep h2⟩)) ?_
      intro _
      refine WL.val (OV.assign rfl) rfl ?_
      refine WL.nil ?_
      refine WX.next ?_
      refine WC.seq ?_
      refine WC.region ?_
      refine WL.val (OV.move rfl) rfl ?_
      refine WL.val (OV.neq rfl rfl) rfl ?_
      refine WL.nil ?_
      refine WX.next ?_
      refine WC.cond rfl (fun c31 => ?_) (fun c31 => ?_)
      · try simp only [decide_eq_true_eq, decide_eq_false_iff_not, Bool.not_eq_true', Bool.not_eq_false'] at c31
        refine WC.seq ?_
        refine WC.region ?_
        refine WL.val (OV.move rfl) rfl ?_
        refine WL.val (OV.assign rfl) rfl ?_
        refine WL.nil ?_
        refine WX.next ?_
        refine WC.ret ?_
        refine WX.block_ret ?_
        refine WX.then_ret ?_
        refine WX.then_ret ?_
        refine WX.block_ret ?_
        refine WX.then_ret ?_
        exact WX.ret1 rfl rfl rfl (fun w' hw => ⟨by congr 2; rw [hz, cmpList_hit ht1 ht2 (by simpa using c31)], hw.fr⟩)
      · try simp only [decide_eq_true_eq, decide_eq_false_iff_not, Bool.not_eq_true', Bool.not_eq_false'] at c31
        refine WC.skip ?_
        refine WX.block_normal ?_
        refine WX.next ?_
        refine WC.region ?_
        refine WL.val (OV.addN (j := 1) rfl rfl (by omega)) rfl ?_
        refine WL.val (OV.move rfl) rfl ?_
        refine WL.nil ?_
        have h0 : cmpT t1 t2 = 0 := by simpa using c31
        exact WX.round1 (i + 1) ⟨rfl, rfl, rfl, rfl, rfl, rfl, trivial⟩ (fun w' hw => ⟨⟨by omega, by rw [hz, cmpList_drop ht1 ht2 h0]⟩, hw.drop.drop⟩) (by show ls.length - (i + 1) < ls.length - i; omega)
  · try simp only [decide_eq_true_eq, decide_eq_false_iff_not, Bool.not_eq_true', Bool.not_eq_false'] at c14
    refine WC.exit ?_
    refine WX.then_exit ?_
    refine WX.then_exit ?_
    refine WX.block_hit ?_
    refine WX.next ?_
    refine WC.seq ?_
    refine WC.seq ?_
    refine WC.region ?_
    refine WL.val (OV.move rfl) rfl ?_
    first
    | (refine WL.val (OV.lenSlice rfl T.u32) rfl ?_)
    | (refine WL.val (OV.lenStr rfl T.u32) rfl ?_)
    refine WL.val (OV.move rfl) rfl ?_
    first
    | (refine WL.val (OV.lenSlice rfl T.u32) rfl ?_)
    | (refine WL.val (OV.lenStr rfl T.u32) rfl ?_)
    refine WL.val (OV.lss rfl rfl) rfl ?_
    refine WL.nil ?_
    refine WX.next ?_
    refine WC.cond rfl (fun c38 => ?_) (fun c38 => ?_)
    · try simp only [decide_eq_true_eq, decide_eq_false_iff_not, Bool.not_eq_true', Bool.not_eq_false'] at c38
      refine WC.seq ?_
      refine WC.region ?_
      refine WL.val (OV.assign rfl) rfl ?_
      refine WL.nil ?_
      refine WX.next ?_
      refine WC.ret ?_
      refine WX.then_ret ?_
      exact WX.ret1 rfl rfl rfl (fun w' hw => ⟨by congr 2; rw [hz, (show ls.drop i = [] from List.drop_eq_nil_of_le (by omega)), List.drop_eq_getElem_cons (by omega : i < ms.length)]; rfl, hw.fr⟩)
    · try simp only [decide_eq_true_eq, decide_eq_false_iff_not, Bool.not_eq_true', Bool.not_eq_false'] at c38
      refine WC.skip ?_
      refine WX.next ?_
      refine WC.seq ?_
      refine WC.region ?_
      refine WL.val (OV.assign rfl) rfl ?_
      refine WL.nil ?_
      refine WX.next ?_
      refine WC.ret ?_
      exact WX.ret1 rfl rfl rfl (fun w' hw => ⟨by congr 2; rw [hz, (show ls.drop i = [] from List.drop_eq_nil_of_le (by omega)), (show ms.drop i = [] from List.drop_eq_nil_of_le (by omega))]; rfl, hw.fr⟩)

set_option maxRecDepth 10000 in
theorem cmpA_calls (x y : At) (a1 a2 : Option Addr) (c1 c2 : Nat) (h1 : x.args.length ≤ 1099511627776) (h2 : y.args.length ≤ 1099511627776) (w : World) (hr1 : RT w a1 x.args) (hr2 : RT w a2 y.args) : Calls Tryz.prog 38 #[atV x a1 c1, atV y a2 c2] w fun e w' => e = .returned (.int .i64 (cmpA x y)) ∧ Fr0 w w' := by
  refine enterS (args := [atV x a1 c1, atV y a2 c2]) (fun _ => False) Tryz.func38 rfl Tryz.ntmps38 rfl rfl ?_
  refine WC.seq ?_
  refine WC.region ?_
  refine WL.box rfl rfl rfl ?_
  intro b2
  refine WL.box rfl rfl rfl ?_
  intro b3
  refine WL.val (OV.assign rfl) rfl ?_
  refine WL.nil ?_
  refine WX.next ?_
  refine WC.seq ?_
  refine WC.seq ?_
  refine WC.drawn (fun w' => w'.heap[b2]? = some (.cells (atC x a1 c1).toArray 34 (0, 0)) ∧ w'.heap[b3]? = some (.cells (atC y a2 c2).toArray 34 (0, 0))) [] (by kernel_rfl) (by kernel_rfl) (m := 20) rfl ?_
  first
  | (refine WH.free 0 rfl (by kernel_rfl) (by kernel_rfl) (by kernel_rfl) rfl (fun _ => (fun _ hw => ⟨hw.it (own b2 (.cells (atC x a1 c1).toArray 34 (0, 0))) (by simp), hw.it (own b3 (.cells (atC y a2 c2).toArray 34 (0, 0))) (by simp)⟩)) (OV.fieldAddr0 (off := 3) rfl T.u34 rfl) rfl (listed' := [true, false, false, false, false, false, false, false, false, false, false, false, false, false, false, false, false, false, false, false]) rfl ?_)
  | (refine WH.free 0 rfl (by kernel_rfl) (by kernel_rfl) (by kernel_rfl) rfl (fun _ => (fun _ hw => ⟨hw.it (own b2 (.cells (atC x a1 c1).toArray 34 (0, 0))) (by simp), hw.it (own b3 (.cells (atC y a2 c2).toArray 34 (0, 0))) (by simp)⟩)) (OV.fieldAddr (off := 3) rfl T.u34 rfl) rfl (listed' := [true, false, false, false, false, false, false, false, false, false, false, false, false, false, false, false, false, false, false, false]) rfl ?_)
  refine WH.take 1 rfl (by kernel_rfl) (by kernel_rfl) (by kernel_rfl) (by kernel_rfl) (fun _ hw => ⟨hw.it (own b2 (.cells (atC x a1 c1).toArray 34 (0, 0))) (by simp), hw.it (own b3 (.cells (atC y a2 c2).toArray 34 (0, 0))) (by simp)⟩) (OV.load1 (v := .string x.name) rfl T.u9 rfl (fun _ hw => (cell_at hw.1 (o := 3) rfl).1)) rfl (listed' := [true, true, false, false, false, false, false, false, false, false, false, false, false, false, false, false, false, false, false, false]) rfl ?_
  first
  | (refine WH.free 2 rfl (by kernel_rfl) (by kernel_rfl) (by kernel_rfl) rfl (fun _ => (fun _ hw => ⟨hw.it (own b2 (.cells (atC x a1 c1).toArray 34 (0, 0))) (by simp), hw.it (own b3 (.cells (atC y a2 c2).toArray 34 (0, 0))) (by simp)⟩)) (OV.fieldAddr0 (off := 3) rfl T.u34 rfl) rfl (listed' := [true, true, true, false, false, false, false, false, false, false, false, false, false, false, false, false, false, false, false, false]) rfl ?_)
  | (refine WH.free 2 rfl (by kernel_rfl) (by kernel_rfl) (by kernel_rfl) rfl (fun _ => (fun _ hw => ⟨hw.it (own b2 (.cells (atC x a1 c1).toArray 34 (0, 0))) (by simp), hw.it (own b3 (.cells (atC y a2 c2).toArray 34 (0, 0))) (by simp)⟩)) (OV.fieldAddr (off := 3) rfl T.u34 rfl) rfl (listed' := [true, true, true, false, false, false, false, false, false, false, false, false, false, false, false, false, false, false, false, false]) rfl ?_)
  refine WH.take 3 rfl (by kernel_rfl) (by kernel_rfl) (by kernel_rfl) (by kernel_rfl) (fun _ hw => ⟨hw.it (own b2 (.cells (atC x a1 c1).toArray 34 (0, 0))) (by simp), hw.it (own b3 (.cells (atC y a2 c2).toArray 34 (0, 0))) (by simp)⟩) (OV.load1 (v := .string y.name) rfl T.u9 rfl (fun _ hw => (cell_at hw.2 (o := 3) rfl).1)) rfl (listed' := [true, true, true, true, false, false, false, false, false, false, false, false, false, false, false, false, false, false, false, false]) rfl ?_
  first
  | (refine WH.free 5 rfl (by kernel_rfl) (by kernel_rfl) (by kernel_rfl) rfl (fun _ => (fun _ hw => ⟨hw.it (own b2 (.cells (atC x a1 c1).toArray 34 (0, 0))) (by simp), hw.it (own b3 (.cells (atC y a2 c2).toArray 34 (0, 0))) (by simp)⟩)) (OV.fieldAddr0 (off := 4) rfl T.u34 rfl) rfl (listed' := [true, true, true, true, false, true, false, false, false, false, false, false, false, false, false, false, false, false, false, false]) rfl ?_)
  | (refine WH.free 5 rfl (by kernel_rfl) (by kernel_rfl) (by kernel_rfl) rfl (fun _ => (fun _ hw => ⟨hw.it (own b2 (.cells (atC x a1 c1).toArray 34 (0, 0))) (by simp), hw.it (own b3 (.cells (atC y a2 c2).toArray 34 (0, 0))) (by simp)⟩)) (OV.fieldAddr (off := 4) rfl T.u34 rfl) rfl (listed' := [true, true, true, true, false, true, false, false, false, false, false, false, false, false, false, false, false, false, false, false]) rfl ?_)
  refine WH.take 6 rfl (by kernel_rfl) (by kernel_rfl) (by kernel_rfl) (by kernel_rfl) (fun _ hw => ⟨hw.it (own b2 (.cells (atC x a1 c1).toArray 34 (0, 0))) (by simp), hw.it (own b3 (.cells (atC y a2 c2).toArray 34 (0, 0))) (by simp)⟩) (OV.load1 (v := .slice a1 x.args.length c1) rfl T.u32 rfl (fun _ hw => (cell_at hw.1 (o := 4) rfl).1)) rfl (listed' := [true, true, true, true, false, true, true, false, false, false, false, false, false, false, false, false, false, false, false, false]) rfl ?_
  first
  | (refine WH.free 7 rfl (by kernel_rfl) (by kernel_rfl) (by kernel_rfl) rfl (fun _ => (fun _ hw => ⟨hw.it (own b2 (.cells (atC x a1 c1).toArray 34 (0, 0))) (by simp), hw.it (own b3 (.cells (atC y a2 c2).toArray 34 (0, 0))) (by simp)⟩)) (OV.lenSlice rfl T.u32) rfl (listed' := [true, true, true, true, false, true, true, true, false, false, false, false, false, false, false, false, false, false, false, false]) rfl ?_)
  | (refine WH.free 7 rfl (by kernel_rfl) (by kernel_rfl) (by kernel_rfl) rfl (fun _ => (fun _ hw => ⟨hw.it (own b2 (.cells (atC x a1 c1).toArray 34 (0, 0))) (by simp), hw.it (own b3 (.cells (atC y a2 c2).toArray 34 (0, 0))) (by simp)⟩)) (OV.lenStr rfl T.u32) rfl (listed' := [true, true, true, true, false, true, true, true, false, false, false, false, false, false, false, false, false, false, false, false]) rfl ?_)
  first
  | (refine WH.free 8 rfl (by kernel_rfl) (by kernel_rfl) (by kernel_rfl) rfl (fun _ => (fun _ hw => ⟨hw.it (own b2 (.cells (atC x a1 c1).toArray 34 (0, 0))) (by simp), hw.it (own b3 (.cells (atC y a2 c2).toArray 34 (0, 0))) (by simp)⟩)) (OV.fieldAddr0 (off := 4) rfl T.u34 rfl) rfl (listed' := [true, true, true, true, false, true, true, true, true, false, false, false, false, false, false, false, false, false, false, false]) rfl ?_)
  | (refine WH.free 8 rfl (by kernel_rfl) (by kernel_rfl) (by kernel_rfl) rfl (fun _ => (fun _ hw => ⟨hw.it (own b2 (.cells (atC x a1 c1).toArray 34 (0, 0))) (by simp), hw.it (own b3 (.cells (atC y a2 c2).toArray 34 (0, 0))) (by simp)⟩)) (OV.fieldAddr (off := 4) rfl T.u34 rfl) rfl (listed' := [true, true, true, true, false, true, true, true, true, false, false, false, false, false, false, false, false, false, false, false]) rfl ?_)
  refine WH.take 9 rfl (by kernel_rfl) (by kernel_rfl) (by kernel_rfl) (by kernel_rfl) (fun _ hw => ⟨hw.it (own b2 (.cells (atC x a1 c1).toArray 34 (0, 0))) (by simp), hw.it (own b3 (.cells (atC y a2 c2).toArray 34 (0, 0))) (by simp)⟩) (OV.load1 (v := .slice a2 y.args.length c2) rfl T.u32 rfl (fun _ hw => (cell_at hw.2 (o := 4) rfl).1)) rfl (listed' := [true, true, true, true, false, true, true, true, true, true, false, false, false, false, false, false, false, false, false, false]) rfl ?_
  first
  | (refine WH.free 10 rfl (by kernel_rfl) (by kernel_rfl) (by kernel_rfl) rfl (fun _ => (fun _ hw => ⟨hw.it (own b2 (.cells (atC x a1 c1).toArray 34 (0, 0))) (by simp), hw.it (own b3 (.cells (atC y a2 c2).toArray 34 (0, 0))) (by simp)⟩)) (OV.lenSlice rfl T.u32) rfl (listed' := [true, true, true, true, false, true, true, true, true, true, true, false, false, false, false, false, false, false, false, false]) rfl ?_)
  | (refine WH.free 10 rfl (by kernel_rfl) (by kernel_rfl) (by kernel_rfl) rfl (fun _ => (fun _ hw => ⟨hw.it (own b2 (.cells (atC x a1 c1).toArray 34 (0, 0))) (by simp), hw.it (own b3 (.cells (atC y a2 c2).toArray 34 (0, 0))) (by simp)⟩)) (OV.lenStr rfl T.u32) rfl (listed' := [true, true, true, true, false, true, true, true, true, true, true, false, false, false, false, false, false, false, false, false]) rfl ?_)
  first
  | (refine WH.free 12 rfl (by kernel_rfl) (by kernel_rfl) (by kernel_rfl) rfl (fun _ => (fun _ hw => ⟨hw.it (own b2 (.cells (atC x a1 c1).toArray 34 (0, 0))) (by simp), hw.it (own b3 (.cells (atC y a2 c2).toArray 34 (0, 0))) (by simp)⟩)) (OV.fieldAddr0 (off := 0) rfl T.u34 rfl) rfl (listed' := [true, true, true, true, false, true, true, true, true, true, true, false, true, false, false, false, false, false, false, false]) rfl ?_)
  | (refine WH.free 12 rfl (by kernel_rfl) (by kernel_rfl) (by kernel_rfl) rfl (fun _ => (fun _ hw => ⟨hw.it (own b2 (.cells (atC x a1 c1).toArray 34 (0, 0))) (by simp), hw.it (own b3 (.cells (atC y a2 c2).toArray 34 (0, 0))) (by simp)⟩)) (OV.fieldAddr (off := 0) rfl T.u34 rfl) rfl (listed' := [true, true, true, true, false, true, true, true, true, true, true, false, true, false, false, false, false, false, false, false]) rfl ?_)
  refine WH.take 13 rfl (by kernel_rfl) (by kernel_rfl) (by kernel_rfl) (by kernel_rfl) (fun _ hw => ⟨hw.it (own b2 (.cells (atC x a1 c1).toArray 34 (0, 0))) (by simp), hw.it (own b3 (.cells (atC y a2 c2).toArray 34 (0, 0))) (by simp)⟩) (OV.loadN (cs := tmC x.b) rfl T.u31 rfl T.z31 (fun _ hw j v hj => by rw [add_off]; exact heap_part hw.1 (o := 0) (cs' := tmC x.b) rfl j v hj)) rfl (listed' := [true, true, true, true, false, true, true, true, true, true, true, false, true, true, false, false, false, false, false, false]) rfl ?_
  first
  | (refine WH.free 14 rfl (by kernel_rfl) (by kernel_rfl) (by kernel_rfl) rfl (fun _ => (fun _ hw => ⟨hw.it (own b2 (.cells (atC x a1 c1).toArray 34 (0, 0))) (by simp), hw.it (own b3 (.cells (atC y a2 c2).toArray 34 (0, 0))) (by simp)⟩)) (OV.fieldAddr0 (off := 0) rfl T.u34 rfl) rfl (listed' := [true, true, true, true, false, true, true, true, true, true, true, false, true, true, true, false, false, false, false, false]) rfl ?_)
  | (refine WH.free 14 rfl (by kernel_rfl) (by kernel_rfl) (by kernel_rfl) rfl (fun _ => (fun _ hw => ⟨hw.it (own b2 (.cells (atC x a1 c1).toArray 34 (0, 0))) (by simp), hw.it (own b3 (.cells (atC y a2 c2).toArray 34 (0, 0))) (by simp)⟩)) (OV.fieldAddr (off := 0) rfl T.u34 rfl) rfl (listed' := [true, true, true, true, false, true, true, true, true, true, true, false, true, true, true, false, false, false, false, false]) rfl ?_)
  refine WH.take 15 rfl (by kernel_rfl) (by kernel_rfl) (by kernel_rfl) (by kernel_rfl) (fun _ hw => ⟨hw.it (own b2 (.cells (atC x a1 c1).toArray 34 (0, 0))) (by simp), hw.it (own b3 (.cells (atC y a2 c2).toArray 34 (0, 0))) (by simp)⟩) (OV.loadN (cs := tmC y.b) rfl T.u31 rfl T.z31 (fun _ hw j v hj => by rw [add_off]; exact heap_part hw.2 (o := 0) (cs' := tmC y.b) rfl j v hj)) rfl (listed' := [true, true, true, true, false, true, true, true, true, true, true, false, true, true, true, true, false, false, false, false]) rfl ?_
  refine WH.only 4 rfl (by kernel_rfl) (listed' := [true, true, true, true, true, true, true, true, true, true, true, false, true, true, true, true, false, false, false, false]) rfl (fl' := false) rfl ?_
  refine WL.call0 (v := .int .i64 (cmpS x.name y.name)) (by kernel_rfl) rfl rfl (fun w' hw' => scmp_calls _ _ w') ?_
  refine WL.nil ?_
  refine WX.contD (by kernel_rfl) (fun _ => (fun _ hw => ⟨hw.it (own b2 (.cells (atC x a1 c1).toArray 34 (0, 0))) (by simp), hw.it (own b3 (.cells (atC y a2 c2).toArray 34 (0, 0))) (by simp)⟩)) ?_
  refine WH.only 11 rfl (by kernel_rfl) (listed' := [true, true, true, true, true, true, true, true, true, true, true, true, true, true, true, true, false, false, false, false]) rfl (fl' := false) rfl ?_
  refine WL.call0 (v := .int .i64 (cmpN x.args.length y.args.length)) (by kernel_rfl) rfl rfl (fun w' hw' => cmpN_calls _ _ w') ?_
  refine WL.nil ?_
  refine WX.contD (by kernel_rfl) (fun _ => (fun _ hw => ⟨hw.it (own b2 (.cells (atC x a1 c1).toArray 34 (0, 0))) (by simp), hw.it (own b3 (.cells (atC y a2 c2).toArray 34 (0, 0))) (by simp)⟩)) ?_
  refine WH.only 16 rfl (by kernel_rfl) (listed' := [true, true, true, true, true, true, true, true, true, true, true, true, true, true, true, true, true, false, false, false]) rfl (fl' := false) rfl ?_
  refine WL.call0 (v := .int .i64 (cmpT x.b y.b)) (by kernel_rfl) rfl rfl (fun w' hw' => cmpT_calls _ _ w') ?_
  refine WL.nil ?_
  refine WX.contD (by kernel_rfl) (fun _ => (fun _ hw => ⟨hw.it (own b2 (.cells (atC x a1 c1).toArray 34 (0, 0))) (by simp), hw.it (own b3 (.cells (atC y a2 c2).toArray 34 (0, 0))) (by simp)⟩)) ?_
  refine WH.only 17 rfl (by kernel_rfl) (listed' := [true, true, true, true, true, true, true, true, true, true, true, true, true, true, true, true, true, true, false, false]) rfl (fl' := false) rfl ?_
  refine WL.buildSliceN (xs := [.tmp 10, .tmp 17, .tmp 22]) (vs := ints [cmpS x.name y.name, cmpN x.args.length y.args.length, cmpT x.b y.b]) rfl T.u74 T.z3 T.zr3 rfl rfl rfl (by decide) rfl ?_
  intro b23
  refine WL.nil ?_
  refine WX.contD (by kernel_rfl) (fun _ => (fun _ hw => ⟨hw.it (own b2 (.cells (atC x a1 c1).toArray 34 (0, 0))) (by simp), hw.it (own b3 (.cells (atC y a2 c2).toArray 34 (0, 0))) (by simp)⟩)) ?_
  refine WH.only 18 rfl (by kernel_rfl) (listed' := [true, true, true, true, true, true, true, true, true, true, true, true, true, true, true, true, true, true, true, false]) rfl (fl' := false) rfl ?_
  refine WL.call0 (v := .int .i64 (orL [cmpS x.name y.name, cmpN x.args.length y.args.length, cmpT x.b y.b])) (by kernel_rfl) rfl rfl (fun w' hw' => or_calls [cmpS x.name y.name, cmpN x.args.length y.args.length, cmpT x.b y.b] b23 (by simp) w' (hw'.it _ (.head _))) ?_
  refine WL.nil ?_
  refine WX.contD (by kernel_rfl) (fun _ => (fun _ hw => ⟨hw.it (own b2 (.cells (atC x a1 c1).toArray 34 (0, 0))) (by simp), hw.it (own b3 (.cells (atC y a2 c2).toArray 34 (0, 0))) (by simp)⟩)) ?_
  refine WH.free 19 rfl (by kernel_rfl) (by kernel_rfl) (by kernel_rfl) rfl (fun _ => (fun _ hw => ⟨hw.it (own b2 (.cells (atC x a1 c1).toArray 34 (0, 0))) (by simp), hw.it (own b3 (.cells (atC y a2 c2).toArray 34 (0, 0))) (by simp)⟩)) (OV.assign rfl) rfl (listed' := [true, true, true, true, true, true, true, true, true, true, true, true, true, true, true, true, true, true, true, true]) rfl ?_
  refine WH.done (by kernel_rfl) ?_
  refine WX.next ?_
  refine WC.seq ?_
  refine WC.region ?_
  refine WL.val (OV.move rfl) rfl ?_
  refine WL.val (OV.neq rfl rfl) rfl ?_
  refine WL.nil ?_
  refine WX.next ?_
  refine WC.cond rfl (fun c26 => ?_) (fun c26 => ?_)
  · try simp only [decide_eq_true_eq, decide_eq_false_iff_not, Bool.not_eq_true', Bool.not_eq_false'] at c26
    refine WC.seq ?_
    refine WC.region ?_
    refine WL.val (OV.move rfl) rfl ?_
    refine WL.val (OV.assign rfl) rfl ?_
    refine WL.nil ?_
    refine WX.next ?_
    refine WC.ret ?_
    refine WX.then_ret ?_
    exact WX.ret1 rfl rfl rfl (fun w' hw => ⟨by congr 2; unfold cmpA; rw [if_pos (by simpa using c26)], hw.fr⟩)
  · try simp only [decide_eq_true_eq, decide_eq_false_iff_not, Bool.not_eq_true', Bool.not_eq_false'] at c26
    refine WC.skip ?_
    refine WX.next ?_
    refine WC.seq ?_
    refine WC.region ?_
    first
    | (refine WL.val (OV.fieldAddr0 (off := 4) rfl T.u34 rfl) rfl ?_)
    | (refine WL.val (OV.fieldAddr (off := 4) rfl T.u34 rfl) rfl ?_)
    first
    | (refine WL.val (OV.load1 rfl T.u32 rfl (fun _ hw => cell_own hw (.head _) rfl)) rfl ?_)
    | (refine WL.val (OV.load1 rfl T.u32 rfl (fun _ hw => cell_own hw (.tail _ (.head _)) rfl)) rfl ?_)
    | (refine WL.val (OV.load1 rfl T.u32 rfl (fun _ hw => cell_own hw (.tail _ (.tail _ (.head _))) rfl)) rfl ?_)
    | (refine WL.val (OV.load1 rfl T.u32 rfl (fun _ hw => cell_own hw (.tail _ (.tail _ (.tail _ (.head _)))) rfl)) rfl ?_)
    first
    | (refine WL.val (OV.fieldAddr0 (off := 4) rfl T.u34 rfl) rfl ?_)
    | (refine WL.val (OV.fieldAddr (off := 4) rfl T.u34 rfl) rfl ?_)
    first
    | (refine WL.val (OV.load1 rfl T.u32 rfl (fun _ hw => cell_own hw (.head _) rfl)) rfl ?_)
    | (refine WL.val (OV.load1 rfl T.u32 rfl (fun _ hw => cell_own hw (.tail _ (.head _)) rfl)) rfl ?_)
    | (refine WL.val (OV.load1 rfl T.u32 rfl (fun _ hw => cell_own hw (.tail _ (.tail _ (.head _))) rfl)) rfl ?_)
    | (refine WL.val (OV.load1 rfl T.u32 rfl (fun _ hw => cell_own hw (.tail _ (.tail _ (.tail _ (.head _)))) rfl)) rfl ?_)
    refine WL.call0 (v := .int .i64 (cmpList cmpT x.args y.args)) (vs := [.slice a1 x.args.length c1, .slice a2 y.args.length c2, .func (.func 69) #[] #[]]) (by kernel_rfl) rfl rfl (fun w' hw' => cmpF_calls x.args y.args a1 a2 c1 c2 h1 h2 w' (hr1.keeps hw'.keeps) (hr2.keeps hw'.keeps)) ?_
    refine WL.val (OV.assign rfl) rfl ?_
    refine WL.nil ?_
    refine WX.next ?_
    refine WC.ret ?_
    exact WX.ret1 rfl rfl rfl (fun w' hw => ⟨by congr 2; unfold cmpA; rw [if_neg (by simpa using c26)], hw.fr⟩)

end Go.Proofs.YtgiiifadbnpfkaaGreatDoor
