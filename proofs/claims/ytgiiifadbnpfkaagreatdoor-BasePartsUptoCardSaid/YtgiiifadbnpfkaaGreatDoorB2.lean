/- Contracts of functions of the program: what each returns and leaves in memory. Printed by gen.py and walk.py. -/
import Derived.Test.YtgiiifadbnpfkaaGreatDoorMg14
namespace Go.Proofs.YtgiiifadbnpfkaaGreatDoor
open Go Go.Hw
set_option linter.unusedSimpArgs false
set_option linter.unusedVariables false
abbrev SAYS : ByteArray := ⟨#[115, 97, 121, 115]⟩
def letB (c : UInt8) : Bool := decide (((97 : Int) ≤ c.toNat ∧ (c.toNat : Int) ≤ 122) ∨ ((65 : Int) ≤ c.toNat ∧ (c.toNat : Int) ≤ 90) ∨ ((48 : Int) ≤ c.toNat ∧ (c.toNat : Int) ≤ 57) ∨ (c.toNat : Int) = 95)
def bAt (s : ByteArray) (i : Nat) : UInt8 := s.data.toList.getD i 0
def nameB (s : ByteArray) : Bool := decide (s ≠ E0 ∧ s.size ≤ 32 ∧ s ≠ SAYS ∧ (97 : Int) ≤ (bAt s 0).toNat ∧ ((bAt s 0).toNat : Int) ≤ 122 ∧ ∀ i, i < s.size → letB (bAt s i) = true)
def T0 : Tm := ⟨0, 0, E0⟩
def badB (t : Tm) : Bool := !constB t && !varB t
def chkA (x : At) : Int := if nameB x.name = false then 21 else if 8 < x.args.length then 22 else if x.b ≠ T0 ∧ prinB x.b = false ∧ varB x.b = false then 23 else if x.args.any badB then 24 else 0
def factB (x : At) : Bool := decide (chkA x = 0) && !varB x.b && !x.args.any varB
theorem bget {s : ByteArray} {i : Nat} (h : i < s.size) : s[i]? = some (bAt s i) := by
  have h2 : i < s.data.toList.length := by simpa using h
  unfold bAt
  rw [List.getD_eq_getElem?_getD, List.getElem?_eq_getElem h2, Option.getD_some]
  rw [getElem?_pos s i h]
  rfl
theorem size_pos {s : ByteArray} (h : ¬ s = E0) : 0 < s.size := by
  rcases Nat.eq_zero_or_pos s.size with h0 | h0
  · exfalso
    apply h
    obtain ⟨⟨l⟩⟩ := s
    have : l.length = 0 := h0
    rw [List.length_eq_zero_iff.1 this]
  · exact h0
/-- term.none, as it is laid. -/
def NoneAt (w : World) : Prop := ∀ j v, (tmC T0)[j]? = some v → w.cell? ⟨1, j, none⟩ = some v
theorem NoneAt.keeps {w w' : World} (h : NoneAt w) (k : Keeps w w') : NoneAt w' := fun j v hj => k _ _ (h j v hj)
theorem nameB_no {s : ByteArray} {i : Nat} (h : i < s.size) (hl : ¬ letB (bAt s i) = true) : nameB s = false := by
  unfold nameB
  rw [decide_eq_false_iff_not]
  exact fun hh => hl (hh.2.2.2.2.2 i h)

set_option maxRecDepth 10000 in
theorem name_calls (s : ByteArray) (hs : s.size ≤ 1099511627776) (w : World) : Calls Tryz.prog 88 #[.string s] w fun e w' => e = .returned (.bool (nameB s)) ∧ Fr0 w w' := by
  refine enterS (args := [.string s]) (fun _ => False) Tryz.func88 rfl Tryz.ntmps88 rfl rfl ?_
  refine WC.seq ?_
  refine WC.region ?_
  refine WL.val (OV.assign rfl) rfl ?_
  refine WL.nil ?_
  refine WX.next ?_
  refine WC.seq ?_
  refine WC.seq ?_
  refine WC.region ?_
  refine WL.val (OV.move rfl) rfl ?_
  refine WL.val (OV.eqlS rfl rfl) rfl ?_
  refine WL.val (OV.move rfl) rfl ?_
  refine WL.split (t := 7) rfl (fun g7 => ?_) (fun g7 => ?_)
  · try simp only [decide_eq_true_eq, decide_eq_false_iff_not, Bool.not_eq_true', Bool.not_eq_false'] at g7
    refine WL.skip (b := true) rfl rfl rfl rfl ?_
    refine WL.skip (b := true) rfl rfl rfl rfl ?_
    refine WL.skip (b := true) rfl rfl rfl rfl ?_
    refine WL.val (OV.pickT rfl rfl) rfl ?_
    refine WL.val (OV.move rfl) rfl ?_
    refine WL.skip (b := true) rfl rfl rfl rfl ?_
    refine WL.skip (b := true) rfl rfl rfl rfl ?_
    refine WL.val (OV.pickT rfl rfl) rfl ?_
    refine WL.val (OV.move rfl) rfl ?_
    refine WL.skip (b := true) rfl rfl rfl rfl ?_
    refine WL.skip (b := true) rfl rfl rfl rfl ?_
    refine WL.skip (b := true) rfl rfl rfl rfl ?_
    refine WL.val (OV.pickT rfl rfl) rfl ?_
    refine WL.val (OV.move rfl) rfl ?_
    refine WL.skip (b := true) rfl rfl rfl rfl ?_
    refine WL.skip (b := true) rfl rfl rfl rfl ?_
    refine WL.skip (b := true) rfl rfl rfl rfl ?_
    refine WL.val (OV.pickT rfl rfl) rfl ?_
    refine WL.nil ?_
    refine WX.next ?_
    refine WC.condT rfl ?_
    refine WC.seq ?_
    refine WC.region ?_
    refine WL.val (OV.assign rfl) rfl ?_
    refine WL.nil ?_
    refine WX.next ?_
    refine WC.ret ?_
    refine WX.then_ret ?_
    exact WX.ret1 rfl rfl rfl (fun w' hw => ⟨by clear hw; rw [show nameB s = false from by unfold nameB; rw [decide_eq_false_iff_not]; rintro ⟨h1, h2, h3, h4, h5, h6⟩; first | exact h1 (by assumption) | exact h3 (by assumption) | omega], hw.fr⟩)
  · try simp only [decide_eq_true_eq, decide_eq_false_iff_not, Bool.not_eq_true', Bool.not_eq_false'] at g7
    refine WL.go (b := false) rfl rfl rfl ?_
    refine WL.val (OV.move rfl) rfl ?_
    refine WL.go (b := false) rfl rfl rfl ?_
    first
    | (refine WL.val (OV.lenSlice rfl T.u9) rfl ?_)
    | (refine WL.val (OV.lenStr rfl T.u9) rfl ?_)
    refine WL.go (b := false) rfl rfl rfl ?_
    refine WL.val (OV.gtr rfl rfl) rfl ?_
    refine WL.val (OV.pickF rfl rfl) rfl ?_
    refine WL.val (OV.move rfl) rfl ?_
    refine WL.split (t := 12) rfl (fun g12 => ?_) (fun g12 => ?_)
    · try simp only [decide_eq_true_eq, decide_eq_false_iff_not, Bool.not_eq_true', Bool.not_eq_false'] at g12
      refine WL.skip (b := true) rfl rfl rfl rfl ?_
      refine WL.skip (b := true) rfl rfl rfl rfl ?_
      refine WL.val (OV.pickT rfl rfl) rfl ?_
      refine WL.val (OV.move rfl) rfl ?_
      refine WL.skip (b := true) rfl rfl rfl rfl ?_
      refine WL.skip (b := true) rfl rfl rfl rfl ?_
      refine WL.skip (b := true) rfl rfl rfl rfl ?_
      refine WL.val (OV.pickT rfl rfl) rfl ?_
      refine WL.val (OV.move rfl) rfl ?_
      refine WL.skip (b := true) rfl rfl rfl rfl ?_
      refine WL.skip (b := true) rfl rfl rfl rfl ?_
      refine WL.skip (b := true) rfl rfl rfl rfl ?_
      refine WL.val (OV.pickT rfl rfl) rfl ?_
      refine WL.nil ?_
      refine WX.next ?_
      refine WC.condT rfl ?_
      refine WC.seq ?_
      refine WC.region ?_
      refine WL.val (OV.assign rfl) rfl ?_
      refine WL.nil ?_
      refine WX.next ?_
      refine WC.ret ?_
      refine WX.then_ret ?_
      exact WX.ret1 rfl rfl rfl (fun w' hw => ⟨by clear hw; rw [show nameB s = false from by unfold nameB; rw [decide_eq_false_iff_not]; rintro ⟨h1, h2, h3, h4, h5, h6⟩; first | exact h1 (by assumption) | exact h3 (by assumption) | omega], hw.fr⟩)
    · try simp only [decide_eq_true_eq, decide_eq_false_iff_not, Bool.not_eq_true', Bool.not_eq_false'] at g12
      refine WL.go (b := false) rfl rfl rfl ?_
      refine WL.val (OV.move rfl) rfl ?_
      refine WL.go (b := false) rfl rfl rfl ?_
      refine WL.val (OV.eqlS rfl rfl) rfl ?_
      refine WL.val (OV.pickF rfl rfl) rfl ?_
      refine WL.val (OV.move rfl) rfl ?_
      refine WL.split (t := 16) rfl (fun g16 => ?_) (fun g16 => ?_)
      · try simp only [decide_eq_true_eq, decide_eq_false_iff_not, Bool.not_eq_true', Bool.not_eq_false'] at g16
        refine WL.skip (b := true) rfl rfl rfl rfl ?_
        refine WL.skip (b := true) rfl rfl rfl rfl ?_
        refine WL.skip (b := true) rfl rfl rfl rfl ?_
        refine WL.val (OV.pickT rfl rfl) rfl ?_
        refine WL.val (OV.move rfl) rfl ?_
        refine WL.skip (b := true) rfl rfl rfl rfl ?_
        refine WL.skip (b := true) rfl rfl rfl rfl ?_
        refine WL.skip (b := true) rfl rfl rfl rfl ?_
        refine WL.val (OV.pickT rfl rfl) rfl ?_
        refine WL.nil ?_
        refine WX.next ?_
        refine WC.condT rfl ?_
        refine WC.seq ?_
        refine WC.region ?_
        refine WL.val (OV.assign rfl) rfl ?_
        refine WL.nil ?_
        refine WX.next ?_
        refine WC.ret ?_
        refine WX.then_ret ?_
        exact WX.ret1 rfl rfl rfl (fun w' hw => ⟨by clear hw; rw [show nameB s = false from by unfold nameB; rw [decide_eq_false_iff_not]; rintro ⟨h1, h2, h3, h4, h5, h6⟩; first | exact h1 (by assumption) | exact h3 (by assumption) | omega], hw.fr⟩)
      · try simp only [decide_eq_true_eq, decide_eq_false_iff_not, Bool.not_eq_true', Bool.not_eq_false'] at g16
        refine WL.go (b := false) rfl rfl rfl ?_
        refine WL.val (OV.move rfl) rfl ?_
        refine WL.go (b := false) rfl rfl rfl ?_
        have hsz := size_pos g7
        refine WL.val (OV.indexStr (r := bAt s 0) rfl rfl T.u9 ⟨by omega, bget hsz⟩) rfl ?_
        refine WL.go (b := false) rfl rfl rfl ?_
        refine WL.val (OV.lss rfl rfl) rfl ?_
        refine WL.val (OV.pickF rfl rfl) rfl ?_
        refine WL.val (OV.move rfl) rfl ?_
        refine WL.split (t := 21) rfl (fun g21 => ?_) (fun g21 => ?_)
        · try simp only [decide_eq_true_eq, decide_eq_false_iff_not, Bool.not_eq_true', Bool.not_eq_false'] at g21
          refine WL.skip (b := true) rfl rfl rfl rfl ?_
          refine WL.skip (b := true) rfl rfl rfl rfl ?_
          refine WL.skip (b := true) rfl rfl rfl rfl ?_
          refine WL.val (OV.pickT rfl rfl) rfl ?_
          refine WL.nil ?_
          refine WX.next ?_
          refine WC.condT rfl ?_
          refine WC.seq ?_
          refine WC.region ?_
          refine WL.val (OV.assign rfl) rfl ?_
          refine WL.nil ?_
          refine WX.next ?_
          refine WC.ret ?_
          refine WX.then_ret ?_
          exact WX.ret1 rfl rfl rfl (fun w' hw => ⟨by clear hw; rw [show nameB s = false from by unfold nameB; rw [decide_eq_false_iff_not]; rintro ⟨h1, h2, h3, h4, h5, h6⟩; first | exact h1 (by assumption) | exact h3 (by assumption) | omega], hw.fr⟩)
        · try simp only [decide_eq_true_eq, decide_eq_false_iff_not, Bool.not_eq_true', Bool.not_eq_false'] at g21
          refine WL.go (b := false) rfl rfl rfl ?_
          refine WL.val (OV.move rfl) rfl ?_
          refine WL.go (b := false) rfl rfl rfl ?_
          refine WL.val (OV.indexStr (r := bAt s 0) rfl rfl T.u9 ⟨by omega, bget hsz⟩) rfl ?_
          refine WL.go (b := false) rfl rfl rfl ?_
          refine WL.val (OV.gtr rfl rfl) rfl ?_
          refine WL.val (OV.pickF rfl rfl) rfl ?_
          refine WL.nil ?_
          refine WX.next ?_
          refine WC.cond rfl (fun c25 => ?_) (fun c25 => ?_)
          · try simp only [decide_eq_true_eq, decide_eq_false_iff_not, Bool.not_eq_true', Bool.not_eq_false'] at c25
            refine WC.seq ?_
            refine WC.region ?_
            refine WL.val (OV.assign rfl) rfl ?_
            refine WL.nil ?_
            refine WX.next ?_
            refine WC.ret ?_
            refine WX.then_ret ?_
            exact WX.ret1 rfl rfl rfl (fun w' hw => ⟨by clear hw; rw [show nameB s = false from by unfold nameB; rw [decide_eq_false_iff_not]; rintro ⟨h1, h2, h3, h4, h5, h6⟩; first | exact h1 (by assumption) | exact h3 (by assumption) | omega], hw.fr⟩)
          · try simp only [decide_eq_true_eq, decide_eq_false_iff_not, Bool.not_eq_true', Bool.not_eq_false'] at c25
            refine WC.skip ?_
            refine WX.next ?_
            refine WC.seq ?_
            refine WC.seq ?_
            refine WC.region ?_
            refine WL.val (OV.move rfl) rfl ?_
            first
            | (refine WL.val (OV.lenSlice rfl T.u9) rfl ?_)
            | (refine WL.val (OV.lenStr rfl T.u9) rfl ?_)
            refine WL.val (OV.move rfl) rfl ?_
            refine WL.nil ?_
            refine WX.next ?_
            refine WC.block ?_
            refine WC.loop1 (fun (i : Nat) => [(0, .string s), (27, .int .i64 (s.size : Int)), (28, .int .i64 (i : Int))])
                (fun i w' => (i ≤ s.size ∧ ∀ j, j < i → letB (bAt s j) = true) ∧ Sat w (fun _ => False) (fun b => b < w.heap.size) w ([]) w')
                (fun i => s.size - i) 0 ⟨rfl, rfl, rfl, trivial⟩ (fun w' hw => ⟨⟨by omega, by intro j hj; omega⟩, hw⟩) ?_
            intro i
            refine WC.pure (fun hi => ?_)
            obtain ⟨hi, hz⟩ := hi
            refine WC.seq ?_
            refine WC.region ?_
            refine WL.val (OV.lss rfl rfl) rfl ?_
            refine WL.nil ?_
            refine WX.next ?_
            refine WC.seq ?_
            refine WC.cond rfl (fun c29 => ?_) (fun c29 => ?_)
            · try simp only [decide_eq_true_eq, decide_eq_false_iff_not, Bool.not_eq_true', Bool.not_eq_false'] at c29
              refine WC.skip ?_
              refine WX.next ?_
              refine WC.seq ?_
              refine WC.block ?_
              refine WC.seq ?_
              refine WC.region ?_
              refine WL.val (OV.move rfl) rfl ?_
              refine WL.val (OV.assign rfl) rfl ?_
              refine WL.nil ?_
              refine WX.next ?_
              refine WC.seq ?_
              refine WC.region ?_
              refine WL.val (OV.move rfl) rfl ?_
              refine WL.val (OV.move rfl) rfl ?_
              obtain ⟨cb, hcb⟩ : ∃ cb, cb = bAt s i := ⟨_, rfl⟩
              refine WL.val (OV.indexStr (r := cb) rfl rfl T.u9 ⟨by omega, by rw [hcb]; exact bget (by omega)⟩) rfl ?_
              refine WL.val (OV.assign rfl) rfl ?_
              refine WL.nil ?_
              refine WX.next ?_
              refine WC.seq ?_
              refine WC.region ?_
              refine WL.val (OV.move rfl) rfl ?_
              refine WL.val (OV.geq rfl rfl) rfl ?_
              refine WL.val (OV.move rfl) rfl ?_
              refine WL.split (t := 36) rfl (fun g36 => ?_) (fun g36 => ?_)
              · try simp only [decide_eq_true_eq, decide_eq_false_iff_not, Bool.not_eq_true', Bool.not_eq_false'] at g36
                refine WL.go (b := true) rfl rfl rfl ?_
                refine WL.val (OV.move rfl) rfl ?_
                refine WL.go (b := true) rfl rfl rfl ?_
                refine WL.val (OV.leq rfl rfl) rfl ?_
                refine WL.val (OV.pickT rfl rfl) rfl ?_
                refine WL.val (OV.move rfl) rfl ?_
                refine WL.split (t := 40) rfl (fun g40 => ?_) (fun g40 => ?_)
                · try simp only [decide_eq_true_eq, decide_eq_false_iff_not, Bool.not_eq_true', Bool.not_eq_false'] at g40
                  refine WL.skip (b := true) rfl rfl rfl rfl ?_
                  refine WL.skip (b := true) rfl rfl rfl rfl ?_
                  refine WL.skip (b := true) rfl rfl rfl rfl ?_
                  refine WL.skipU rfl rfl rfl ?_
                  refine WL.skipU rfl rfl rfl ?_
                  refine WL.skip (b := true) rfl rfl rfl rfl ?_
                  refine WL.val (OV.pickT rfl rfl) rfl ?_
                  refine WL.val (OV.move rfl) rfl ?_
                  refine WL.skip (b := true) rfl rfl rfl rfl ?_
                  refine WL.skip (b := true) rfl rfl rfl rfl ?_
                  refine WL.skip (b := true) rfl rfl rfl rfl ?_
                  refine WL.skipU rfl rfl rfl ?_
                  refine WL.skipU rfl rfl rfl ?_
                  refine WL.skip (b := true) rfl rfl rfl rfl ?_
                  refine WL.val (OV.pickT rfl rfl) rfl ?_
                  refine WL.val (OV.move rfl) rfl ?_
                  refine WL.skip (b := true) rfl rfl rfl rfl ?_
                  refine WL.skip (b := true) rfl rfl rfl rfl ?_
                  refine WL.val (OV.pickT rfl rfl) rfl ?_
                  refine WL.val (OV.not rfl) rfl ?_
                  refine WL.nil ?_
                  refine WX.next ?_
                  refine WC.condF rfl ?_
                  refine WC.skip ?_
                  refine WX.block_normal ?_
                  refine WX.next ?_
                  refine WC.region ?_
                  refine WL.val (OV.addN (j := 1) rfl rfl (by omega)) rfl ?_
                  refine WL.val (OV.move rfl) rfl ?_
                  refine WL.nil ?_
                  exact WX.round1 (i + 1) ⟨rfl, rfl, rfl, trivial⟩ (fun w' hw => ⟨⟨by omega, fun j hj => by rcases Nat.lt_or_ge j i with h | h; exact hz j h; rw [show j = i by omega]; rw [← hcb]; unfold letB; rw [decide_eq_true_eq]; omega⟩, hw⟩) (by show s.size - (i + 1) < s.size - i; omega)
                · try simp only [decide_eq_true_eq, decide_eq_false_iff_not, Bool.not_eq_true', Bool.not_eq_false'] at g40
                  refine WL.go (b := false) rfl rfl rfl ?_
                  refine WL.val (OV.move rfl) rfl ?_
                  refine WL.go (b := false) rfl rfl rfl ?_
                  refine WL.val (OV.geq rfl rfl) rfl ?_
                  refine WL.go (b := false) rfl rfl rfl ?_
                  refine WL.val (OV.move rfl) rfl ?_
                  refine WL.split (t := 43) rfl (fun g43 => ?_) (fun g43 => ?_)
                  · try simp only [decide_eq_true_eq, decide_eq_false_iff_not, Bool.not_eq_true', Bool.not_eq_false'] at g43
                    refine WL.go (b := true) rfl rfl rfl ?_
                    refine WL.val (OV.move rfl) rfl ?_
                    refine WL.go (b := true) rfl rfl rfl ?_
                    refine WL.val (OV.leq rfl rfl) rfl ?_
                    refine WL.go (b := false) rfl rfl rfl ?_
                    refine WL.val (OV.pickT rfl rfl) rfl ?_
                    refine WL.val (OV.pickF rfl rfl) rfl ?_
                    refine WL.val (OV.move rfl) rfl ?_
                    refine WL.split (t := 48) rfl (fun g48 => ?_) (fun g48 => ?_)
                    · try simp only [decide_eq_true_eq, decide_eq_false_iff_not, Bool.not_eq_true', Bool.not_eq_false'] at g48
                      refine WL.skip (b := true) rfl rfl rfl rfl ?_
                      refine WL.skip (b := true) rfl rfl rfl rfl ?_
                      refine WL.skip (b := true) rfl rfl rfl rfl ?_
                      refine WL.skipU rfl rfl rfl ?_
                      refine WL.skipU rfl rfl rfl ?_
                      refine WL.skip (b := true) rfl rfl rfl rfl ?_
                      refine WL.val (OV.pickT rfl rfl) rfl ?_
                      refine WL.val (OV.move rfl) rfl ?_
                      refine WL.skip (b := true) rfl rfl rfl rfl ?_
                      refine WL.skip (b := true) rfl rfl rfl rfl ?_
                      refine WL.val (OV.pickT rfl rfl) rfl ?_
                      refine WL.val (OV.not rfl) rfl ?_
                      refine WL.nil ?_
                      refine WX.next ?_
                      refine WC.condF rfl ?_
                      refine WC.skip ?_
                      refine WX.block_normal ?_
                      refine WX.next ?_
                      refine WC.region ?_
                      refine WL.val (OV.addN (j := 1) rfl rfl (by omega)) rfl ?_
                      refine WL.val (OV.move rfl) rfl ?_
                      refine WL.nil ?_
                      exact WX.round1 (i + 1) ⟨rfl, rfl, rfl, trivial⟩ (fun w' hw => ⟨⟨by omega, fun j hj => by rcases Nat.lt_or_ge j i with h | h; exact hz j h; rw [show j = i by omega]; rw [← hcb]; unfold letB; rw [decide_eq_true_eq]; omega⟩, hw⟩) (by show s.size - (i + 1) < s.size - i; omega)
                    · try simp only [decide_eq_true_eq, decide_eq_false_iff_not, Bool.not_eq_true', Bool.not_eq_false'] at g48
                      refine WL.go (b := false) rfl rfl rfl ?_
                      refine WL.val (OV.move rfl) rfl ?_
                      refine WL.go (b := false) rfl rfl rfl ?_
                      refine WL.val (OV.geq rfl rfl) rfl ?_
                      refine WL.go (b := false) rfl rfl rfl ?_
                      refine WL.val (OV.move rfl) rfl ?_
                      refine WL.split (t := 51) rfl (fun g51 => ?_) (fun g51 => ?_)
                      · try simp only [decide_eq_true_eq, decide_eq_false_iff_not, Bool.not_eq_true', Bool.not_eq_false'] at g51
                        refine WL.go (b := true) rfl rfl rfl ?_
                        refine WL.val (OV.move rfl) rfl ?_
                        refine WL.go (b := true) rfl rfl rfl ?_
                        refine WL.val (OV.leq rfl rfl) rfl ?_
                        refine WL.go (b := false) rfl rfl rfl ?_
                        refine WL.val (OV.pickT rfl rfl) rfl ?_
                        refine WL.val (OV.pickF rfl rfl) rfl ?_
                        refine WL.val (OV.move rfl) rfl ?_
                        refine WL.split (t := 56) rfl (fun g56 => ?_) (fun g56 => ?_)
                        · try simp only [decide_eq_true_eq, decide_eq_false_iff_not, Bool.not_eq_true', Bool.not_eq_false'] at g56
                          refine WL.skip (b := true) rfl rfl rfl rfl ?_
                          refine WL.skip (b := true) rfl rfl rfl rfl ?_
                          refine WL.val (OV.pickT rfl rfl) rfl ?_
                          refine WL.val (OV.not rfl) rfl ?_
                          refine WL.nil ?_
                          refine WX.next ?_
                          refine WC.condF rfl ?_
                          refine WC.skip ?_
                          refine WX.block_normal ?_
                          refine WX.next ?_
                          refine WC.region ?_
                          refine WL.val (OV.addN (j := 1) rfl rfl (by omega)) rfl ?_
                          refine WL.val (OV.move rfl) rfl ?_
                          refine WL.nil ?_
                          exact WX.round1 (i + 1) ⟨rfl, rfl, rfl, trivial⟩ (fun w' hw => ⟨⟨by omega, fun j hj => by rcases Nat.lt_or_ge j i with h | h; exact hz j h; rw [show j = i by omega]; rw [← hcb]; unfold letB; rw [decide_eq_true_eq]; omega⟩, hw⟩) (by show s.size - (i + 1) < s.size - i; omega)
                        · try simp only [decide_eq_true_eq, decide_eq_false_iff_not, Bool.not_eq_true', Bool.not_eq_false'] at g56
                          refine WL.go (b := false) rfl rfl rfl ?_
                          refine WL.val (OV.move rfl) rfl ?_
                          refine WL.go (b := false) rfl rfl rfl ?_
                          refine WL.val (OV.eql rfl rfl) rfl ?_
                          refine WL.val (OV.pickF rfl rfl) rfl ?_
                          refine WL.val (OV.not rfl) rfl ?_
                          refine WL.nil ?_
                          refine WX.next ?_
                          refine WC.cond rfl (fun c60 => ?_) (fun c60 => ?_)
                          · try simp only [decide_eq_true_eq, decide_eq_false_iff_not, Bool.not_eq_true', Bool.not_eq_false'] at c60
                            refine WC.seq ?_
                            refine WC.region ?_
                            refine WL.val (OV.assign rfl) rfl ?_
                            refine WL.nil ?_
                            refine WX.next ?_
                            refine WC.ret ?_
                            refine WX.block_ret ?_
                            refine WX.then_ret ?_
                            refine WX.then_ret ?_
                            refine WX.block_ret ?_
                            refine WX.then_ret ?_
                            exact WX.ret1 rfl rfl rfl (fun w' hw => ⟨by clear hw; rw [nameB_no (i := i) (by omega) (by rw [← hcb]; unfold letB; rw [decide_eq_true_eq]; omega)], hw.fr⟩)
                          · try simp only [decide_eq_true_eq, decide_eq_false_iff_not, Bool.not_eq_true', Bool.not_eq_false'] at c60
                            refine WC.skip ?_
                            refine WX.block_normal ?_
                            refine WX.next ?_
                            refine WC.region ?_
                            refine WL.val (OV.addN (j := 1) rfl rfl (by omega)) rfl ?_
                            refine WL.val (OV.move rfl) rfl ?_
                            refine WL.nil ?_
                            exact WX.round1 (i + 1) ⟨rfl, rfl, rfl, trivial⟩ (fun w' hw => ⟨⟨by omega, fun j hj => by rcases Nat.lt_or_ge j i with h | h; exact hz j h; rw [show j = i by omega]; rw [← hcb]; unfold letB; rw [decide_eq_true_eq]; omega⟩, hw⟩) (by show s.size - (i + 1) < s.size - i; omega)
                      · try simp only [decide_eq_true_eq, decide_eq_false_iff_not, Bool.not_eq_true', Bool.not_eq_false'] at g51
                        refine WL.skip (b := false) rfl rfl rfl rfl ?_
                        refine WL.skip (b := false) rfl rfl rfl rfl ?_
                        refine WL.go (b := false) rfl rfl rfl ?_
                        refine WL.val (OV.pickF rfl rfl) rfl ?_
                        refine WL.val (OV.pickF rfl rfl) rfl ?_
                        refine WL.val (OV.move rfl) rfl ?_
                        refine WL.go (b := false) rfl rfl rfl ?_
                        refine WL.val (OV.move rfl) rfl ?_
                        refine WL.go (b := false) rfl rfl rfl ?_
                        refine WL.val (OV.eql rfl rfl) rfl ?_
                        refine WL.val (OV.pickF rfl rfl) rfl ?_
                        refine WL.val (OV.not rfl) rfl ?_
                        refine WL.nil ?_
                        refine WX.next ?_
                        refine WC.cond rfl (fun c60 => ?_) (fun c60 => ?_)
                        · try simp only [decide_eq_true_eq, decide_eq_false_iff_not, Bool.not_eq_true', Bool.not_eq_false'] at c60
                          refine WC.seq ?_
                          refine WC.region ?_
                          refine WL.val (OV.assign rfl) rfl ?_
                          refine WL.nil ?_
                          refine WX.next ?_
                          refine WC.ret ?_
                          refine WX.block_ret ?_
                          refine WX.then_ret ?_
                          refine WX.then_ret ?_
                          refine WX.block_ret ?_
                          refine WX.then_ret ?_
                          exact WX.ret1 rfl rfl rfl (fun w' hw => ⟨by clear hw; rw [nameB_no (i := i) (by omega) (by rw [← hcb]; unfold letB; rw [decide_eq_true_eq]; omega)], hw.fr⟩)
                        · try simp only [decide_eq_true_eq, decide_eq_false_iff_not, Bool.not_eq_true', Bool.not_eq_false'] at c60
                          refine WC.skip ?_
                          refine WX.block_normal ?_
                          refine WX.next ?_
                          refine WC.region ?_
                          refine WL.val (OV.addN (j := 1) rfl rfl (by omega)) rfl ?_
                          refine WL.val (OV.move rfl) rfl ?_
                          refine WL.nil ?_
                          exact WX.round1 (i + 1) ⟨rfl, rfl, rfl, trivial⟩ (fun w' hw => ⟨⟨by omega, fun j hj => by rcases Nat.lt_or_ge j i with h | h; exact hz j h; rw [show j = i by omega]; rw [← hcb]; unfold letB; rw [decide_eq_true_eq]; omega⟩, hw⟩) (by show s.size - (i + 1) < s.size - i; omega)
                  · try simp only [decide_eq_true_eq, decide_eq_false_iff_not, Bool.not_eq_true', Bool.not_eq_false'] at g43
                    refine WL.skip (b := false) rfl rfl rfl rfl ?_
                    refine WL.skip (b := false) rfl rfl rfl rfl ?_
                    refine WL.go (b := false) rfl rfl rfl ?_
                    refine WL.val (OV.pickF rfl rfl) rfl ?_
                    refine WL.val (OV.pickF rfl rfl) rfl ?_
                    refine WL.val (OV.move rfl) rfl ?_
                    refine WL.go (b := false) rfl rfl rfl ?_
                    refine WL.val (OV.move rfl) rfl ?_
                    refine WL.go (b := false) rfl rfl rfl ?_
                    refine WL.val (OV.geq rfl rfl) rfl ?_
                    refine WL.go (b := false) rfl rfl rfl ?_
                    refine WL.val (OV.move rfl) rfl ?_
                    refine WL.split (t := 51) rfl (fun g51 => ?_) (fun g51 => ?_)
                    · try simp only [decide_eq_true_eq, decide_eq_false_iff_not, Bool.not_eq_true', Bool.not_eq_false'] at g51
                      refine WL.go (b := true) rfl rfl rfl ?_
                      refine WL.val (OV.move rfl) rfl ?_
                      refine WL.go (b := true) rfl rfl rfl ?_
                      refine WL.val (OV.leq rfl rfl) rfl ?_
                      refine WL.go (b := false) rfl rfl rfl ?_
                      refine WL.val (OV.pickT rfl rfl) rfl ?_
                      refine WL.val (OV.pickF rfl rfl) rfl ?_
                      refine WL.val (OV.move rfl) rfl ?_
                      refine WL.split (t := 56) rfl (fun g56 => ?_) (fun g56 => ?_)
                      · try simp only [decide_eq_true_eq, decide_eq_false_iff_not, Bool.not_eq_true', Bool.not_eq_false'] at g56
                        refine WL.skip (b := true) rfl rfl rfl rfl ?_
                        refine WL.skip (b := true) rfl rfl rfl rfl ?_
                        refine WL.val (OV.pickT rfl rfl) rfl ?_
                        refine WL.val (OV.not rfl) rfl ?_
                        refine WL.nil ?_
                        refine WX.next ?_
                        refine WC.condF rfl ?_
                        refine WC.skip ?_
                        refine WX.block_normal ?_
                        refine WX.next ?_
                        refine WC.region ?_
                        refine WL.val (OV.addN (j := 1) rfl rfl (by omega)) rfl ?_
                        refine WL.val (OV.move rfl) rfl ?_
                        refine WL.nil ?_
                        exact WX.round1 (i + 1) ⟨rfl, rfl, rfl, trivial⟩ (fun w' hw => ⟨⟨by omega, fun j hj => by rcases Nat.lt_or_ge j i with h | h; exact hz j h; rw [show j = i by omega]; rw [← hcb]; unfold letB; rw [decide_eq_true_eq]; omega⟩, hw⟩) (by show s.size - (i + 1) < s.size - i; omega)
                      · try simp only [decide_eq_true_eq, decide_eq_false_iff_not, Bool.not_eq_true', Bool.not_eq_false'] at g56
                        refine WL.go (b := false) rfl rfl rfl ?_
                        refine WL.val (OV.move rfl) rfl ?_
                        refine WL.go (b := false) rfl rfl rfl ?_
                        refine WL.val (OV.eql rfl rfl) rfl ?_
                        refine WL.val (OV.pickF rfl rfl) rfl ?_
                        refine WL.val (OV.not rfl) rfl ?_
                        refine WL.nil ?_
                        refine WX.next ?_
                        refine WC.cond rfl (fun c60 => ?_) (fun c60 => ?_)
                        · try simp only [decide_eq_true_eq, decide_eq_false_iff_not, Bool.not_eq_true', Bool.not_eq_false'] at c60
                          refine WC.seq ?_
                          refine WC.region ?_
                          refine WL.val (OV.assign rfl) rfl ?_
                          refine WL.nil ?_
                          refine WX.next ?_
                          refine WC.ret ?_
                          refine WX.block_ret ?_
                          refine WX.then_ret ?_
                          refine WX.then_ret ?_
                          refine WX.block_ret ?_
                          refine WX.then_ret ?_
                          exact WX.ret1 rfl rfl rfl (fun w' hw => ⟨by clear hw; rw [nameB_no (i := i) (by omega) (by rw [← hcb]; unfold letB; rw [decide_eq_true_eq]; omega)], hw.fr⟩)
                        · try simp only [decide_eq_true_eq, decide_eq_false_iff_not, Bool.not_eq_true', Bool.not_eq_false'] at c60
                          refine WC.skip ?_
                          refine WX.block_normal ?_
                          refine WX.next ?_
                          refine WC.region ?_
                          refine WL.val (OV.addN (j := 1) rfl rfl (by omega)) rfl ?_
                          refine WL.val (OV.move rfl) rfl ?_
                          refine WL.nil ?_
                          exact WX.round1 (i + 1) ⟨rfl, rfl, rfl, trivial⟩ (fun w' hw => ⟨⟨by omega, fun j hj => by rcases Nat.lt_or_ge j i with h | h; exact hz j h; rw [show j = i by omega]; rw [← hcb]; unfold letB; rw [decide_eq_true_eq]; omega⟩, hw⟩) (by show s.size - (i + 1) < s.size - i; omega)
                    · try simp only [decide_eq_true_eq, decide_eq_false_iff_not, Bool.not_eq_true', Bool.not_eq_false'] at g51
                      refine WL.skip (b := false) rfl rfl rfl rfl ?_
                      refine WL.skip (b := false) rfl rfl rfl rfl ?_
                      refine WL.go (b := false) rfl rfl rfl ?_
                      refine WL.val (OV.pickF rfl rfl) rfl ?_
                      refine WL.val (OV.pickF rfl rfl) rfl ?_
                      refine WL.val (OV.move rfl) rfl ?_
                      refine WL.go (b := false) rfl rfl rfl ?_
                      refine WL.val (OV.move rfl) rfl ?_
                      refine WL.go (b := false) rfl rfl rfl ?_
                      refine WL.val (OV.eql rfl rfl) rfl ?_
                      refine WL.val (OV.pickF rfl rfl) rfl ?_
                      refine WL.val (OV.not rfl) rfl ?_
                      refine WL.nil ?_
                      refine WX.next ?_
                      refine WC.cond rfl (fun c60 => ?_) (fun c60 => ?_)
                      · try simp only [decide_eq_true_eq, decide_eq_false_iff_not, Bool.not_eq_true', Bool.not_eq_false'] at c60
                        refine WC.seq ?_
                        refine WC.region ?_
                        refine WL.val (OV.assign rfl) rfl ?_
                        refine WL.nil ?_
                        refine WX.next ?_
                        refine WC.ret ?_
                        refine WX.block_ret ?_
                        refine WX.then_ret ?_
                        refine WX.then_ret ?_
                        refine WX.block_ret ?_
                        refine WX.then_ret ?_
                        exact WX.ret1 rfl rfl rfl (fun w' hw => ⟨by clear hw; rw [nameB_no (i := i) (by omega) (by rw [← hcb]; unfold letB; rw [decide_eq_true_eq]; omega)], hw.fr⟩)
                      · try simp only [decide_eq_true_eq, decide_eq_false_iff_not, Bool.not_eq_true', Bool.not_eq_false'] at c60
                        refine WC.skip ?_
                        refine WX.block_normal ?_
                        refine WX.next ?_
                        refine WC.region ?_
                        refine WL.val (OV.addN (j := 1) rfl rfl (by omega)) rfl ?_
                        refine WL.val (OV.move rfl) rfl ?_
                        refine WL.nil ?_
                        exact WX.round1 (i + 1) ⟨rfl, rfl, rfl, trivial⟩ (fun w' hw => ⟨⟨by omega, fun j hj => by rcases Nat.lt_or_ge j i with h | h; exact hz j h; rw [show j = i by omega]; rw [← hcb]; unfold letB; rw [decide_eq_true_eq]; omega⟩, hw⟩) (by show s.size - (i + 1) < s.size - i; omega)
              · try simp only [decide_eq_true_eq, decide_eq_false_iff_not, Bool.not_eq_true', Bool.not_eq_false'] at g36
                refine WL.skip (b := false) rfl rfl rfl rfl ?_
                refine WL.skip (b := false) rfl rfl rfl rfl ?_
                refine WL.val (OV.pickF rfl rfl) rfl ?_
                refine WL.val (OV.move rfl) rfl ?_
                refine WL.go (b := false) rfl rfl rfl ?_
                refine WL.val (OV.move rfl) rfl ?_
                refine WL.go (b := false) rfl rfl rfl ?_
                refine WL.val (OV.geq rfl rfl) rfl ?_
                refine WL.go (b := false) rfl rfl rfl ?_
                refine WL.val (OV.move rfl) rfl ?_
                refine WL.split (t := 43) rfl (fun g43 => ?_) (fun g43 => ?_)
                · try simp only [decide_eq_true_eq, decide_eq_false_iff_not, Bool.not_eq_true', Bool.not_eq_false'] at g43
                  refine WL.go (b := true) rfl rfl rfl ?_
                  refine WL.val (OV.move rfl) rfl ?_
                  refine WL.go (b := true) rfl rfl rfl ?_
                  refine WL.val (OV.leq rfl rfl) rfl ?_
                  refine WL.go (b := false) rfl rfl rfl ?_
                  refine WL.val (OV.pickT rfl rfl) rfl ?_
                  refine WL.val (OV.pickF rfl rfl) rfl ?_
                  refine WL.val (OV.move rfl) rfl ?_
                  refine WL.split (t := 48) rfl (fun g48 => ?_) (fun g48 => ?_)
                  · try simp only [decide_eq_true_eq, decide_eq_false_iff_not, Bool.not_eq_true', Bool.not_eq_false'] at g48
                    refine WL.skip (b := true) rfl rfl rfl rfl ?_
                    refine WL.skip (b := true) rfl rfl rfl rfl ?_
                    refine WL.skip (b := true) rfl rfl rfl rfl ?_
                    refine WL.skipU rfl rfl rfl ?_
                    refine WL.skipU rfl rfl rfl ?_
                    refine WL.skip (b := true) rfl rfl rfl rfl ?_
                    refine WL.val (OV.pickT rfl rfl) rfl ?_
                    refine WL.val (OV.move rfl) rfl ?_
                    refine WL.skip (b := true) rfl rfl rfl rfl ?_
                    refine WL.skip (b := true) rfl rfl rfl rfl ?_
                    refine WL.val (OV.pickT rfl rfl) rfl ?_
                    refine WL.val (OV.not rfl) rfl ?_
                    refine WL.nil ?_
                    refine WX.next ?_
                    refine WC.condF rfl ?_
                    refine WC.skip ?_
                    refine WX.block_normal ?_
                    refine WX.next ?_
                    refine WC.region ?_
                    refine WL.val (OV.addN (j := 1) rfl rfl (by omega)) rfl ?_
                    refine WL.val (OV.move rfl) rfl ?_
                    refine WL.nil ?_
                    exact WX.round1 (i + 1) ⟨rfl, rfl, rfl, trivial⟩ (fun w' hw => ⟨⟨by omega, fun j hj => by rcases Nat.lt_or_ge j i with h | h; exact hz j h; rw [show j = i by omega]; rw [← hcb]; unfold letB; rw [decide_eq_true_eq]; omega⟩, hw⟩) (by show s.size - (i + 1) < s.size - i; omega)
                  · try simp only [decide_eq_true_eq, decide_eq_false_iff_not, Bool.not_eq_true', Bool.not_eq_false'] at g48
                    refine WL.go (b := false) rfl rfl rfl ?_
                    refine WL.val (OV.move rfl) rfl ?_
                    refine WL.go (b := false) rfl rfl rfl ?_
                    refine WL.val (OV.geq rfl rfl) rfl ?_
                    refine WL.go (b := false) rfl rfl rfl ?_
                    refine WL.val (OV.move rfl) rfl ?_
                    refine WL.split (t := 51) rfl (fun g51 => ?_) (fun g51 => ?_)
                    · try simp only [decide_eq_true_eq, decide_eq_false_iff_not, Bool.not_eq_true', Bool.not_eq_false'] at g51
                      refine WL.go (b := true) rfl rfl rfl ?_
                      refine WL.val (OV.move rfl) rfl ?_
                      refine WL.go (b := true) rfl rfl rfl ?_
                      refine WL.val (OV.leq rfl rfl) rfl ?_
                      refine WL.go (b := false) rfl rfl rfl ?_
                      refine WL.val (OV.pickT rfl rfl) rfl ?_
                      refine WL.val (OV.pickF rfl rfl) rfl ?_
                      refine WL.val (OV.move rfl) rfl ?_
                      refine WL.split (t := 56) rfl (fun g56 => ?_) (fun g56 => ?_)
                      · try simp only [decide_eq_true_eq, decide_eq_false_iff_not, Bool.not_eq_true', Bool.not_eq_false'] at g56
                        refine WL.skip (b := true) rfl rfl rfl rfl ?_
                        refine WL.skip (b := true) rfl rfl rfl rfl ?_
                        refine WL.val (OV.pickT rfl rfl) rfl ?_
                        refine WL.val (OV.not rfl) rfl ?_
                        refine WL.nil ?_
                        refine WX.next ?_
                        refine WC.condF rfl ?_
                        refine WC.skip ?_
                        refine WX.block_normal ?_
                        refine WX.next ?_
                        refine WC.region ?_
                        refine WL.val (OV.addN (j := 1) rfl rfl (by omega)) rfl ?_
                        refine WL.val (OV.move rfl) rfl ?_
                        refine WL.nil ?_
                        exact WX.round1 (i + 1) ⟨rfl, rfl, rfl, trivial⟩ (fun w' hw => ⟨⟨by omega, fun j hj => by rcases Nat.lt_or_ge j i with h | h; exact hz j h; rw [show j = i by omega]; rw [← hcb]; unfold letB; rw [decide_eq_true_eq]; omega⟩, hw⟩) (by show s.size - (i + 1) < s.size - i; omega)
                      · try simp only [decide_eq_true_eq, decide_eq_false_iff_not, Bool.not_eq_true', Bool.not_eq_false'] at g56
                        refine WL.go (b := false) rfl rfl rfl ?_
                        refine WL.val (OV.move rfl) rfl ?_
                        refine WL.go (b := false) rfl rfl rfl ?_
                        refine WL.val (OV.eql rfl rfl) rfl ?_
                        refine WL.val (OV.pickF rfl rfl) rfl ?_
                        refine WL.val (OV.not rfl) rfl ?_
                        refine WL.nil ?_
                        refine WX.next ?_
                        refine WC.cond rfl (fun c60 => ?_) (fun c60 => ?_)
                        · try simp only [decide_eq_true_eq, decide_eq_false_iff_not, Bool.not_eq_true', Bool.not_eq_false'] at c60
                          refine WC.seq ?_
                          refine WC.region ?_
                          refine WL.val (OV.assign rfl) rfl ?_
                          refine WL.nil ?_
                          refine WX.next ?_
                          refine WC.ret ?_
                          refine WX.block_ret ?_
                          refine WX.then_ret ?_
                          refine WX.then_ret ?_
                          refine WX.block_ret ?_
                          refine WX.then_ret ?_
                          exact WX.ret1 rfl rfl rfl (fun w' hw => ⟨by clear hw; rw [nameB_no (i := i) (by omega) (by rw [← hcb]; unfold letB; rw [decide_eq_true_eq]; omega)], hw.fr⟩)
                        · try simp only [decide_eq_true_eq, decide_eq_false_iff_not, Bool.not_eq_true', Bool.not_eq_false'] at c60
                          refine WC.skip ?_
                          refine WX.block_normal ?_
                          refine WX.next ?_
                          refine WC.region ?_
                          refine WL.val (OV.addN (j := 1) rfl rfl (by omega)) rfl ?_
                          refine WL.val (OV.move rfl) rfl ?_
                          refine WL.nil ?_
                          exact WX.round1 (i + 1) ⟨rfl, rfl, rfl, trivial⟩ (fun w' hw => ⟨⟨by omega, fun j hj => by rcases Nat.lt_or_ge j i with h | h; exact hz j h; rw [show j = i by omega]; rw [← hcb]; unfold letB; rw [decide_eq_true_eq]; omega⟩, hw⟩) (by show s.size - (i + 1) < s.size - i; omega)
                    · try simp only [decide_eq_true_eq, decide_eq_false_iff_not, Bool.not_eq_true', Bool.not_eq_false'] at g51
                      refine WL.skip (b := false) rfl rfl rfl rfl ?_
                      refine WL.skip (b := false) rfl rfl rfl rfl ?_
                      refine WL.go (b := false) rfl rfl rfl ?_
                      refine WL.val (OV.pickF rfl rfl) rfl ?_
                      refine WL.val (OV.pickF rfl rfl) rfl ?_
                      refine WL.val (OV.move rfl) rfl ?_
                      refine WL.go (b := false) rfl rfl rfl ?_
                      refine WL.val (OV.move rfl) rfl ?_
                      refine WL.go (b := false) rfl rfl rfl ?_
                      refine WL.val (OV.eql rfl rfl) rfl ?_
                      refine WL.val (OV.pickF rfl rfl) rfl ?_
                      refine WL.val (OV.not rfl) rfl ?_
                      refine WL.nil ?_
                      refine WX.next ?_
                      refine WC.cond rfl (fun c60 => ?_) (fun c60 => ?_)
                      · try simp only [decide_eq_true_eq, decide_eq_false_iff_not, Bool.not_eq_true', Bool.not_eq_false'] at c60
                        refine WC.seq ?_
                        refine WC.region ?_
                        refine WL.val (OV.assign rfl) rfl ?_
                        refine WL.nil ?_
                        refine WX.next ?_
                        refine WC.ret ?_
                        refine WX.block_ret ?_
                        refine WX.then_ret ?_
                        refine WX.then_ret ?_
                        refine WX.block_ret ?_
                        refine WX.then_ret ?_
                        exact WX.ret1 rfl rfl rfl (fun w' hw => ⟨by clear hw; rw [nameB_no (i := i) (by omega) (by rw [← hcb]; unfold letB; rw [decide_eq_true_eq]; omega)], hw.fr⟩)
                      · try simp only [decide_eq_true_eq, decide_eq_false_iff_not, Bool.not_eq_true', Bool.not_eq_false'] at c60
                        refine WC.skip ?_
                        refine WX.block_normal ?_
                        refine WX.next ?_
                        refine WC.region ?_
                        refine WL.val (OV.addN (j := 1) rfl rfl (by omega)) rfl ?_
                        refine WL.val (OV.move rfl) rfl ?_
                        refine WL.nil ?_
                        exact WX.round1 (i + 1) ⟨rfl, rfl, rfl, trivial⟩ (fun w' hw => ⟨⟨by omega, fun j hj => by rcases Nat.lt_or_ge j i with h | h; exact hz j h; rw [show j = i by omega]; rw [← hcb]; unfold letB; rw [decide_eq_true_eq]; omega⟩, hw⟩) (by show s.size - (i + 1) < s.size - i; omega)
                · try simp only [decide_eq_true_eq, decide_eq_false_iff_not, Bool.not_eq_true', Bool.not_eq_false'] at g43
                  refine WL.skip (b := false) rfl rfl rfl rfl ?_
                  refine WL.skip (b := false) rfl rfl rfl rfl ?_
                  refine WL.go (b := false) rfl rfl rfl ?_
                  refine WL.val (OV.pickF rfl rfl) rfl ?_
                  refine WL.val (OV.pickF rfl rfl) rfl ?_
                  refine WL.val (OV.move rfl) rfl ?_
                  refine WL.go (b := false) rfl rfl rfl ?_
                  refine WL.val (OV.move rfl) rfl ?_
                  refine WL.go (b := false) rfl rfl rfl ?_
                  refine WL.val (OV.geq rfl rfl) rfl ?_
                  refine WL.go (b := false) rfl rfl rfl ?_
                  refine WL.val (OV.move rfl) rfl ?_
                  refine WL.split (t := 51) rfl (fun g51 => ?_) (fun g51 => ?_)
                  · try simp only [decide_eq_true_eq, decide_eq_false_iff_not, Bool.not_eq_true', Bool.not_eq_false'] at g51
                    refine WL.go (b := true) rfl rfl rfl ?_
                    refine WL.val (OV.move rfl) rfl ?_
                    refine WL.go (b := true) rfl rfl rfl ?_
                    refine WL.val (OV.leq rfl rfl) rfl ?_
                    refine WL.go (b := false) rfl rfl rfl ?_
                    refine WL.val (OV.pickT rfl rfl) rfl ?_
                    refine WL.val (OV.pickF rfl rfl) rfl ?_
                    refine WL.val (OV.move rfl) rfl ?_
                    refine WL.split (t := 56) rfl (fun g56 => ?_) (fun g56 => ?_)
                    · try simp only [decide_eq_true_eq, decide_eq_false_iff_not, Bool.not_eq_true', Bool.not_eq_false'] at g56
                      refine WL.skip (b := true) rfl rfl rfl rfl ?_
                      refine WL.skip (b := true) rfl rfl rfl rfl ?_
                      refine WL.val (OV.pickT rfl rfl) rfl ?_
                      refine WL.val (OV.not rfl) rfl ?_
                      refine WL.nil ?_
                      refine WX.next ?_
                      refine WC.condF rfl ?_
                      refine WC.skip ?_
                      refine WX.block_normal ?_
                      refine WX.next ?_
                      refine WC.region ?_
                      refine WL.val (OV.addN (j := 1) rfl rfl (by omega)) rfl ?_
                      refine WL.val (OV.move rfl) rfl ?_
                      refine WL.nil ?_
                      exact WX.round1 (i + 1) ⟨rfl, rfl, rfl, trivial⟩ (fun w' hw => ⟨⟨by omega, fun j hj => by rcases Nat.lt_or_ge j i with h | h; exact hz j h; rw [show j = i by omega]; rw [← hcb]; unfold letB; rw [decide_eq_true_eq]; omega⟩, hw⟩) (by show s.size - (i + 1) < s.size - i; omega)
                    · try simp only [decide_eq_true_eq, decide_eq_false_iff_not, Bool.not_eq_true', Bool.not_eq_false'] at g56
                      refine WL.go (b := false) rfl rfl rfl ?_
                      refine WL.val (OV.move rfl) rfl ?_
                      refine WL.go (b := false) rfl rfl rfl ?_
                      refine WL.val (OV.eql rfl rfl) rfl ?_
                      refine WL.val (OV.pickF rfl rfl) rfl ?_
                      refine WL.val (OV.not rfl) rfl ?_
                      refine WL.nil ?_
                      refine WX.next ?_
                      refine WC.cond rfl (fun c60 => ?_) (fun c60 => ?_)
                      · try simp only [decide_eq_true_eq, decide_eq_false_iff_not, Bool.not_eq_true', Bool.not_eq_false'] at c60
                        refine WC.seq ?_
                        refine WC.region ?_
                        refine WL.val (OV.assign rfl) rfl ?_
                        refine WL.nil ?_
                        refine WX.next ?_
                        refine WC.ret ?_
                        refine WX.block_ret ?_
                        refine WX.then_ret ?_
                        refine WX.then_ret ?_
                        refine WX.block_ret ?_
                        refine WX.then_ret ?_
                        exact WX.ret1 rfl rfl rfl (fun w' hw => ⟨by clear hw; rw [nameB_no (i := i) (by omega) (by rw [← hcb]; unfold letB; rw [decide_eq_true_eq]; omega)], hw.fr⟩)
                      · try simp only [decide_eq_true_eq, decide_eq_false_iff_not, Bool.not_eq_true', Bool.not_eq_false'] at c60
                        refine WC.skip ?_
                        refine WX.block_normal ?_
                        refine WX.next ?_
                        refine WC.region ?_
                        refine WL.val (OV.addN (j := 1) rfl rfl (by omega)) rfl ?_
                        refine WL.val (OV.move rfl) rfl ?_
                        refine WL.nil ?_
                        exact WX.round1 (i + 1) ⟨rfl, rfl, rfl, trivial⟩ (fun w' hw => ⟨⟨by omega, fun j hj => by rcases Nat.lt_or_ge j i with h | h; exact hz j h; rw [show j = i by omega]; rw [← hcb]; unfold letB; rw [decide_eq_true_eq]; omega⟩, hw⟩) (by show s.size - (i + 1) < s.size - i; omega)
                  · try simp only [decide_eq_true_eq, decide_eq_false_iff_not, Bool.not_eq_true', Bool.not_eq_false'] at g51
                    refine WL.skip (b := false) rfl rfl rfl rfl ?_
                    refine WL.skip (b := false) rfl rfl rfl rfl ?_
                    refine WL.go (b := false) rfl rfl rfl ?_
                    refine WL.val (OV.pickF rfl rfl) rfl ?_
                    refine WL.val (OV.pickF rfl rfl) rfl ?_
                    refine WL.val (OV.move rfl) rfl ?_
                    refine WL.go (b := false) rfl rfl rfl ?_
                    refine WL.val (OV.move rfl) rfl ?_
                    refine WL.go (b := false) rfl rfl rfl ?_
                    refine WL.val (OV.eql rfl rfl) rfl ?_
                    refine WL.val (OV.pickF rfl rfl) rfl ?_
                    refine WL.val (OV.not rfl) rfl ?_
                    refine WL.nil ?_
                    refine WX.next ?_
                    refine WC.cond rfl (fun c60 => ?_) (fun c60 => ?_)
                    · try simp only [decide_eq_true_eq, decide_eq_false_iff_not, Bool.not_eq_true', Bool.not_eq_false'] at c60
                      refine WC.seq ?_
                      refine WC.region ?_
                      refine WL.val (OV.assign rfl) rfl ?_
                      refine WL.nil ?_
                      refine WX.next ?_
                      refine WC.ret ?_
                      refine WX.block_ret ?_
                      refine WX.then_ret ?_
                      refine WX.then_ret ?_
                      refine WX.block_ret ?_
                      refine WX.then_ret ?_
                      exact WX.ret1 rfl rfl rfl (fun w' hw => ⟨by clear hw; rw [nameB_no (i := i) (by omega) (by rw [← hcb]; unfold letB; rw [decide_eq_true_eq]; omega)], hw.fr⟩)
                    · try simp only [decide_eq_true_eq, decide_eq_false_iff_not, Bool.not_eq_true', Bool.not_eq_false'] at c60
                      refine WC.skip ?_
                      refine WX.block_normal ?_
                      refine WX.next ?_
                      refine WC.region ?_
                      refine WL.val (OV.addN (j := 1) rfl rfl (by omega)) rfl ?_
                      refine WL.val (OV.move rfl) rfl ?_
                      refine WL.nil ?_
                      exact WX.round1 (i + 1) ⟨rfl, rfl, rfl, trivial⟩ (fun w' hw => ⟨⟨by omega, fun j hj => by rcases Nat.lt_or_ge j i with h | h; exact hz j h; rw [show j = i by omega]; rw [← hcb]; unfold letB; rw [decide_eq_true_eq]; omega⟩, hw⟩) (by show s.size - (i + 1) < s.size - i; omega)
            · try simp only [decide_eq_true_eq, decide_eq_false_iff_not, Bool.not_eq_true', Bool.not_eq_false'] at c29
              refine WC.exit ?_
              refine WX.then_exit ?_
              refine WX.then_exit ?_
              refine WX.block_hit ?_
              refine WX.next ?_
              refine WC.seq ?_
              refine WC.region ?_
              refine WL.val (OV.assign rfl) rfl ?_
              refine WL.nil ?_
              refine WX.next ?_
              refine WC.ret ?_
              exact WX.ret1 rfl rfl rfl (fun w' hw => ⟨by clear hw; rw [show nameB s = true from by unfold nameB; rw [decide_eq_true_eq]; exact ⟨by assumption, by omega, by assumption, by omega, by omega, fun j hj => hz j (by omega)⟩], hw.fr⟩)

set_option maxRecDepth 10000 in
theorem bad_calls (t : Tm) (w : World) : Calls Tryz.prog 90 #[tmV t] w fun e w' => e = .returned (.bool (badB t)) ∧ Fr0 w w' := by
  refine enterS (args := [tmV t]) (fun _ => False) Tryz.func90 rfl Tryz.ntmps90 rfl rfl ?_
  refine WC.seq ?_
  refine WC.region ?_
  refine WL.box rfl rfl rfl ?_
  intro b1
  refine WL.val (OV.assign rfl) rfl ?_
  refine WL.nil ?_
  refine WX.next ?_
  refine WC.seq ?_
  refine WC.region ?_
  refine WL.val (OV.loadN (cs := tmC t) rfl T.u31 rfl T.z31 (fun _ hw j v hj => by rw [add_off, Nat.zero_add]; exact own_cells hw (.head _) j v hj)) rfl ?_
  refine WL.call0 (v := .bool (constB t)) (by kernel_rfl) rfl rfl (fun w' hw' => const_calls t w') ?_
  refine WL.val (OV.not rfl) rfl ?_
  refine WL.val (OV.move rfl) rfl ?_
  refine WL.split (t := 6) rfl (fun g6 => ?_) (fun g6 => ?_)
  · try simp only [decide_eq_true_eq, decide_eq_false_iff_not, Bool.not_eq_true', Bool.not_eq_false'] at g6
    refine WL.go (b := true) rfl rfl rfl ?_
    refine WL.val (OV.loadN (cs := tmC t) rfl T.u31 rfl T.z31 (fun _ hw j v hj => by rw [add_off, Nat.zero_add]; exact own_cells hw (.head _) j v hj)) rfl ?_
    refine WL.go (b := true) rfl rfl rfl ?_
    refine WL.call0 (v := .bool (varB t)) (by kernel_rfl) rfl rfl (fun w' hw' => var_calls t w') ?_
    refine WL.go (b := true) rfl rfl rfl ?_
    refine WL.val (OV.not rfl) rfl ?_
    refine WL.val (OV.pickT rfl rfl) rfl ?_
    refine WL.val (OV.assign rfl) rfl ?_
    refine WL.nil ?_
    refine WX.next ?_
    refine WC.ret ?_
    exact WX.ret1 rfl rfl rfl (fun w' hw => ⟨by clear hw; simp_all [badB], hw.fr⟩)
  · try simp only [decide_eq_true_eq, decide_eq_false_iff_not, Bool.not_eq_true', Bool.not_eq_false'] at g6
    refine WL.skip (b := false) rfl rfl rfl rfl ?_
    refine WL.skip (b := false) rfl rfl rfl rfl ?_
    refine WL.skip (b := false) rfl rfl rfl rfl ?_
    refine WL.val (OV.pickF rfl rfl) rfl ?_
    refine WL.val (OV.assign rfl) rfl ?_
    refine WL.nil ?_
    refine WX.next ?_
    refine WC.ret ?_
    exact WX.ret1 rfl rfl rfl (fun w' hw => ⟨by clear hw; simp_all [badB], hw.fr⟩)

set_option maxRecDepth 10000 in
theorem indexF_calls (p : Tm → Bool) (g : Nat) (hg : bodied Tryz.prog g = true) (ts : List Tm) (a : Option Addr) (c : Nat) (hl : ts.length ≤ 1099511627776) (w : World) (hr : RT w a ts) (hp : ∀ t w', Keeps w w' → Calls Tryz.prog g #[tmV t] w' fun e w'' => e = .returned (.bool (p t)) ∧ Fr0 w' w'') : Calls Tryz.prog 92 #[.slice a ts.length c, .func (.func g) #[] #[]] w fun e w' => ∃ k : Int, e = .returned (.int .i64 k) ∧ (0 ≤ k ↔ ts.any p = true) ∧ Fr0 w w' := by
  refine enterS (args := [.slice a ts.length c, .func (.func g) #[] #[]]) (fun _ => False) Tryz.func92 rfl Tryz.ntmps92 rfl rfl ?_
  refine WC.seq ?_
  refine WC.region ?_
  refine WL.val (OV.assign rfl) rfl ?_
  refine WL.nil ?_
  refine WX.next ?_
  refine WC.seq ?_
  refine WC.seq ?_
  refine WC.region ?_
  refine WL.val (OV.move rfl) rfl ?_
  first
  | (refine WL.val (OV.lenSlice rfl T.u32) rfl ?_)
  | (refine WL.val (OV.lenStr rfl T.u32) rfl ?_)
  refine WL.val (OV.move rfl) rfl ?_
  refine WL.nil ?_
  refine WX.next ?_
  refine WC.block ?_
  refine WC.loop1 (fun (i : Nat) => [(0, .slice a ts.length c), (1, .func (.func g) #[] #[]), (7, .int .i64 (ts.length : Int)), (8, .int .i64 (i : Int))])
      (fun i w' => (i ≤ ts.length ∧ ∀ (j : Nat) u, j < i → ts[j]? = some u → p u = false) ∧ Sat w (fun _ => False) (fun b => b < w.heap.size) w ([]) w')
      (fun i => ts.length - i) 0 ⟨rfl, rfl, rfl, rfl, trivial⟩ (fun w' hw => ⟨⟨by omega, by intro j u hj; omega⟩, hw⟩) ?_
  intro i
  refine WC.pure (fun hi => ?_)
  obtain ⟨hi, hz⟩ := hi
  refine WC.seq ?_
  refine WC.region ?_
  refine WL.val (OV.lss rfl rfl) rfl ?_
  refine WL.nil ?_
  refine WX.next ?_
  refine WC.seq ?_
  refine WC.cond rfl (fun c9 => ?_) (fun c9 => ?_)
  · try simp only [decide_eq_true_eq, decide_eq_false_iff_not, Bool.not_eq_true', Bool.not_eq_false'] at c9
    refine WC.skip ?_
    refine WX.next ?_
    refine WC.seq ?_
    refine WC.block ?_
    refine WC.seq ?_
    refine WC.region ?_
    refine WL.val (OV.move rfl) rfl ?_
    refine WL.val (OV.assign rfl) rfl ?_
    refine WL.nil ?_
    refine WX.next ?_
    refine WC.seq ?_
    refine WC.region ?_
    refine WL.val (OV.move rfl) rfl ?_
    refine WL.val (OV.move rfl) rfl ?_
    refine WL.val (OV.move rfl) rfl ?_
    obtain ⟨q1, t, rfl, ht, htm, htd, hcell⟩ := hr.get (i := i) (by omega)
    refine WL.val ((OV.indexSlice rfl rfl T.u32 T.z31 (by omega)).cast (u := .pointer (some (q1.add (i * 3)))) (by rw [Int.toNat_natCast])) rfl ?_
    refine WL.val (OV.loadN (cs := tmC t) rfl T.u31 rfl T.z31 (fun _ hw j v hj => hw.keeps _ _ (hcell j v hj))) rfl ?_
    refine WL.callV (ι := Unit) (f := g) (caps := []) (vs := [tmV t]) (vv := fun _ => .bool (p t)) (SS := fun _ => Sat w (fun _ => False) (fun b => b < w.heap.size) w ([])) hg rfl rfl rfl (fun w' hw' => (hp t w' hw'.keeps).mono (fun en w'' ⟨h1, h2⟩ => ⟨(), h1, hw'.keep h2⟩)) ?_
    intro _
    refine WL.nil ?_
    refine WX.next ?_
    refine WC.cond rfl (fun c16 => ?_) (fun c16 => ?_)
    · try simp only [decide_eq_true_eq, decide_eq_false_iff_not, Bool.not_eq_true', Bool.not_eq_false'] at c16
      refine WC.seq ?_
      refine WC.region ?_
      refine WL.val (OV.move rfl) rfl ?_
      refine WL.val (OV.assign rfl) rfl ?_
      refine WL.nil ?_
      refine WX.next ?_
      refine WC.ret ?_
      refine WX.block_ret ?_
      refine WX.then_ret ?_
      refine WX.then_ret ?_
      refine WX.block_ret ?_
      refine WX.then_ret ?_
      exact WX.ret1 rfl rfl rfl (fun w' hw => ⟨(i : Int), rfl, ⟨fun _ => List.any_eq_true.2 ⟨t, htm, c16⟩, fun _ => by omega⟩, hw.fr⟩)
    · try simp only [decide_eq_true_eq, decide_eq_false_iff_not, Bool.not_eq_true', Bool.not_eq_false'] at c16
      refine WC.skip ?_
      refine WX.block_normal ?_
      refine WX.next ?_
      refine WC.region ?_
      refine WL.val (OV.addN (j := 1) rfl rfl (by omega)) rfl ?_
      refine WL.val (OV.move rfl) rfl ?_
      refine WL.nil ?_
      exact WX.round1 (i + 1) ⟨rfl, rfl, rfl, rfl, trivial⟩ (fun w' hw => ⟨⟨by omega, fun j u hj hu => by
        rcases Nat.lt_or_ge j i with h | h
        · exact hz j u h hu
        · rw [show j = i by omega] at hu
          rw [← Option.some.inj (ht.symm.trans hu)]
          simpa using c16⟩, hw⟩) (by show ts.length - (i + 1) < ts.length - i; omega)
  · try simp only [decide_eq_true_eq, decide_eq_false_iff_not, Bool.not_eq_true', Bool.not_eq_false'] at c9
    refine WC.exit ?_
    refine WX.then_exit ?_
    refine WX.then_exit ?_
    refine WX.block_hit ?_
    refine WX.next ?_
    refine WC.seq ?_
    refine WC.region ?_
    refine WL.val (OV.assign rfl) rfl ?_
    refine WL.nil ?_
    refine WX.next ?_
    refine WC.ret ?_
    exact WX.ret1 rfl rfl rfl (fun w' hw => ⟨-1, rfl, ⟨fun h => absurd h (by omega), fun h => by
      obtain ⟨u, hu, hpu⟩ := List.any_eq_true.1 h
      obtain ⟨j, hj⟩ := List.mem_iff_getElem?.1 hu
      rw [hz j u (by have := (List.getElem?_eq_some_iff.1 hj).1; omega) hj] at hpu
      cases hpu⟩, hw.fr⟩)

set_option maxRecDepth 10000 in
theorem contF_calls (p : Tm → Bool) (g : Nat) (hg : bodied Tryz.prog g = true) (ts : List Tm) (a : Option Addr) (c : Nat) (hl : ts.length ≤ 1099511627776) (w : World) (hr : RT w a ts) (hp : ∀ t w', Keeps w w' → Calls Tryz.prog g #[tmV t] w' fun e w'' => e = .returned (.bool (p t)) ∧ Fr0 w' w'') : Calls Tryz.prog 64 #[.slice a ts.length c, .func (.func g) #[] #[]] w fun e w' => e = .returned (.bool (ts.any p)) ∧ Fr0 w w' := by
  refine enterS (args := [.slice a ts.length c, .func (.func g) #[] #[]]) (fun _ => False) Tryz.func64 rfl Tryz.ntmps64 rfl rfl ?_
  refine WC.seq ?_
  refine WC.region ?_
  refine WL.val (OV.assign rfl) rfl ?_
  refine WL.nil ?_
  refine WX.next ?_
  refine WC.seq ?_
  refine WC.region ?_
  refine WL.val (OV.move rfl) rfl ?_
  refine WL.val (OV.move rfl) rfl ?_
  refine WL.call (ι := Int) (vs := [.slice a ts.length c, .func (.func g) #[] #[]]) (vv := fun k => .int .i64 k) (SS := fun k w' => (0 ≤ k ↔ ts.any p = true) ∧ Sat w (fun _ => False) (fun b => b < w.heap.size) w ([]) w') (by kernel_rfl) rfl rfl (fun w' hw' => (indexF_calls p g hg ts a c hl w' (hr.keeps hw'.keeps) (fun t w'' hk => hp t w'' (hw'.keeps.trans hk))).mono (fun en w'' ⟨k, h1, h2, h3⟩ => ⟨k, h1, h2, hw'.keep h3⟩)) ?_
  intro k
  refine WL.pure (fun hk => ?_)
  refine WL.val (OV.geq rfl rfl) rfl ?_
  refine WL.val (OV.assign rfl) rfl ?_
  refine WL.nil ?_
  refine WX.next ?_
  refine WC.ret ?_
  exact WX.ret1 rfl rfl rfl (fun w' hw => ⟨by congr 2; rw [Bool.eq_iff_iff, decide_eq_true_eq]; exact hk, hw.fr⟩)

set_option maxRecDepth 10000 in
theorem chkA_calls (x : At) (a : Option Addr) (c : Nat) (hl : x.args.length ≤ 1099511627776) (hs : x.name.size ≤ 1099511627776) (w : World) (hN : NoneAt w) (hr : RT w a x.args) : Calls Tryz.prog 63 #[atV x a c] w fun e w' => e = .returned (.int .i64 (chkA x)) ∧ Fr0 w w' := by
  refine enterS (args := [atV x a c]) (fun _ => False) Tryz.func63 rfl Tryz.ntmps63 rfl rfl ?_
  refine WC.seq ?_
  refine WC.region ?_
  refine WL.box rfl rfl rfl ?_
  intro b1
  refine WL.val (OV.assign rfl) rfl ?_
  refine WL.nil ?_
  refine WX.next ?_
  refine WC.seq ?_
  refine WC.block ?_
  refine WC.seq ?_
  refine WC.region ?_
  first
  | (refine WL.val (OV.fieldAddr0 (off := 3) rfl T.u34 rfl) rfl ?_)
  | (refine WL.val (OV.fieldAddr (off := 3) rfl T.u34 rfl) rfl ?_)
  first
  | (refine WL.val (OV.load1 rfl T.u9 rfl (fun _ hw => cell_own hw (.head _) rfl)) rfl ?_)
  | (refine WL.val (OV.load1 rfl T.u9 rfl (fun _ hw => cell_own hw (.tail _ (.head _)) rfl)) rfl ?_)
  | (refine WL.val (OV.load1 rfl T.u9 rfl (fun _ hw => cell_own hw (.tail _ (.tail _ (.head _))) rfl)) rfl ?_)
  | (refine WL.val (OV.load1 rfl T.u9 rfl (fun _ hw => cell_own hw (.tail _ (.tail _ (.tail _ (.head _)))) rfl)) rfl ?_)
  refine WL.call0 (v := .bool (nameB x.name)) (by kernel_rfl) rfl rfl (fun w' hw' => name_calls x.name hs w') ?_
  refine WL.val (OV.not rfl) rfl ?_
  refine WL.val (OV.assign rfl) rfl ?_
  refine WL.nil ?_
  refine WX.next ?_
  refine WC.cond rfl (fun c3 => ?_) (fun c3 => ?_)
  · try simp only [decide_eq_true_eq, decide_eq_false_iff_not, Bool.not_eq_true', Bool.not_eq_false'] at c3
    refine WC.seq ?_
    refine WC.region ?_
    refine WL.val (OV.assign rfl) rfl ?_
    refine WL.nil ?_
    refine WX.next ?_
    refine WC.ret ?_
    refine WX.block_ret ?_
    refine WX.then_ret ?_
    exact WX.ret1 rfl rfl rfl (fun w' hw => ⟨by clear hw; congr 2; simp_all [chkA] <;> (repeat' split) <;> first | omega | (exfalso; omega) | (rename_i hh; obtain ⟨y, h1, h2⟩ := hh; rw [c30 y h1] at h2; cases h2) | simp_all, hw.fr⟩)
  · try simp only [decide_eq_true_eq, decide_eq_false_iff_not, Bool.not_eq_true', Bool.not_eq_false'] at c3
    refine WC.seq ?_
    refine WC.region ?_
    first
    | (refine WL.val (OV.fieldAddr0 (off := 4) rfl T.u34 rfl) rfl ?_)
    | (refine WL.val (OV.fieldAddr (off := 4) rfl T.u34 rfl) rfl ?_)
    first
    | (refine WL.val (OV.load1 rfl T.u32 rfl (fun _ hw => cell_own hw (.head _) rfl)) rfl ?_)
    | (refine WL.val (OV.load1 rfl T.u32 rfl (fun _ hw => cell_own hw (.tail _ (.head _)) rfl)) rfl ?_)
    | (refine WL.val (OV.load1 rfl T.u32 rfl (fun _ hw => cell_own hw (.tail _ (.tail _ (.head _))) rfl)) rfl ?_)
    | (refine WL.val (OV.load1 rfl T.u32 rfl (fun _ hw => cell_own hw (.tail _ (.tail _ (.tail _ (.head _)))) rfl)) rfl ?_)
    first
    | (refine WL.val (OV.lenSlice rfl T.u32) rfl ?_)
    | (refine WL.val (OV.lenStr rfl T.u32) rfl ?_)
    refine WL.val (OV.gtr rfl rfl) rfl ?_
    refine WL.val (OV.assign rfl) rfl ?_
    refine WL.nil ?_
    refine WX.next ?_
    refine WC.cond rfl (fun c8 => ?_) (fun c8 => ?_)
    · try simp only [decide_eq_true_eq, decide_eq_false_iff_not, Bool.not_eq_true', Bool.not_eq_false'] at c8
      refine WC.seq ?_
      refine WC.region ?_
      refine WL.val (OV.assign rfl) rfl ?_
      refine WL.nil ?_
      refine WX.next ?_
      refine WC.ret ?_
      refine WX.block_ret ?_
      refine WX.then_ret ?_
      exact WX.ret1 rfl rfl rfl (fun w' hw => ⟨by clear hw; congr 2; simp_all [chkA] <;> (repeat' split) <;> first | omega | (exfalso; omega) | (rename_i hh; obtain ⟨y, h1, h2⟩ := hh; rw [c30 y h1] at h2; cases h2) | simp_all, hw.fr⟩)
    · try simp only [decide_eq_true_eq, decide_eq_false_iff_not, Bool.not_eq_true', Bool.not_eq_false'] at c8
      refine WC.seq ?_
      refine WC.region ?_
      first
      | (refine WL.val (OV.fieldAddr0 (off := 0) rfl T.u34 rfl) rfl ?_)
      | (refine WL.val (OV.fieldAddr (off := 0) rfl T.u34 rfl) rfl ?_)
      refine WL.val (OV.loadN (cs := tmC x.b) rfl T.u31 rfl T.z31 (fun _ hw j v hj => by rw [add_off]; exact own_part hw (.head _) (o := 0) (cs' := tmC x.b) rfl j v hj)) rfl ?_
      refine WL.val (OV.loadN (cs := tmC T0) rfl T.u31 rfl T.z31 (fun _ hw j v hj => by rw [add_off, Nat.zero_add]; exact hw.keeps _ _ (hN j v hj))) rfl ?_
      refine WL.val (OV.neqTm (a := x.b) (b := T0) rfl rfl) rfl ?_
      refine WL.val (OV.move rfl) rfl ?_
      refine WL.split (t := 18) rfl (fun g18 => ?_) (fun g18 => ?_)
      · try simp only [decide_eq_true_eq, decide_eq_false_iff_not, Bool.not_eq_true', Bool.not_eq_false'] at g18
        refine WL.go (b := true) rfl rfl rfl ?_
        first
        | (refine WL.val (OV.fieldAddr0 (off := 0) rfl T.u34 rfl) rfl ?_)
        | (refine WL.val (OV.fieldAddr (off := 0) rfl T.u34 rfl) rfl ?_)
        refine WL.go (b := true) rfl rfl rfl ?_
        refine WL.val (OV.loadN (cs := tmC x.b) rfl T.u31 rfl T.z31 (fun _ hw j v hj => by rw [add_off]; exact own_part hw (.head _) (o := 0) (cs' := tmC x.b) rfl j v hj)) rfl ?_
        refine WL.go (b := true) rfl rfl rfl ?_
        refine WL.call0 (v := .bool (prinB x.b)) (by kernel_rfl) rfl rfl (fun w' hw' => prin_calls x.b w') ?_
        refine WL.go (b := true) rfl rfl rfl ?_
        refine WL.val (OV.not rfl) rfl ?_
        refine WL.val (OV.pickT rfl rfl) rfl ?_
        refine WL.val (OV.move rfl) rfl ?_
        refine WL.split (t := 24) rfl (fun g24 => ?_) (fun g24 => ?_)
        · try simp only [decide_eq_true_eq, decide_eq_false_iff_not, Bool.not_eq_true', Bool.not_eq_false'] at g24
          refine WL.go (b := true) rfl rfl rfl ?_
          first
          | (refine WL.val (OV.fieldAddr0 (off := 0) rfl T.u34 rfl) rfl ?_)
          | (refine WL.val (OV.fieldAddr (off := 0) rfl T.u34 rfl) rfl ?_)
          refine WL.go (b := true) rfl rfl rfl ?_
          refine WL.val (OV.loadN (cs := tmC x.b) rfl T.u31 rfl T.z31 (fun _ hw j v hj => by rw [add_off]; exact own_part hw (.head _) (o := 0) (cs' := tmC x.b) rfl j v hj)) rfl ?_
          refine WL.go (b := true) rfl rfl rfl ?_
          refine WL.call0 (v := .bool (varB x.b)) (by kernel_rfl) rfl rfl (fun w' hw' => var_calls x.b w') ?_
          refine WL.go (b := true) rfl rfl rfl ?_
          refine WL.val (OV.not rfl) rfl ?_
          refine WL.val (OV.pickT rfl rfl) rfl ?_
          refine WL.val (OV.assign rfl) rfl ?_
          refine WL.nil ?_
          refine WX.next ?_
          refine WC.cond rfl (fun c13 => ?_) (fun c13 => ?_)
          · try simp only [decide_eq_true_eq, decide_eq_false_iff_not, Bool.not_eq_true', Bool.not_eq_false'] at c13
            refine WC.seq ?_
            refine WC.region ?_
            refine WL.val (OV.assign rfl) rfl ?_
            refine WL.nil ?_
            refine WX.next ?_
            refine WC.ret ?_
            refine WX.block_ret ?_
            refine WX.then_ret ?_
            exact WX.ret1 rfl rfl rfl (fun w' hw => ⟨by clear hw; congr 2; simp_all [chkA] <;> (repeat' split) <;> first | omega | (exfalso; omega) | (rename_i hh; obtain ⟨y, h1, h2⟩ := hh; rw [c30 y h1] at h2; cases h2) | simp_all, hw.fr⟩)
          · try simp only [decide_eq_true_eq, decide_eq_false_iff_not, Bool.not_eq_true', Bool.not_eq_false'] at c13
            refine WC.seq ?_
            refine WC.region ?_
            first
            | (refine WL.val (OV.fieldAddr0 (off := 4) rfl T.u34 rfl) rfl ?_)
            | (refine WL.val (OV.fieldAddr (off := 4) rfl T.u34 rfl) rfl ?_)
            first
            | (refine WL.val (OV.load1 rfl T.u32 rfl (fun _ hw => cell_own hw (.head _) rfl)) rfl ?_)
            | (refine WL.val (OV.load1 rfl T.u32 rfl (fun _ hw => cell_own hw (.tail _ (.head _)) rfl)) rfl ?_)
            | (refine WL.val (OV.load1 rfl T.u32 rfl (fun _ hw => cell_own hw (.tail _ (.tail _ (.head _))) rfl)) rfl ?_)
            | (refine WL.val (OV.load1 rfl T.u32 rfl (fun _ hw => cell_own hw (.tail _ (.tail _ (.tail _ (.head _)))) rfl)) rfl ?_)
            refine WL.call0 (v := .bool (x.args.any badB)) (vs := [.slice a x.args.length c, .func (.func 90) #[] #[]]) (by kernel_rfl) rfl rfl (fun w' hw' => contF_calls badB 90 (by kernel_rfl) x.args a c hl w' (hr.keeps hw'.keeps) (fun t w'' _ => bad_calls t w'')) ?_
            refine WL.val (OV.assign rfl) rfl ?_
            refine WL.nil ?_
            refine WX.next ?_
            refine WC.cond rfl (fun c30 => ?_) (fun c30 => ?_)
            · try simp only [decide_eq_true_eq, decide_eq_false_iff_not, Bool.not_eq_true', Bool.not_eq_false'] at c30
              refine WC.seq ?_
              refine WC.region ?_
              refine WL.val (OV.assign rfl) rfl ?_
              refine WL.nil ?_
              refine WX.next ?_
              refine WC.ret ?_
              refine WX.block_ret ?_
              refine WX.then_ret ?_
              exact WX.ret1 rfl rfl rfl (fun w' hw => ⟨by clear hw; congr 2; simp_all [chkA] <;> (repeat' split) <;> first | omega | (exfalso; omega) | (rename_i hh; obtain ⟨y, h1, h2⟩ := hh; rw [c30 y h1] at h2; cases h2) | simp_all, hw.fr⟩)
            · try simp only [decide_eq_true_eq, decide_eq_false_iff_not, Bool.not_eq_true', Bool.not_eq_false'] at c30
              refine WC.skip ?_
              refine WX.block_normal ?_
              refine WX.next ?_
              refine WC.seq ?_
              refine WC.region ?_
              refine WL.val (OV.assign rfl) rfl ?_
              refine WL.nil ?_
              refine WX.next ?_
              refine WC.ret ?_
              exact WX.ret1 rfl rfl rfl (fun w' hw => ⟨by clear hw; congr 2; simp_all [chkA] <;> (repeat' split) <;> first | omega | (exfalso; omega) | (rename_i hh; obtain ⟨y, h1, h2⟩ := hh; rw [c30 y h1] at h2; cases h2) | simp_all, hw.fr⟩)
        · try simp only [decide_eq_true_eq, decide_eq_false_iff_not, Bool.not_eq_true', Bool.not_eq_false'] at g24
          refine WL.skip (b := false) rfl rfl rfl rfl ?_
          refine WL.skip (b := false) rfl rfl rfl rfl ?_
          refine WL.skip (b := false) rfl rfl rfl rfl ?_
          refine WL.skip (b := false) rfl rfl rfl rfl ?_
          refine WL.val (OV.pickF rfl rfl) rfl ?_
          refine WL.val (OV.assign rfl) rfl ?_
          refine WL.nil ?_
          refine WX.next ?_
          refine WC.condF rfl ?_
          refine WC.seq ?_
          refine WC.region ?_
          first
          | (refine WL.val (OV.fieldAddr0 (off := 4) rfl T.u34 rfl) rfl ?_)
          | (refine WL.val (OV.fieldAddr (off := 4) rfl T.u34 rfl) rfl ?_)
          first
          | (refine WL.val (OV.load1 rfl T.u32 rfl (fun _ hw => cell_own hw (.head _) rfl)) rfl ?_)
          | (refine WL.val (OV.load1 rfl T.u32 rfl (fun _ hw => cell_own hw (.tail _ (.head _)) rfl)) rfl ?_)
          | (refine WL.val (OV.load1 rfl T.u32 rfl (fun _ hw => cell_own hw (.tail _ (.tail _ (.head _))) rfl)) rfl ?_)
          | (refine WL.val (OV.load1 rfl T.u32 rfl (fun _ hw => cell_own hw (.tail _ (.tail _ (.tail _ (.head _)))) rfl)) rfl ?_)
          refine WL.call0 (v := .bool (x.args.any badB)) (vs := [.slice a x.args.length c, .func (.func 90) #[] #[]]) (by kernel_rfl) rfl rfl (fun w' hw' => contF_calls badB 90 (by kernel_rfl) x.args a c hl w' (hr.keeps hw'.keeps) (fun t w'' _ => bad_calls t w'')) ?_
          refine WL.val (OV.assign rfl) rfl ?_
          refine WL.nil ?_
          refine WX.next ?_
          refine WC.cond rfl (fun c30 => ?_) (fun c30 => ?_)
          · try simp only [decide_eq_true_eq, decide_eq_false_iff_not, Bool.not_eq_true', Bool.not_eq_false'] at c30
            refine WC.seq ?_
            refine WC.region ?_
            refine WL.val (OV.assign rfl) rfl ?_
            refine WL.nil ?_
            refine WX.next ?_
            refine WC.ret ?_
            refine WX.block_ret ?_
            refine WX.then_ret ?_
            exact WX.ret1 rfl rfl rfl (fun w' hw => ⟨by clear hw; congr 2; simp_all [chkA] <;> (repeat' split) <;> first | omega | (exfalso; omega) | (rename_i hh; obtain ⟨y, h1, h2⟩ := hh; rw [c30 y h1] at h2; cases h2) | simp_all, hw.fr⟩)
          · try simp only [decide_eq_true_eq, decide_eq_false_iff_not, Bool.not_eq_true', Bool.not_eq_false'] at c30
            refine WC.skip ?_
            refine WX.block_normal ?_
            refine WX.next ?_
            refine WC.seq ?_
            refine WC.region ?_
            refine WL.val (OV.assign rfl) rfl ?_
            refine WL.nil ?_
            refine WX.next ?_
            refine WC.ret ?_
            exact WX.ret1 rfl rfl rfl (fun w' hw => ⟨by clear hw; congr 2; simp_all [chkA] <;> (repeat' split) <;> first | omega | (exfalso; omega) | (rename_i hh; obtain ⟨y, h1, h2⟩ := hh; rw [c30 y h1] at h2; cases h2) | simp_all, hw.fr⟩)
      · try simp only [decide_eq_true_eq, decide_eq_false_iff_not, Bool.not_eq_true', Bool.not_eq_false'] at g18
        refine WL.skip (b := false) rfl rfl rfl rfl ?_
        refine WL.skip (b := false) rfl rfl rfl rfl ?_
        refine WL.skip (b := false) rfl rfl rfl rfl ?_
        refine WL.skip (b := false) rfl rfl rfl rfl ?_
        refine WL.val (OV.pickF rfl rfl) rfl ?_
        refine WL.val (OV.move rfl) rfl ?_
        refine WL.skip (b := false) rfl rfl rfl rfl ?_
        refine WL.skip (b := false) rfl rfl rfl rfl ?_
        refine WL.skip (b := false) rfl rfl rfl rfl ?_
        refine WL.skip (b := false) rfl rfl rfl rfl ?_
        refine WL.val (OV.pickF rfl rfl) rfl ?_
        refine WL.val (OV.assign rfl) rfl ?_
        refine WL.nil ?_
        refine WX.next ?_
        refine WC.condF rfl ?_
        refine WC.seq ?_
        refine WC.region ?_
        first
        | (refine WL.val (OV.fieldAddr0 (off := 4) rfl T.u34 rfl) rfl ?_)
        | (refine WL.val (OV.fieldAddr (off := 4) rfl T.u34 rfl) rfl ?_)
        first
        | (refine WL.val (OV.load1 rfl T.u32 rfl (fun _ hw => cell_own hw (.head _) rfl)) rfl ?_)
        | (refine WL.val (OV.load1 rfl T.u32 rfl (fun _ hw => cell_own hw (.tail _ (.head _)) rfl)) rfl ?_)
        | (refine WL.val (OV.load1 rfl T.u32 rfl (fun _ hw => cell_own hw (.tail _ (.tail _ (.head _))) rfl)) rfl ?_)
        | (refine WL.val (OV.load1 rfl T.u32 rfl (fun _ hw => cell_own hw (.tail _ (.tail _ (.tail _ (.head _)))) rfl)) rfl ?_)
        refine WL.call0 (v := .bool (x.args.any badB)) (vs := [.slice a x.args.length c, .func (.func 90) #[] #[]]) (by kernel_rfl) rfl rfl (fun w' hw' => contF_calls badB 90 (by kernel_rfl) x.args a c hl w' (hr.keeps hw'.keeps) (fun t w'' _ => bad_calls t w'')) ?_
        refine WL.val (OV.assign rfl) rfl ?_
        refine WL.nil ?_
        refine WX.next ?_
        refine WC.cond rfl (fun c30 => ?_) (fun c30 => ?_)
        · try simp only [decide_eq_true_eq, decide_eq_false_iff_not, Bool.not_eq_true', Bool.not_eq_false'] at c30
          refine WC.seq ?_
          refine WC.region ?_
          refine WL.val (OV.assign rfl) rfl ?_
          refine WL.nil ?_
          refine WX.next ?_
          refine WC.ret ?_
          refine WX.block_ret ?_
          refine WX.then_ret ?_
          exact WX.ret1 rfl rfl rfl (fun w' hw => ⟨by clear hw; congr 2; simp_all [chkA] <;> (repeat' split) <;> first | omega | (exfalso; omega) | (rename_i hh; obtain ⟨y, h1, h2⟩ := hh; rw [c30 y h1] at h2; cases h2) | simp_all, hw.fr⟩)
        · try simp only [decide_eq_true_eq, decide_eq_false_iff_not, Bool.not_eq_true', Bool.not_eq_false'] at c30
          refine WC.skip ?_
          refine WX.block_normal ?_
          refine WX.next ?_
          refine WC.seq ?_
          refine WC.region ?_
          refine WL.val (OV.assign rfl) rfl ?_
          refine WL.nil ?_
          refine WX.next ?_
          refine WC.ret ?_
          exact WX.ret1 rfl rfl rfl (fun w' hw => ⟨by clear hw; congr 2; simp_all [chkA] <;> (repeat' split) <;> first | omega | (exfalso; omega) | (rename_i hh; obtain ⟨y, h1, h2⟩ := hh; rw [c30 y h1] at h2; cases h2) | simp_all, hw.fr⟩)

set_option maxRecDepth 10000 in
theorem fact_calls (x : At) (a : Option Addr) (c : Nat) (hl : x.args.length ≤ 1099511627776) (hs : x.name.size ≤ 1099511627776) (w : World) (hN : NoneAt w) (hr : RT w a x.args) : Calls Tryz.prog 34 #[atV x a c] w fun e w' => e = .returned (.bool (factB x)) ∧ Fr0 w w' := by
  refine enterS (args := [atV x a c]) (fun _ => False) Tryz.func34 rfl Tryz.ntmps34 rfl rfl ?_
  refine WC.seq ?_
  refine WC.region ?_
  refine WL.box rfl rfl rfl ?_
  intro b1
  refine WL.val (OV.assign rfl) rfl ?_
  refine WL.nil ?_
  refine WX.next ?_
  refine WC.seq ?_
  refine WC.region ?_
  refine WL.val (OV.loadN (cs := atC x a c) rfl T.u34 rfl T.z34 (fun _ hw j v hj => by rw [add_off, Nat.zero_add]; exact own_cells hw (.head _) j v hj)) rfl ?_
  refine WL.call0 (v := .int .i64 (chkA x)) (by kernel_rfl) rfl rfl (fun w' hw' => chkA_calls x a c hl hs w' (hN.keeps hw'.keeps) (hr.keeps hw'.keeps)) ?_
  refine WL.val (OV.eql rfl rfl) rfl ?_
  refine WL.val (OV.move rfl) rfl ?_
  refine WL.split (t := 6) rfl (fun g6 => ?_) (fun g6 => ?_)
  · try simp only [decide_eq_true_eq, decide_eq_false_iff_not, Bool.not_eq_true', Bool.not_eq_false'] at g6
    refine WL.go (b := true) rfl rfl rfl ?_
    first
    | (refine WL.val (OV.fieldAddr0 (off := 0) rfl T.u34 rfl) rfl ?_)
    | (refine WL.val (OV.fieldAddr (off := 0) rfl T.u34 rfl) rfl ?_)
    refine WL.go (b := true) rfl rfl rfl ?_
    refine WL.val (OV.loadN (cs := tmC x.b) rfl T.u31 rfl T.z31 (fun _ hw j v hj => by rw [add_off]; exact own_part hw (.head _) (o := 0) (cs' := tmC x.b) rfl j v hj)) rfl ?_
    refine WL.go (b := true) rfl rfl rfl ?_
    refine WL.call0 (v := .bool (varB x.b)) (by kernel_rfl) rfl rfl (fun w' hw' => var_calls x.b w') ?_
    refine WL.go (b := true) rfl rfl rfl ?_
    refine WL.val (OV.not rfl) rfl ?_
    refine WL.val (OV.pickT rfl rfl) rfl ?_
    refine WL.val (OV.move rfl) rfl ?_
    refine WL.split (t := 12) rfl (fun g12 => ?_) (fun g12 => ?_)
    · try simp only [decide_eq_true_eq, decide_eq_false_iff_not, Bool.not_eq_true', Bool.not_eq_false'] at g12
      refine WL.go (b := true) rfl rfl rfl ?_
      first
      | (refine WL.val (OV.fieldAddr0 (off := 4) rfl T.u34 rfl) rfl ?_)
      | (refine WL.val (OV.fieldAddr (off := 4) rfl T.u34 rfl) rfl ?_)
      refine WL.go (b := true) rfl rfl rfl ?_
      first
      | (refine WL.val (OV.load1 rfl T.u32 rfl (fun _ hw => cell_own hw (.head _) rfl)) rfl ?_)
      | (refine WL.val (OV.load1 rfl T.u32 rfl (fun _ hw => cell_own hw (.tail _ (.head _)) rfl)) rfl ?_)
      | (refine WL.val (OV.load1 rfl T.u32 rfl (fun _ hw => cell_own hw (.tail _ (.tail _ (.head _))) rfl)) rfl ?_)
      | (refine WL.val (OV.load1 rfl T.u32 rfl (fun _ hw => cell_own hw (.tail _ (.tail _ (.tail _ (.head _)))) rfl)) rfl ?_)
      refine WL.go (b := true) rfl rfl rfl ?_
      refine WL.call0 (v := .bool (x.args.any varB)) (vs := [.slice a x.args.length c, .func (.func 48) #[] #[]]) (by kernel_rfl) rfl rfl (fun w' hw' => contF_calls varB 48 (by kernel_rfl) x.args a c hl w' (hr.keeps hw'.keeps) (fun t w'' _ => var_calls t w'')) ?_
      refine WL.go (b := true) rfl rfl rfl ?_
      refine WL.val (OV.not rfl) rfl ?_
      refine WL.val (OV.pickT rfl rfl) rfl ?_
      refine WL.val (OV.assign rfl) rfl ?_
      refine WL.nil ?_
      refine WX.next ?_
      refine WC.ret ?_
      exact WX.ret1 rfl rfl rfl (fun w' hw => ⟨by clear hw; congr 2; simp_all [factB], hw.fr⟩)
    · try simp only [decide_eq_true_eq, decide_eq_false_iff_not, Bool.not_eq_true', Bool.not_eq_false'] at g12
      refine WL.skip (b := false) rfl rfl rfl rfl ?_
      refine WL.skip (b := false) rfl rfl rfl rfl ?_
      refine WL.skip (b := false) rfl rfl rfl rfl ?_
      refine WL.skip (b := false) rfl rfl rfl rfl ?_
      refine WL.val (OV.pickF rfl rfl) rfl ?_
      refine WL.val (OV.assign rfl) rfl ?_
      refine WL.nil ?_
      refine WX.next ?_
      refine WC.ret ?_
      exact WX.ret1 rfl rfl rfl (fun w' hw => ⟨by clear hw; congr 2; simp_all [factB], hw.fr⟩)
  · try simp only [decide_eq_true_eq, decide_eq_false_iff_not, Bool.not_eq_true', Bool.not_eq_false'] at g6
    refine WL.skip (b := false) rfl rfl rfl rfl ?_
    refine WL.skip (b := false) rfl rfl rfl rfl ?_
    refine WL.skip (b := false) rfl rfl rfl rfl ?_
    refine WL.skip (b := false) rfl rfl rfl rfl ?_
    refine WL.val (OV.pickF rfl rfl) rfl ?_
    refine WL.val (OV.move rfl) rfl ?_
    refine WL.skip (b := false) rfl rfl rfl rfl ?_
    refine WL.skip (b := false) rfl rfl rfl rfl ?_
    refine WL.skip (b := false) rfl rfl rfl rfl ?_
    refine WL.skip (b := false) rfl rfl rfl rfl ?_
    refine WL.val (OV.pickF rfl rfl) rfl ?_
    refine WL.val (OV.assign rfl) rfl ?_
    refine WL.nil ?_
    refine WX.next ?_
    refine WC.ret ?_
    exact WX.ret1 rfl rfl rfl (fun w' hw => ⟨by clear hw; congr 2; simp_all [factB], hw.fr⟩)

end Go.Proofs.YtgiiifadbnpfkaaGreatDoor
