/- Contracts of functions of the program: what each returns and leaves in memory. Printed by gen.py and walk.py. The library's sort on a row of the call's own whose elements are structs; the comparison may lay blocks of its own. -/
import Derived.Test.YtgiiifadbnpfkaaGreatDoorMg12
import Derived.Test.YtgiiifadbnpfkaaGreatDoorMg11
namespace Go.Proofs.YtgiiifadbnpfkaaGreatDoor
open Go Go.Hw
set_option linter.unusedSimpArgs false
set_option linter.unusedVariables false
theorem _root_.Go.Hw.Sat.turned0 {w w' ws : World} {I : Nat → Prop} {A' : List Hw.Item} (h : Sat w (fun _ => False) I ws A' w') : Turns [] A' w w' :=
  ⟨h.fr.mono (fun _ f => f.elim), h.it, fun i hi b hb => ⟨(h.lt i hi b hb).1, by
    rcases (h.lt i hi b hb).2.2 with hf | hf
    · exact hf.elim
    · exact .inr hf⟩, h.disj⟩
theorem _root_.Go.Hw.Sat.nils {w0 ws w : World} {M I : Nat → Prop} {ow : List Hw.Item} (h : Sat w0 M I ws ow w) : Sat w0 M I ws [row 3 1 none 0 0 (ints []), row 3 1 none 0 0 (ints [])] w :=
  Sat.rowNil 3 1 (Sat.rowNil 3 1 (Sat.part (List.nil_sublist _) h))
theorem isSome_lk {m : List (Int × Int)} {c : Int} (h : (lk m c).isSome = true) : lk m c = some ((lk m c).getD 0) := by
  cases hl : lk m c with
  | some v => rfl
  | none => rw [hl] at h; cases h
theorem fits_at {row cols key : List Int} {i : Nat} (hc : i < cols.length) (h : fitsL row cols key) : good row (cols.getD i 0, key.getD i 0) := by
  have hk : i < key.length := by have := h.1; omega
  refine h.2 _ (List.mem_iff_getElem.2 ⟨i, by simp; omega, ?_⟩)
  simp [hc, hk]
def ksOf (m : List (Int × Int)) : List Int := m.map (·.1)
theorem srt_length (l : List Int) : (srt l).length = l.length := List.length_mergeSort _

set_option maxRecDepth 10000 in
theorem question_calls (g : RelG) (ok : RelOK g) (cols key : List Int) (a1 : Option Addr) (m1 c1 : Nat) (a2 : Option Addr) (m2 c2 : Nat) (hc : i64s cols) (hk : i64s key) (hm1 : m1 ≤ 1099511627776) (hm2 : m2 ≤ 1099511627776) (w : World) (hr1 : RI w a1 m1 cols) (hr2 : RI w a2 m2 key) (hA : Holds (relA g) w) :
  Calls Tryz.prog 93 #[.pointer (some ⟨g.r, 0, none⟩), .slice a1 m1 c1, .slice a2 m2 c2] w fun e w' => ∃ la lc ka kc ls ks b, e = .returned (.tuple #[.slice la ls.length lc, .slice ka ks.length kc, .bool b]) ∧ QR g.width cols key ls ks b ∧ Turns [] [row 3 1 la ls.length lc (ints ls), row 3 1 ka ks.length kc (ints ks)] w w' := by
  refine enterS (args := [.pointer (some ⟨g.r, 0, none⟩), .slice a1 m1 c1, .slice a2 m2 c2]) (fun _ => False) Tryz.func93 rfl Tryz.ntmps93 rfl rfl ?_
  refine WC.seq ?_
  refine WC.region ?_
  refine WL.val (OV.assign rfl) rfl ?_
  refine WL.val (OV.assign rfl) rfl ?_
  refine WL.val (OV.assign rfl) rfl ?_
  refine WL.nil ?_
  refine WX.next ?_
  refine WC.seq ?_
  refine WC.seq ?_
  refine WC.region ?_
  refine WL.val (OV.move rfl) rfl ?_
  first
  | (refine WL.val (OV.lenSlice rfl T.u74) rfl ?_)
  | (refine WL.val (OV.lenStr rfl T.u74) rfl ?_)
  refine WL.val (OV.move rfl) rfl ?_
  first
  | (refine WL.val (OV.lenSlice rfl T.u74) rfl ?_)
  | (refine WL.val (OV.lenStr rfl T.u74) rfl ?_)
  refine WL.val (OV.neq rfl rfl) rfl ?_
  refine WL.nil ?_
  refine WX.next ?_
  refine WC.cond rfl (fun c22 => ?_) (fun c22 => ?_)
  · try simp only [decide_eq_true_eq, decide_eq_false_iff_not, Bool.not_eq_true', Bool.not_eq_false'] at c22
    refine WC.seq ?_
    refine WC.region ?_
    refine WL.val (OV.assign rfl) rfl ?_
    refine WL.val (OV.assign rfl) rfl ?_
    refine WL.val (OV.assign rfl) rfl ?_
    refine WL.nil ?_
    refine WX.next ?_
    refine WC.ret ?_
    refine WX.then_ret ?_
    exact WX.ret3 rfl rfl rfl rfl rfl (fun w' hw => ⟨none, 0, none, 0, [], [], false, rfl, QR.bad (fun rr hrow hh => c22 (by have := hh.1; have := hr1.1; have := hr2.1; omega)), (Hw.Sat.turned0 (Hw.Sat.nils hw))⟩)
  · try simp only [decide_eq_true_eq, decide_eq_false_iff_not, Bool.not_eq_true', Bool.not_eq_false'] at c22
    refine WC.skip ?_
    refine WX.next ?_
    refine WC.seq ?_
    refine WC.region ?_
    refine WL.makeMap (Value.int .i64) rfl ?_
    intro m23
    refine WL.val (OV.assign rfl) rfl ?_
    refine WL.nil ?_
    refine WX.next ?_
    refine WC.seq ?_
    refine WC.region ?_
    refine WL.val (OV.assign rfl) rfl ?_
    refine WL.nil ?_
    refine WX.next ?_
    refine WC.seq ?_
    refine WC.seq ?_
    refine WC.region ?_
    refine WL.val (OV.move rfl) rfl ?_
    first
    | (refine WL.val (OV.lenSlice rfl T.u74) rfl ?_)
    | (refine WL.val (OV.lenStr rfl T.u74) rfl ?_)
    refine WL.val (OV.move rfl) rfl ?_
    refine WL.nil ?_
    refine WX.next ?_
    refine WC.block ?_
    have hml := hr1.1
    have hml2 := hr2.1
    refine WC.loop4 (fun (i : Nat) (m : List (Int × Int)) (la : Option Addr) (lc : Nat) => [(0, .pointer (some ⟨g.r, 0, none⟩)), (2, .slice a2 m2 c2), (9, .map (some m23)), (10, .slice la (ksOf m).length lc), (24, .slice a1 m1 c1), (25, .int .i64 (m1 : Int)), (26, .int .i64 (i : Int))])
        (fun i m la lc w' => (i ≤ m1 ∧ (ksOf m).length ≤ i ∧ QI g.width ((cols.zip key).take i) m) ∧ Sat w (fun _ => False) (fun b => b < w.heap.size) w [row 3 1 la (ksOf m).length lc (ints (ksOf m)), own m23 (mapK (Value.int .i64) (kvI m))] w')
        (fun i _ _ _ => m1 - i) 0 [] none 0 ⟨rfl, rfl, rfl, rfl, rfl, rfl, rfl, trivial⟩ (fun w' hw => ⟨⟨by omega, by simp [ksOf], by simpa using QI.nil g.width⟩, hw.rowNil 3 1⟩) ?_
    intro i m la lc
    refine WC.pure (fun hi => ?_)
    obtain ⟨hi, hmi, hq⟩ := hi
    refine WC.seq ?_
    refine WC.region ?_
    refine WL.val (OV.lss rfl rfl) rfl ?_
    refine WL.nil ?_
    refine WX.next ?_
    refine WC.seq ?_
    refine WC.cond rfl (fun c27 => ?_) (fun c27 => ?_)
    · try simp only [decide_eq_true_eq, decide_eq_false_iff_not, Bool.not_eq_true', Bool.not_eq_false'] at c27
      refine WC.skip ?_
      refine WX.next ?_
      refine WC.seq ?_
      refine WC.block ?_
      refine WC.seq ?_
      refine WC.region ?_
      refine WL.val (OV.move rfl) rfl ?_
      have hil : i < cols.length := by have := hr1.1; omega
      have hik : i < key.length := by have := hr2.1; have := hr1.1; omega
      obtain ⟨q1, rfl⟩ : ∃ q, a1 = some q := by
        cases a1 with
        | none => have := hr1.2.1 rfl; omega
        | some q => exact ⟨q, rfl⟩
      obtain ⟨q2, rfl⟩ : ∃ q, a2 = some q := by
        cases a2 with
        | none => have := hr2.2.1 rfl; omega
        | some q => exact ⟨q, rfl⟩
      refine WL.val (OV.indexSliceA (i := i) rfl rfl T.u74 T.z3 (by omega)) rfl ?_
      refine WL.val (OV.load1 (v := .int .i64 (cols.getD i 0)) rfl T.u3 rfl (fun _ hw => (hr1.sat hw).cell hil)) rfl ?_
      refine WL.val (OV.assign rfl) rfl ?_
      refine WL.val (OV.assign rfl) rfl ?_
      refine WL.nil ?_
      refine WX.next ?_
      refine WC.seq ?_
      refine WC.seq ?_
      refine WC.region ?_
      refine WL.val (OV.move rfl) rfl ?_
      refine WL.val (OV.lss rfl rfl) rfl ?_
      refine WL.val (OV.move rfl) rfl ?_
      refine WL.split (t := 33) rfl (fun g33 => ?_) (fun g33 => ?_)
      · try simp only [decide_eq_true_eq, decide_eq_false_iff_not, Bool.not_eq_true', Bool.not_eq_false'] at g33
        refine WL.skip (b := true) rfl rfl rfl rfl ?_
        refine WL.skip (b := true) rfl rfl rfl rfl ?_
        refine WL.skip (b := true) rfl rfl rfl rfl ?_
        refine WL.skip (b := true) rfl rfl rfl rfl ?_
        refine WL.skip (b := true) rfl rfl rfl rfl ?_
        refine WL.skip (b := true) rfl rfl rfl rfl ?_
        refine WL.val (OV.pickT rfl rfl) rfl ?_
        refine WL.nil ?_
        refine WX.next ?_
        refine WC.condT rfl ?_
        refine WC.seq ?_
        refine WC.region ?_
        refine WL.val (OV.assign rfl) rfl ?_
        refine WL.val (OV.assign rfl) rfl ?_
        refine WL.val (OV.assign rfl) rfl ?_
        refine WL.nil ?_
        refine WX.next ?_
        refine WC.ret ?_
        refine WX.then_ret ?_
        refine WX.block_ret ?_
        refine WX.then_ret ?_
        refine WX.then_ret ?_
        refine WX.block_ret ?_
        refine WX.then_ret ?_
        exact WX.ret3 rfl rfl rfl rfl rfl (fun w' hw => ⟨none, 0, none, 0, [], [], false, rfl, QR.bad (fun rr hrow hh => absurd (fits_at hil hh).1 (by omega)), (Hw.Sat.turned0 (Hw.Sat.nils hw))⟩)
      · try simp only [decide_eq_true_eq, decide_eq_false_iff_not, Bool.not_eq_true', Bool.not_eq_false'] at g33
        refine WL.go (b := false) rfl rfl rfl ?_
        refine WL.val (OV.move rfl) rfl ?_
        refine WL.go (b := false) rfl rfl rfl ?_
        refine WL.val (OV.move rfl) rfl ?_
        refine WL.go (b := false) rfl rfl rfl ?_
        refine WL.val (OV.nilCheck rfl) rfl ?_
        refine WL.go (b := false) rfl rfl rfl ?_
        first
        | (refine WL.val (OV.fieldAddr0 (off := 0) rfl T.u142 rfl) rfl ?_)
        | (refine WL.val (OV.fieldAddr (off := 0) rfl T.u142 rfl) rfl ?_)
        refine WL.go (b := false) rfl rfl rfl ?_
        refine WL.val (OV.load1 (v := .int .i64 (g.width : Int)) rfl T.u3 rfl (fun _ hw => snapL hw (cell_at (relA_hd hA) (o := 0) rfl).1)) rfl ?_
        refine WL.go (b := false) rfl rfl rfl ?_
        refine WL.val (OV.geq rfl rfl) rfl ?_
        refine WL.val (OV.pickF rfl rfl) rfl ?_
        refine WL.nil ?_
        refine WX.next ?_
        refine WC.cond rfl (fun c40 => ?_) (fun c40 => ?_)
        · try simp only [decide_eq_true_eq, decide_eq_false_iff_not, Bool.not_eq_true', Bool.not_eq_false'] at c40
          refine WC.seq ?_
          refine WC.region ?_
          refine WL.val (OV.assign rfl) rfl ?_
          refine WL.val (OV.assign rfl) rfl ?_
          refine WL.val (OV.assign rfl) rfl ?_
          refine WL.nil ?_
          refine WX.next ?_
          refine WC.ret ?_
          refine WX.then_ret ?_
          refine WX.block_ret ?_
          refine WX.then_ret ?_
          refine WX.then_ret ?_
          refine WX.block_ret ?_
          refine WX.then_ret ?_
          exact WX.ret3 rfl rfl rfl rfl rfl (fun w' hw => ⟨none, 0, none, 0, [], [], false, rfl, QR.bad (fun rr hrow hh => absurd (fits_at hil hh).2.1 (by omega)), (Hw.Sat.turned0 (Hw.Sat.nils hw))⟩)
        · try simp only [decide_eq_true_eq, decide_eq_false_iff_not, Bool.not_eq_true', Bool.not_eq_false'] at c40
          refine WC.skip ?_
          refine WX.next ?_
          refine WC.seq ?_
          refine WC.region ?_
          refine WL.val (OV.move rfl) rfl ?_
          refine WL.val (OV.move rfl) rfl ?_
          refine WL.val ((OV.lookupOk (enc := Value.int .i64) (kv := kvI m) (a := cols.getD i 0) (KeyLaw.int T.u3) T.u192 (by kernel_rfl) rfl rfl (fun _ hw => own_map (.tail _ (.head _)) _ hw)).cast (by rw [kvI_got, kvI_some])) rfl ?_
          refine WL.val (OV.move rfl) rfl ?_
          refine WL.val (OV.extract rfl rfl) rfl ?_
          refine WL.val (OV.extract rfl rfl) rfl ?_
          refine WL.val (OV.assign rfl) rfl ?_
          refine WL.val (OV.assign rfl) rfl ?_
          refine WL.nil ?_
          refine WX.next ?_
          refine WC.seq ?_
          refine WC.seq ?_
          refine WC.region ?_
          refine WL.val (OV.move rfl) rfl ?_
          refine WL.val (OV.move rfl) rfl ?_
          refine WL.split (t := 48) rfl (fun g48 => ?_) (fun g48 => ?_)
          · try simp only [decide_eq_true_eq, decide_eq_false_iff_not, Bool.not_eq_true', Bool.not_eq_false'] at g48
            refine WL.go (b := true) rfl rfl rfl ?_
            refine WL.val (OV.move rfl) rfl ?_
            refine WL.go (b := true) rfl rfl rfl ?_
            refine WL.val (OV.move rfl) rfl ?_
            refine WL.go (b := true) rfl rfl rfl ?_
            refine WL.val (OV.move rfl) rfl ?_
            refine WL.go (b := true) rfl rfl rfl ?_
            refine WL.val (OV.indexSliceA (i := i) rfl rfl T.u74 T.z3 (by omega)) rfl ?_
            refine WL.go (b := true) rfl rfl rfl ?_
            refine WL.val (OV.load1 (v := .int .i64 (key.getD i 0)) rfl T.u3 rfl (fun _ hw => (hr2.sat hw).cell hik)) rfl ?_
            refine WL.go (b := true) rfl rfl rfl ?_
            refine WL.val (OV.neq rfl rfl) rfl ?_
            refine WL.val (OV.pickT rfl rfl) rfl ?_
            refine WL.nil ?_
            refine WX.next ?_
            refine WC.cond rfl (fun c55 => ?_) (fun c55 => ?_)
            · try simp only [decide_eq_true_eq, decide_eq_false_iff_not, Bool.not_eq_true', Bool.not_eq_false'] at c55
              refine WC.seq ?_
              refine WC.region ?_
              refine WL.val (OV.assign rfl) rfl ?_
              refine WL.val (OV.assign rfl) rfl ?_
              refine WL.val (OV.assign rfl) rfl ?_
              refine WL.nil ?_
              refine WX.next ?_
              refine WC.ret ?_
              refine WX.then_ret ?_
              refine WX.block_ret ?_
              refine WX.then_ret ?_
              refine WX.then_ret ?_
              refine WX.block_ret ?_
              refine WX.then_ret ?_
              have hl1 := isSome_lk g48
              exact WX.ret3 rfl rfl rfl rfl rfl (fun w' hw => ⟨none, 0, none, 0, [], [], false, rfl, QR.bad (fun rr hrow hh => hq.clash (v := key.getD i 0) hl1 (by simpa using c55) rr (by rw [← zip_take_snoc hil hik]; exact fits_take hh (i + 1))), (Hw.Sat.turned0 (Hw.Sat.nils hw))⟩)
            · try simp only [decide_eq_true_eq, decide_eq_false_iff_not, Bool.not_eq_true', Bool.not_eq_false'] at c55
              refine WC.skip ?_
              refine WX.next ?_
              refine WC.seq ?_
              skip
              refine WC.region ?_
              refine WL.val (OV.move rfl) rfl ?_
              refine WL.val (OV.not rfl) rfl ?_
              refine WL.nil ?_
              refine WX.next ?_
              refine WC.condF (show _ = some (Value.bool false) from by rw [g48]; rfl) ?_
              refine WC.skip ?_
              refine WX.block_normal ?_
              refine WX.next ?_
              refine WC.region ?_
              first
              | (refine WL.val (OV.addI rfl rfl (by omega)) rfl ?_)
              | (refine WL.val (OV.add rfl rfl) rfl ?_)
              refine WL.val (OV.move rfl) rfl ?_
              refine WL.nil ?_
              have hl1 := isSome_lk g48
              have hv : (lk m (cols.getD i 0)).getD 0 = key.getD i 0 := by simpa using c55
              rw [hv] at hl1
              exact WX.round4 (i + 1) m la lc ⟨rfl, rfl, rfl, rfl, rfl, rfl, rfl, trivial⟩ (fun w' hw => ⟨⟨by omega, by omega, by rw [zip_take_snoc hil hik]; exact hq.same hl1⟩, hw⟩) (by show m1 - (i + 1) < m1 - i; omega)
          · try simp only [decide_eq_true_eq, decide_eq_false_iff_not, Bool.not_eq_true', Bool.not_eq_false'] at g48
            refine WL.skip (b := false) rfl rfl rfl rfl ?_
            refine WL.skip (b := false) rfl rfl rfl rfl ?_
            refine WL.skip (b := false) rfl rfl rfl rfl ?_
            refine WL.skip (b := false) rfl rfl rfl rfl ?_
            refine WL.skip (b := false) rfl rfl rfl rfl ?_
            refine WL.skip (b := false) rfl rfl rfl rfl ?_
            refine WL.val (OV.pickF rfl rfl) rfl ?_
            refine WL.nil ?_
            refine WX.next ?_
            refine WC.condF rfl ?_
            refine WC.skip ?_
            refine WX.next ?_
            refine WC.seq ?_
            have hln : lk m (cols.getD i 0) = none := by simpa using g48
            refine WC.region ?_
            refine WL.val (OV.move rfl) rfl ?_
            refine WL.val (OV.not rfl) rfl ?_
            refine WL.nil ?_
            refine WX.next ?_
            refine WC.condT (show _ = some (Value.bool true) from by rw [g48]; rfl) ?_
            refine WC.seq ?_
            refine WC.region ?_
            refine WL.val (OV.move rfl) rfl ?_
            refine WL.val (OV.move rfl) rfl ?_
            refine WL.val (OV.move rfl) rfl ?_
            refine WL.val (OV.move rfl) rfl ?_
            refine WL.val (OV.indexSliceA (i := i) rfl rfl T.u74 T.z3 (by omega)) rfl ?_
            refine WL.val (OV.load1 (v := .int .i64 (key.getD i 0)) rfl T.u3 rfl (fun _ hw => (hr2.sat hw).cell hik)) rfl ?_
            refine WL.focus perm1 (WL.mapUpdate (enc := Value.int .i64) (kv := kvI m) (a := cols.getD i 0) (KeyLaw.int T.u3) T.u192 rfl rfl rfl ?_)
            rw [kvI_ups hln]
            refine WL.nil ?_
            refine WX.next ?_
            refine WC.region ?_
            refine WL.val (OV.move rfl) rfl ?_
            refine WL.val (OV.move rfl) rfl ?_
            refine WL.buildSlice1 T.u74 T.z3 T.zr3 rfl rfl rfl ?_
            intro b66
            refine WL.focus perm2 (WL.append (news := ints [cols.getD i 0]) rfl rfl T.apI (fun _ _ => own_src (.tail _ (.head _)) rfl) (ints_one _) ⟨by omega, by unfold maxLen; omega⟩ rfl ?_)
            intro a67 c67
            refine WL.val (OV.assign rfl) rfl ?_
            refine WL.nil ?_
            refine WX.block_normal ?_
            refine WX.next ?_
            refine WC.region ?_
            first
            | (refine WL.val (OV.addI rfl rfl (by omega)) rfl ?_)
            | (refine WL.val (OV.add rfl rfl) rfl ?_)
            refine WL.val (OV.move rfl) rfl ?_
            refine WL.nil ?_
            have hk1 : (ksOf m).length + 1 = (ksOf (m ++ [(cols.getD i 0, key.getD i 0)])).length := by simp [ksOf]
            have hk2 : ints (ksOf m) ++ ints [cols.getD i 0] = ints (ksOf (m ++ [(cols.getD i 0, key.getD i 0)])) := by simp [ksOf, ints]
            exact WX.round4 (i + 1) (m ++ [(cols.getD i 0, key.getD i 0)]) a67 c67 ⟨rfl, rfl, rfl, by rw [← hk1]; rfl, rfl, rfl, rfl, trivial⟩ (fun w' hw => ⟨⟨by omega, by omega, by rw [zip_take_snoc hil hik]; exact hq.more hln ⟨by omega, by omega⟩⟩, by
              rw [← hk1, ← hk2]
              exact (hw.perm perm1).drop⟩) (by show m1 - (i + 1) < m1 - i; omega)
    · try simp only [decide_eq_true_eq, decide_eq_false_iff_not, Bool.not_eq_true', Bool.not_eq_false'] at c27
      refine WC.exit ?_
      refine WX.then_exit ?_
      refine WX.then_exit ?_
      refine WX.block_hit ?_
      refine WX.next ?_
      refine WC.seq ?_
      refine WC.region ?_
      refine WL.val (OV.move rfl) rfl ?_
      refine WL.callT1 (ι := Unit) (vv := fun _ => .tuple #[]) (pp := fun _ => True) (jj := fun _ => row 3 1 la (ksOf m).length lc (ints (srt (ksOf m)))) (by kernel_rfl) rfl rfl (fun w' hw' hH => (sortInts_calls Tryz.sortI la (ksOf m) w' hH (by omega)).mono (fun e w'' ⟨h1, h2⟩ => ⟨(), h1, trivial, h2⟩)) ?_
      rintro _ _
      rw [← srt_length (ksOf m)]
      refine WL.nil ?_
      refine WX.next ?_
      refine WC.seq ?_
      refine WC.region ?_
      refine WL.val (OV.assign rfl) rfl ?_
      refine WL.nil ?_
      refine WX.next ?_
      refine WC.seq ?_
      refine WC.seq ?_
      refine WC.region ?_
      refine WL.val (OV.move rfl) rfl ?_
      first
      | (refine WL.val (OV.lenSlice rfl T.u74) rfl ?_)
      | (refine WL.val (OV.lenStr rfl T.u74) rfl ?_)
      refine WL.val (OV.move rfl) rfl ?_
      refine WL.nil ?_
      refine WX.next ?_
      refine WC.block ?_
      have hmm : i = cols.length := by omega
      subst hmm
      have hll : (srt (ksOf m)).length = (ksOf m).length := srt_length _
      obtain ⟨ls, hls⟩ : ∃ ls, ls = srt (ksOf m) := ⟨_, rfl⟩
      rw [← hls] at hll ⊢
      refine WC.weak (S' := fun w' => (la = none → ls.length = 0) ∧ Sat w (fun _ => False) (fun b => b < w.heap.size) w [row 3 1 la ls.length lc (ints ls), own m23 (mapK (Value.int .i64) (kvI m))] w') (fun w' hw => ⟨(RI.of_row hw (.head _)).2.1, hw⟩) ?_
      refine WC.pure (fun hla => ?_)
      refine WC.loop3 (fun (j : Nat) (ka : Option Addr) (kc : Nat) => [(9, .map (some m23)), (10, .slice la ls.length lc), (15, .slice ka j kc), (71, .slice la ls.length lc), (72, .int .i64 (ls.length : Int)), (73, .int .i64 (j : Int))])
          (fun j ka kc w' => j ≤ ls.length ∧ Sat w (fun _ => False) (fun b => b < w.heap.size) w [row 3 1 ka j kc (ints ((ls.take j).map fun c => (lk m c).getD 0)), row 3 1 la ls.length lc (ints ls), own m23 (mapK (Value.int .i64) (kvI m))] w')
          (fun j _ _ => ls.length - j) 0 none 0 ⟨rfl, rfl, rfl, rfl, rfl, rfl, trivial⟩ (fun w' hw => ⟨by omega, hw.rowNil 3 1⟩) ?_
      intro j ka kc
      refine WC.pure (fun hj => ?_)
      refine WC.seq ?_
      refine WC.region ?_
      refine WL.val (OV.lss rfl rfl) rfl ?_
      refine WL.nil ?_
      refine WX.next ?_
      refine WC.seq ?_
      refine WC.cond rfl (fun c74 => ?_) (fun c74 => ?_)
      · try simp only [decide_eq_true_eq, decide_eq_false_iff_not, Bool.not_eq_true', Bool.not_eq_false'] at c74
        refine WC.skip ?_
        refine WX.next ?_
        refine WC.seq ?_
        refine WC.block ?_
        refine WC.seq ?_
        refine WC.region ?_
        have hjl : j < ls.length := by omega
        obtain ⟨q3, rfl⟩ : ∃ q, la = some q := by
          cases la with
          | none => exact absurd (hla rfl) (by omega)
          | some q => exact ⟨q, rfl⟩
        refine WL.val (OV.indexSliceA (i := j) rfl rfl T.u74 T.z3 (by omega)) rfl ?_
        refine WL.val (OV.load1 (v := .int .i64 (ls.getD j 0)) rfl T.u3 rfl (fun _ hw => (RI.of_row hw (.tail _ (.head _))).cell hjl)) rfl ?_
        refine WL.val (OV.assign rfl) rfl ?_
        refine WL.nil ?_
        refine WX.next ?_
        refine WC.region ?_
        refine WL.val (OV.move rfl) rfl ?_
        refine WL.val (OV.move rfl) rfl ?_
        refine WL.val (OV.move rfl) rfl ?_
        refine WL.val ((OV.lookup (enc := Value.int .i64) (kv := kvI m) (a := ls.getD j 0) (KeyLaw.int T.u3) T.u192 (by kernel_rfl) rfl rfl (fun _ hw => own_map (.tail _ (.tail _ (.head _))) _ hw)).cast (kvI_got m _)) rfl ?_
        refine WL.buildSlice1 T.u74 T.z3 T.zr3 rfl rfl rfl ?_
        intro b81
        refine WL.focus perm1 (WL.append (news := ints [((lk m (ls.getD j 0)).getD 0)]) rfl rfl T.apI (fun _ _ => own_src (.tail _ (.head _)) rfl) (ints_one _) ⟨by omega, by unfold maxLen; omega⟩ rfl ?_)
        intro a82 c82
        refine WL.val (OV.assign rfl) rfl ?_
        refine WL.nil ?_
        refine WX.block_normal ?_
        refine WX.next ?_
        refine WC.region ?_
        first
        | (refine WL.val (OV.addI rfl rfl (by omega)) rfl ?_)
        | (refine WL.val (OV.add rfl rfl) rfl ?_)
        refine WL.val (OV.move rfl) rfl ?_
        refine WL.nil ?_
        have e : ((ls.take j).map fun c => (lk m c).getD 0) ++ [((lk m (ls.getD j 0)).getD 0)] = (ls.take (j + 1)).map fun c => (lk m c).getD 0 := by rw [take_snoc hjl, List.map_append, List.map_singleton]
        exact WX.round3 (j + 1) a82 c82 ⟨rfl, rfl, rfl, rfl, rfl, rfl, trivial⟩ (fun w' hw => ⟨by omega, by
          rw [← e, ints_append]
          exact (hw.perm perm1).drop⟩) (by show ls.length - (j + 1) < ls.length - j; omega)
      · try simp only [decide_eq_true_eq, decide_eq_false_iff_not, Bool.not_eq_true', Bool.not_eq_false'] at c74
        refine WC.exit ?_
        refine WX.then_exit ?_
        refine WX.then_exit ?_
        refine WX.block_hit ?_
        refine WX.next ?_
        refine WC.seq ?_
        refine WC.region ?_
        refine WL.val (OV.move rfl) rfl ?_
        refine WL.val (OV.move rfl) rfl ?_
        refine WL.val (OV.assign rfl) rfl ?_
        refine WL.val (OV.assign rfl) rfl ?_
        refine WL.val (OV.assign rfl) rfl ?_
        refine WL.nil ?_
        refine WX.next ?_
        refine WC.ret ?_
        have hjl : j = ls.length := by omega
        subst hjl
        rw [List.take_length]
        have hcl : cols.length = key.length := by omega
        have hqq : QI g.width (cols.zip key) m := by rwa [List.take_of_length_le (by rw [List.length_zip]; exact Nat.min_le_left _ _)] at hq
        refine WX.ret3 rfl rfl rfl rfl rfl (fun w' hw => ⟨la, lc, ka, kc, ls, ls.map fun c => (lk m c).getD 0, true, by rw [List.length_map], ?_, ?_⟩)
        · rw [hls]
          exact QR.good hcl hqq hc hk (by simpa [ksOf] using hmi)
        · show Turns [] [row 3 1 la ls.length lc (ints ls), row 3 1 ka (ls.map fun c => (lk m c).getD 0).length kc (ints (ls.map fun c => (lk m c).getD 0))] w w'
          rw [List.length_map]
          exact Hw.Sat.turned0 ((Hw.Sat.part (List.Sublist.cons_cons _ (List.Sublist.cons_cons _ (List.nil_sublist _))) hw).perm (List.Perm.swap _ _ _))

end Go.Proofs.YtgiiifadbnpfkaaGreatDoor

namespace Go.Proofs.YtgiiifadbnpfkaaGreatDoor
open Go Go.Hw
set_option linter.unusedSimpArgs false
set_option linter.unusedVariables false
/-! ### An index is made -/
theorem rowsM_get {es : List Ent} {i : Nat} {q : ByteArray × Value} (h : (rowsM es)[i]? = some q) : ∃ e, es[i]? = some e ∧ q = (keyB e.row, ptr e.p) := by
  simp only [rowsM, List.getElem?_map] at h
  obtain ⟨x, h1, h2⟩ := Option.map_eq_some_iff.1 h
  exact ⟨x, h1, h2.symm⟩
theorem rowsM_length (es : List Ent) : (rowsM es).length = es.length := by simp [rowsM]
theorem spot_ix {ix : List Idx} {l : List Int} : ∀ i, (spot (ixM ix) (keyB l) i).map (·.2) = (ix.find? fun x => x.col.l = l).map fun x => ptr x.p := by
  induction ix with
  | nil => intro i; rfl
  | cons x ix ih =>
    intro i
    rw [ixM, List.map_cons]
    unfold spot
    by_cases h : x.col.l = l
    · rw [if_pos (by rw [h])]
      simp [h]
    · rw [if_neg (fun h2 => h (keyB_inj h2).symm)]
      rw [List.find?_cons_of_neg (by simpa using h)]
      exact ih (i + 1)
theorem ixM_got (ix : List Idx) (l : List Int) : (got (ixM ix) (keyB l)).getD (.pointer none) = .pointer ((ix.find? fun x => x.col.l = l).map fun x => ⟨x.p, 0, none⟩) := by
  rw [got, spot_ix]
  cases ix.find? fun x => x.col.l = l <;> rfl
theorem ixM_snoc {ix : List Idx} {x : Idx} (h : ∀ y ∈ ix, y.col.l ≠ x.col.l) : ups (ixM ix) (keyB x.col.l) (ptr x.p) = ixM (ix ++ [x]) := by
  rw [ups_new]
  · simp [ixM]
  · intro q hq
    obtain ⟨y, hy, rfl⟩ := List.mem_map.1 hq
    exact fun hh => h y hy (keyB_inj hh)
/-- The entries that the range has come to. -/
structure Vis (es : List Ent) (col : Col) (vis : List Nat) (V : List Ent) (gs : List Grp) : Prop where
  nd : vis.Nodup
  at_ : vis.map (fun i => es[i]?) = V.map some
  keys : (gs.map (·.k)).Nodup
  ps : ∀ k, psOf gs k = (V.filter fun e => ixKey col e = k).map (·.p)
theorem Vis.start (es : List Ent) (col : Col) : Vis es col [] [] [] := ⟨by simp, by simp, by simp, fun k => rfl⟩
theorem Vis.step {es : List Ent} {col : Col} {vis : List Nat} {V : List Ent} {gs : List Grp} (h : Vis es col vis V gs) {i : Nat} {e : Ent} (hi : es[i]? = some e) (hv : i ∉ vis) (a : Option Addr) (c : Nat) : Vis es col (vis ++ [i]) (V ++ [e]) (gadd gs (ixKey col e) e.p a c) := by
  refine ⟨?_, by simp [h.at_, hi], gadd_nodup _ _ _ _ h.keys, fun k => ?_⟩
  · rw [List.nodup_append]
    exact ⟨h.nd, by simp, fun a ha b hb => by simp only [List.mem_singleton] at hb; subst hb; exact fun e => hv (e ▸ ha)⟩
  · rw [psOf_gadd, h.ps, List.filter_append, List.map_append]
    congr 1
    by_cases hk : ixKey col e = k
    · simp [hk]
    · simp [hk, Ne.symm hk]
theorem Vis.len {es : List Ent} {col : Col} {vis : List Nat} {V : List Ent} {gs : List Grp} (h : Vis es col vis V gs) (k : ByteArray) : (psOf gs k).length ≤ es.length := by
  have h1 : vis.length ≤ (List.range es.length).length := by
    refine List.Nodup.length_le_of_subset h.nd (fun i hi => ?_)
    rw [List.mem_range]
    have h2 : es[i]? ∈ V.map some := by rw [← h.at_]; exact List.mem_map.2 ⟨i, hi, rfl⟩
    obtain ⟨x, _, hx⟩ := List.mem_map.1 h2
    exact (List.getElem?_eq_some_iff.1 hx.symm).1
  have h2 : V.length = vis.length := by have := congrArg List.length h.at_; simpa using this.symm
  have h3 := List.length_filter_le (fun e => decide (ixKey col e = k)) V
  rw [h.ps, List.length_map]
  rw [List.length_range] at h1
  omega
theorem Vis.all {es : List Ent} {col : Col} {vis : List Nat} {V : List Ent} {gs : List Grp} (h : Vis es col vis V gs) (ha : ∀ i, i < es.length → i ∈ vis) : V.Perm es := by
  have h1 : vis.Perm (List.range es.length) := by
    rw [List.perm_ext_iff_of_nodup h.nd List.nodup_range]
    intro i
    rw [List.mem_range]
    refine ⟨fun hi => ?_, ha i⟩
    have h2 : es[i]? ∈ V.map some := by rw [← h.at_]; exact List.mem_map.2 ⟨i, hi, rfl⟩
    obtain ⟨x, _, hx⟩ := List.mem_map.1 h2
    exact (List.getElem?_eq_some_iff.1 hx.symm).1
  have h2 := h1.map fun i => es[i]?
  rw [h.at_] at h2
  have h3 : (List.range es.length).map (fun i => es[i]?) = es.map some := by
    apply List.ext_getElem?
    intro i
    by_cases hi : i < es.length
    · simp [hi]
    · rw [List.getElem?_eq_none (by simp; omega), List.getElem?_eq_none (by simp; omega)]
  rw [h3] at h2
  have h4 := h2.filterMap id
  simpa [List.filterMap_map] using h4
theorem Vis.ok {es : List Ent} {col : Col} {vis : List Nat} {V : List Ent} {gs : List Grp} (h : Vis es col vis V gs) (ha : ∀ i, i < es.length → i ∈ vis) (p mb : Nat) : IdxOK es ⟨p, mb, col, gs⟩ :=
  ⟨h.keys, fun k => by rw [show psOf gs k = _ from h.ps k]; exact ((h.all ha).filter _).map _⟩
def ixG (g : RelG) (x : Idx) : RelG := { g with ix := g.ix ++ [x] }
theorem ixG_ok {g : RelG} (ok : RelOK g) {x : Idx} (hc : x.col ∈ g.cols) (hx : IdxOK g.es x) (hn : ∀ y ∈ g.ix, y.col.l ≠ x.col.l) : RelOK (ixG g x) where
  wid := ok.wid
  i64 := ok.i64
  part := ok.part
  rows := ok.rows
  ptrs := ok.ptrs
  fs := ok.fs
  ns := ok.ns
  cols := ok.cols
  ixc y hy := by
    rcases List.mem_append.1 hy with h | h
    · exact ok.ixc y h
    · simp only [List.mem_singleton] at h; subst h; exact hc
  ixk := by
    show ((g.ix ++ [x]).map fun x => x.col.l).Nodup
    rw [List.map_append, List.nodup_append]
    refine ⟨ok.ixk, by simp, fun a ha b hb => ?_⟩
    obtain ⟨y, hy, rfl⟩ := List.mem_map.1 ha
    simp only [List.map_cons, List.map_nil, List.mem_singleton] at hb
    subst hb
    exact hn y hy
  ix y hy := by
    rcases List.mem_append.1 hy with h | h
    · exact ok.ix y h
    · simp only [List.mem_singleton] at h; subst h; exact hx
  coll := ok.coll
  wl := ok.wl
  rl := ok.rl
  el := ok.el
theorem ixG_le (g : RelG) (x : Idx) : RelLe g (ixG g x) := ⟨rfl, rfl, fun e he => ⟨e, he, rfl, rfl, rfl, rfl⟩, fun _ h => h⟩
theorem tail_new {X : List Hw.Item} {es : List Ent} {cols : List Col} {ix : List Idx} {x : Idx} : (X ++ tailA es cols (ix ++ [x])).Perm (idxA x ++ (X ++ tailA es cols ix)) := by
  have h := tail_idx es cols ix [] x
  rw [List.append_nil] at h
  exact (List.Perm.append_left X h.symm).trans app_swap
theorem perm_deep2 {X : List Hw.Item} {e1 e2 : List Ent} {e : Ent} {k1 k2 : List Col} {c : Col} {m1 m2 : List Idx} {x : Idx} :
    ((idxA x ++ (entA e ++ colA c)) ++ (X ++ tailA (e1 ++ e2) (k1 ++ k2) (m1 ++ m2))).Perm (X ++ tailA (e1 ++ e :: e2) (k1 ++ c :: k2) (m1 ++ x :: m2)) := by
  have h1 : (idxA x ++ (entA e ++ (colA c ++ tailA (e1 ++ e2) (k1 ++ k2) (m1 ++ m2)))).Perm (tailA (e1 ++ e :: e2) (k1 ++ c :: k2) (m1 ++ x :: m2)) := by
    refine List.Perm.trans ?_ (tail_idx _ _ m1 m2 x)
    refine List.Perm.append_left _ ?_
    refine List.Perm.trans (List.Perm.append_left _ ?_) (tail_ent e1 e2 e _ _)
    exact tail_col _ k1 k2 c _
  refine List.Perm.trans ?_ (List.Perm.append_left _ h1)
  have e2 : idxA x ++ (entA e ++ (colA c ++ tailA (e1 ++ e2) (k1 ++ k2) (m1 ++ m2))) = (idxA x ++ (entA e ++ colA c)) ++ tailA (e1 ++ e2) (k1 ++ k2) (m1 ++ m2) := by simp
  rw [e2]
  exact app_swap
theorem perm_deep3 {X : List Hw.Item} {es e1 e2 : List Ent} {e : Ent} {cols k1 k2 : List Col} {c : Col} {m1 m2 : List Idx} {x : Idx} (he : es = e1 ++ e :: e2) (hk : cols = k1 ++ c :: k2) :
    ((idxA x ++ (entA e ++ colA c)) ++ (X ++ tailA (e1 ++ e2) (k1 ++ k2) (m1 ++ m2))).Perm (X ++ tailA es cols (m1 ++ x :: m2)) := by
  subst he hk
  exact perm_deep2
theorem col_i64 {g : RelG} (ok : RelOK g) {c : Col} (h : c ∈ g.cols) : i64s c.l := fun n hn => by
  have h1 := ok.cols c h n hn
  have h2 := ok.wl
  constructor <;> omega
theorem col_len {g : RelG} (ok : RelOK g) {c : Col} (h : c ∈ g.cols) : c.l.length ≤ 1099511627776 := ok.coll c h

set_option maxRecDepth 10000 in
theorem index_calls (g : RelG) (ok : RelOK g) (col : Col) (hcol : col ∈ g.cols) (w : World) (hA : Holds (relA g) w) :
  Calls Tryz.prog 95 #[ptr g.r, .slice col.a col.l.length col.c] w fun e w' => ∃ g' x, e = .returned (ptr x.p) ∧ x ∈ g'.ix ∧ x.col.l = col.l ∧ RelOK g' ∧ RelLe g g' ∧ g'.es = g.es ∧ g'.cols = g.cols ∧ Turns (relA g) (relA g') w w' := by
  refine enterA hA (args := [ptr g.r, .slice col.a col.l.length col.c]) Tryz.func95 rfl Tryz.ntmps95 rfl rfl ?_
  refine WC.seq ?_
  refine WC.region ?_
  refine WL.val (OV.assign rfl) rfl ?_
  refine WL.nil ?_
  refine WX.next ?_
  refine WC.seq ?_
  refine WC.region ?_
  refine WL.val (OV.move rfl) rfl ?_
  refine WL.val (OV.nilCheck rfl) rfl ?_
  first
  | (refine WL.val (OV.fieldAddr0 (off := 13) rfl T.u142 rfl) rfl ?_)
  | (refine WL.val (OV.fieldAddr (off := 13) rfl T.u142 rfl) rfl ?_)
  refine WL.callT1 (ι := Unit) (vv := fun _ => .tuple #[]) (pp := fun _ => True) (jj := fun _ => hdA g.r ((hdC g.width g.mb (fslice g) (nslice g) (counts g.es) g.ib).set 13 (.int .i32 1))) (by kernel_rfl) rfl rfl (fun w' hw' hH => (lock_calls 142 g.r 13 (hdC g.width g.mb (fslice g) (nslice g) (counts g.es) g.ib) (hdC_mu (counts_length _)) w' hH).mono (fun e w' ⟨h1, h2⟩ => ⟨(), h1, trivial, h2⟩)) ?_
  rintro _ _
  refine WL.nil ?_
  refine WX.next ?_
  refine WC.seq ?_
  refine WC.region ?_
  refine WL.val (OV.move rfl) rfl ?_
  refine WL.val (OV.nilCheck rfl) rfl ?_
  first
  | (refine WL.val (OV.fieldAddr0 (off := 13) rfl T.u142 rfl) rfl ?_)
  | (refine WL.val (OV.fieldAddr (off := 13) rfl T.u142 rfl) rfl ?_)
  refine WL.defer rfl rfl ?_
  refine WL.nil ?_
  refine WX.next ?_
  refine WC.seq ?_
  refine WC.region ?_
  refine WL.val (OV.move rfl) rfl ?_
  refine WL.call0 (by kernel_rfl) rfl rfl (fun w' hw => key_calls col.l col.a col.l.length col.c (col_i64 ok hcol) (col_len ok hcol) w' (RI.of_row hw (.tail _ (.tail _ (.tail _ (.tail _ (.tail _ (mem_col hcol)))))))) ?_
  refine WL.val (OV.assign rfl) rfl ?_
  refine WL.nil ?_
  refine WX.next ?_
  refine WC.seq ?_
  refine WC.region ?_
  refine WL.val (OV.move rfl) rfl ?_
  refine WL.val (OV.nilCheck rfl) rfl ?_
  first
  | (refine WL.val (OV.fieldAddr0 (off := 12) rfl T.u142 rfl) rfl ?_)
  | (refine WL.val (OV.fieldAddr (off := 12) rfl T.u142 rfl) rfl ?_)
  refine WL.val (OV.load1 (v := .map (some g.ib)) rfl T.u133 rfl (fun _ hw => cell_own hw (.head _) (by rw [List.getElem?_toArray, List.getElem?_set_ne (by decide)]; exact hdC_ix (counts_length _)))) rfl ?_
  refine WL.val (OV.move rfl) rfl ?_
  refine WL.val ((OV.lookup (KeyLaw.str T.u9) T.u133 (by kernel_rfl) rfl rfl (fun _ hw => own_map (.tail _ (.tail _ (.head _))) _ hw)).cast (ixM_got g.ix col.l)) rfl ?_
  refine WL.val (OV.assign rfl) rfl ?_
  refine WL.nil ?_
  refine WX.next ?_
  refine WC.seq ?_
  refine WC.seq ?_
  refine WC.region ?_
  refine WL.val (OV.move rfl) rfl ?_
  refine WL.val (OV.eqlPN T.u153 rfl rfl) rfl ?_
  refine WL.nil ?_
  refine WX.next ?_
  refine WC.cond rfl (fun c25 => ?_) (fun c25 => ?_)
  · try simp only [decide_eq_true_eq, decide_eq_false_iff_not, Bool.not_eq_true', Bool.not_eq_false'] at c25
    refine WC.seq ?_
    refine WC.region ?_
    refine WL.val (OV.move rfl) rfl ?_
    refine WL.makeMap (Value.string) rfl ?_
    intro m27
    refine WL.val (OV.buildStruct (xs := [(0, .tmp 26), (1, .tmp 27)]) (pl := [(0, 1), (1, 1)]) (cs := [.slice col.a col.l.length col.c, .map (some m27)]) T.u166 T.zr166 (by kernel_rfl) rfl (fill_cons (us := [_]) rfl rfl (by first | decide | simp) (fill_cons (us := [_]) rfl rfl (by first | decide | simp) rfl))) rfl ?_
    refine WL.box rfl rfl rfl ?_
    intro b29
    refine WL.val (OV.assign rfl) rfl ?_
    refine WL.nil ?_
    refine WX.next ?_
    refine WC.seq ?_
    refine WC.seq ?_
    refine WC.region ?_
    refine WL.val (OV.move rfl) rfl ?_
    refine WL.val (OV.nilCheck rfl) rfl ?_
    first
    | (refine WL.val (OV.fieldAddr0 (off := 1) rfl T.u142 rfl) rfl ?_)
    | (refine WL.val (OV.fieldAddr (off := 1) rfl T.u142 rfl) rfl ?_)
    refine WL.val (OV.load1 (v := .map (some g.mb)) rfl T.u130 rfl (fun _ hw => cell_own hw (.tail _ (.tail _ (.head _))) rfl)) rfl ?_
    refine WL.range T.u130 rfl (fun _ hw => own_map (kv := rowsM g.es) (.tail _ (.tail _ (.tail _ (.head _)))) _ hw) rfl ?_
    intro it34
    refine WL.nil ?_
    refine WX.next ?_
    refine WC.block ?_
    refine WC.loop3 (fun (gs : List Grp) (vis : List Nat) (V : List Ent) => [(0, ptr g.r), (5, .string (keyB col.l)), (6, ptr b29), (34, .pointer (some ⟨it34, 0, none⟩))])
        (fun gs vis V w' => Vis g.es col vis V gs ∧ Sat w (DD (relA g)) (fun b => b < w.heap.size ∧ ¬ DD (relA g) b) w ([own it34 (iterK g.mb (rowsM g.es).length vis), hdA g.r ((hdC g.width g.mb (fslice g) (nslice g) (counts g.es) g.ib).set 13 (.int .i32 1)), own g.mb (mapK Value.string (rowsM g.es)), own g.ib (mapK Value.string (ixM g.ix)), psA g.fa g.fc g.fs, psA g.na g.nc g.ns] ++ tailA g.es g.cols (g.ix ++ [(Idx.mk b29 m27 col gs)])) w')
        (fun _ vis _ => unseen (rowsM g.es).length vis) [] [] [] ⟨rfl, rfl, rfl, rfl, trivial⟩ (fun w' hw => ⟨Vis.start _ _, ?_⟩) ?_
    · exact hw.perm (List.Perm.cons _ (tail_new (X := [_, _, _, _, _]) (x := Idx.mk b29 m27 col [])))
    intro gs vis V
    refine WC.pure (fun hvis => ?_)
    refine WC.seq ?_
    refine WC.region ?_
    refine WL.next (enc := Value.string) (kv := rowsM g.es) rfl rfl (fun _ hw => own_map (.tail _ (.tail _ (.head _))) _ hw) ?_ ?_
    · intro hall
      refine WL.val (OV.extract rfl rfl) rfl ?_
      refine WL.nil ?_
      refine WX.next ?_
      refine WC.seq ?_
      refine WC.condF rfl ?_
      refine WC.exit ?_
      refine WX.then_exit ?_
      refine WX.then_exit ?_
      refine WX.block_hit ?_
      refine WX.next ?_
      refine WC.region ?_
      refine WL.val (OV.move rfl) rfl ?_
      refine WL.val (OV.nilCheck rfl) rfl ?_
      first
      | (refine WL.val (OV.fieldAddr0 (off := 12) rfl T.u142 rfl) rfl ?_)
      | (refine WL.val (OV.fieldAddr (off := 12) rfl T.u142 rfl) rfl ?_)
      refine WL.val (OV.load1 (v := .map (some g.ib)) rfl T.u133 rfl (fun _ hw => cell_own hw (.tail _ (.head _)) (by rw [List.getElem?_toArray, List.getElem?_set_ne (by decide)]; exact hdC_ix (counts_length _)))) rfl ?_
      refine WL.val (OV.move rfl) rfl ?_
      refine WL.val (OV.move rfl) rfl ?_
      have hnew : ∀ y ∈ g.ix, y.col.l ≠ col.l := by
        intro y hy hh
        have : (g.ix.find? fun x => x.col.l = col.l) = none := by simpa using c25
        rw [List.find?_eq_none] at this
        exact this y hy (by simpa using hh)
      refine WL.focus perm3 (WL.mapUpdate (enc := Value.string) (kv := ixM g.ix) (a := keyB col.l) (v := ptr b29) (KeyLaw.str T.u9) T.u133 rfl rfl rfl ?_)
      rw [ixM_snoc (x := (Idx.mk b29 m27 col gs)) hnew]
      refine WL.nil ?_
      refine WX.next ?_
      refine WC.seq ?_
      refine WC.region ?_
      refine WL.val (OV.move rfl) rfl ?_
      refine WL.val (OV.assign rfl) rfl ?_
      refine WL.nil ?_
      refine WX.next ?_
      refine WC.ret ?_
      rw [rowsM_length] at hall
      refine WX.leave rfl (WR.focus perm2 (WR.fn1 (by kernel_rfl) (fun w' hw hH => unlock_calls 142 g.r 13 ((hdC g.width g.mb (fslice g) (nslice g) (counts g.es) g.ib).set 13 (.int .i32 1)) (set_get (hdC_mu (counts_length _))) w' hH) ?_))
      rw [List.set_set, set_same (hdC_mu (counts_length _))]
      refine WR.ret1 rfl rfl (fun w' hw => ⟨ixG g (Idx.mk b29 m27 col gs), (Idx.mk b29 m27 col gs), rfl, List.mem_append_right _ (.head _), rfl, ixG_ok ok hcol (hvis.ok hall _ _) hnew, ixG_le _ _, rfl, rfl, ?_⟩)
      exact ((hw.perm ((List.Perm.cons _ (List.Perm.cons _ (List.Perm.swap _ _ _))).trans perm2)).drop (i := own it34 (iterK g.mb (rowsM g.es).length vis))).turned
    · intro i q hi2 hv
      obtain ⟨e, hie, rfl⟩ := rowsM_get hi2
      have he := List.mem_of_getElem? hie
      obtain ⟨e1, e2, he12⟩ := split_mem he
      obtain ⟨k1, k2, hk12⟩ := split_mem hcol
      have hwe := ok.wid e he
      have hel : e.row.length ≤ 1099511627776 := ok.rl e he
      have hcw : ∀ k ∈ col.l, 0 ≤ k ∧ k < (e.row.length : Int) := fun k hkk => by have := ok.cols _ hcol k hkk; omega
      refine WL.val (OV.extract rfl rfl) rfl ?_
      refine WL.nil ?_
      refine WX.next ?_
      refine WC.seq ?_
      refine WC.condT rfl ?_
      refine WC.skip ?_
      refine WX.next ?_
      refine WC.block ?_
      refine WC.seq ?_
      refine WC.region ?_
      refine WL.val (OV.entry (enc := Value.string) (kv := rowsM g.es) (i := i) rfl (fun _ hw => hw.it _ (.head _)) (fun _ hw => own_map (.tail _ (.tail _ (.head _))) _ hw) hi2) rfl ?_
      refine WL.val (OV.extract rfl rfl) rfl ?_
      refine WL.val (OV.assign rfl) rfl ?_
      refine WL.nil ?_
      refine WX.next ?_
      refine WC.region ?_
      refine WL.val (OV.move rfl) rfl ?_
      refine WL.val (OV.move rfl) rfl ?_
      refine WL.focus (ow' := (idxA (Idx.mk b29 m27 col gs) ++ (entA e ++ colA col)) ++ ([own it34 (iterK g.mb (rowsM g.es).length (vis ++ [i])), hdA g.r ((hdC g.width g.mb (fslice g) (nslice g) (counts g.es) g.ib).set 13 (.int .i32 1)), own g.mb (mapK Value.string (rowsM g.es)), own g.ib (mapK Value.string (ixM g.ix)), psA g.fa g.fc g.fs, psA g.na g.nc g.ns] ++ tailA (e1 ++ e2) (k1 ++ k2) (g.ix ++ []))) (perm_deep3 he12 hk12) (WL.callTA (ι := Option Addr × Nat) (vv := fun _ => .tuple #[]) (pp := fun _ => True) (idxA (Idx.mk b29 m27 col gs) ++ (entA e ++ colA col)) (AA := fun q => idxA (Idx.mk b29 m27 col (gadd gs (ixKey col e) e.p q.1 q.2)) ++ (entA e ++ colA col)) rfl (by kernel_rfl) rfl rfl (fun w'' hw'' hH => (idxAdd_calls (Idx.mk b29 m27 col gs) e hcw (ok.i64 e he) hel (col_len ok hcol) (Nat.le_trans (hvis.len _) ok.el) w'' hH).mono (fun en w3 ⟨q1, a', c', q2⟩ => ⟨(a', c'), q1, trivial, q2⟩)) ?_)
      rintro ⟨a41, c41⟩ _
      refine WL.nil ?_
      refine WX.block_normal ?_
      exact WX.round3 (gadd gs (ixKey col e) e.p a41 c41) (vis ++ [i]) (V ++ [e]) ⟨rfl, rfl, rfl, rfl, trivial⟩ (fun w' hw => ⟨hvis.step hie hv a41 c41, hw.perm (perm_deep3 he12 hk12).symm⟩) (unseen_lt (List.getElem?_eq_some_iff.1 hi2).1 hv)
  · try simp only [decide_eq_true_eq, decide_eq_false_iff_not, Bool.not_eq_true', Bool.not_eq_false'] at c25
    refine WC.skip ?_
    refine WX.next ?_
    refine WC.seq ?_
    refine WC.region ?_
    refine WL.val (OV.move rfl) rfl ?_
    refine WL.val (OV.assign rfl) rfl ?_
    refine WL.nil ?_
    refine WX.next ?_
    refine WC.ret ?_
    obtain ⟨x, hf⟩ : ∃ x, (g.ix.find? fun x => x.col.l = col.l) = some x := by
      cases h : g.ix.find? fun x => x.col.l = col.l with
      | none => rw [h] at c25; simp at c25
      | some e => exact ⟨e, rfl⟩
    have hxm := List.mem_of_find?_eq_some hf
    have hxl : x.col.l = col.l := by simpa using List.find?_some hf
    simp only [hf, Option.map_some]
    refine WX.leave rfl (WR.fn1 (by kernel_rfl) (fun w' hw hH => unlock_calls 142 g.r 13 ((hdC g.width g.mb (fslice g) (nslice g) (counts g.es) g.ib).set 13 (.int .i32 1)) (set_get (hdC_mu (counts_length _))) w' hH) ?_)
    rw [List.set_set, set_same (hdC_mu (counts_length _))]
    exact WR.ret1 rfl rfl (fun w' hw => ⟨g, x, rfl, hxm, hxl, ok, RelLe.refl g, rfl, rfl, hw.turned⟩)

end Go.Proofs.YtgiiifadbnpfkaaGreatDoor

namespace Go.Proofs.YtgiiifadbnpfkaaGreatDoor
open Go Go.Hw
set_option linter.unusedSimpArgs false
set_option linter.unusedVariables false
/-! ### Find -/
structure FB where
  bO : Nat
  bR : Nat
  bL : Nat
  bK : Nat
  bP : Nat
  r : Nat
  parts : Int
  la : Option Addr
  lc : Nat
  ls : List Int
  ka : Option Addr
  kc : Nat
  ks : List Int
  b : Bool
def FB.col (F : FB) : Col := ⟨F.la, F.lc, F.ls⟩
abbrev box1 (b : Nat) (T : TypeId) (v : Value) : Hw.Item := own b (.cells [v].toArray T (0, 0))
def boxA (F : FB) : List Hw.Item := [box1 F.bO 4 (.bool F.b), box1 F.bR 85 (ptr F.r), box1 F.bL 74 (.slice F.la F.ls.length F.lc), box1 F.bK 74 (.slice F.ka F.ks.length F.kc), box1 F.bP 3 (.int .i64 F.parts), row 3 1 F.ka F.ks.length F.kc (ints F.ks)]
def FB.caps (F : FB) : List Value := [ptr F.bO, ptr F.bR, ptr F.bL, ptr F.bK, ptr F.bP]
def FB.fn (F : FB) : Value := .func (.func 94) #[] F.caps.toArray
def colG (g : RelG) (c : Col) : RelG := { g with cols := g.cols ++ [c] }
theorem colG_ok {g : RelG} (ok : RelOK g) {c : Col} (h1 : ∀ k ∈ c.l, 0 ≤ k ∧ k < g.width) (h2 : c.l.length ≤ 1099511627776) : RelOK (colG g c) where
  wid := ok.wid
  i64 := ok.i64
  part := ok.part
  rows := ok.rows
  ptrs := ok.ptrs
  fs := ok.fs
  ns := ok.ns
  cols x hx := by
    rcases List.mem_append.1 hx with h | h
    · exact ok.cols x h
    · simp only [List.mem_singleton] at h; subst h; exact h1
  ixc x hx := List.mem_append_left _ (ok.ixc x hx)
  ixk := ok.ixk
  ix := ok.ix
  coll x hx := by
    rcases List.mem_append.1 hx with h | h
    · exact ok.coll x h
    · simp only [List.mem_singleton] at h; subst h; exact h2
  wl := ok.wl
  rl := ok.rl
  el := ok.el
theorem colG_le (g : RelG) (c : Col) : RelLe g (colG g c) := ⟨rfl, rfl, fun e he => ⟨e, he, rfl, rfl, rfl, rfl⟩, fun _ h => List.mem_append_left _ h⟩
theorem relA_col (g : RelG) (c : Col) : (relA (colG g c)).Perm (row 3 1 c.a c.l.length c.c (ints c.l) :: relA g) := by
  have h := tail_col g.es g.cols [] c g.ix
  rw [List.append_nil] at h
  have h2 := (List.Perm.append_left [hdA g.r (hdC g.width g.mb (fslice g) (nslice g) (counts g.es) g.ib), own g.mb (mapK Value.string (rowsM g.es)), own g.ib (mapK Value.string (ixM g.ix)), psA g.fa g.fc g.fs, psA g.na g.nc g.ns] h).symm
  exact h2.trans (List.perm_middle (l₁ := [_, _, _, _, _]))

set_option maxRecDepth 10000 in
theorem find_calls (g : RelG) (ok : RelOK g) (parts : Int) (cols key : List Int) (a1 : Option Addr) (m1 c1 : Nat) (a2 : Option Addr) (m2 c2 : Nat) (hc : i64s cols) (hk : i64s key) (hm1 : m1 ≤ 1099511627776) (hm2 : m2 ≤ 1099511627776) (w : World) (hr1 : RI w a1 m1 cols) (hr2 : RI w a2 m2 key) (hne1 : ∀ b, a1 = some b → 0 < m1 → ¬ DD (relA g) b.block) (hne2 : ∀ b, a2 = some b → 0 < m2 → ¬ DD (relA g) b.block) (hA : Holds (relA g) w) :
  Calls Tryz.prog 65 #[ptr g.r, .int .i64 parts, .slice a1 m1 c1, .slice a2 m2 c2] w fun e w' => ∃ F : FB, e = .returned F.fn ∧ F.r = g.r ∧ F.parts = parts ∧ QR g.width cols key F.ls F.ks F.b ∧ RelOK (colG g F.col) ∧ Turns (relA g) (relA (colG g F.col) ++ boxA F) w w' := by
  refine enterA hA (args := [ptr g.r, .int .i64 parts, .slice a1 m1 c1, .slice a2 m2 c2]) Tryz.func65 rfl Tryz.ntmps65 rfl rfl ?_
  refine WC.seq ?_
  refine WC.region ?_
  refine WL.box rfl rfl rfl ?_
  intro b4
  refine WL.box rfl rfl rfl ?_
  intro b5
  refine WL.val (OV.assign rfl) rfl ?_
  refine WL.nil ?_
  refine WX.next ?_
  refine WC.seq ?_
  refine WC.region ?_
  first
  | (refine WL.val (OV.load1 rfl T.u85 rfl (fun _ hw => cell_own hw (.head _) rfl)) rfl ?_)
  | (refine WL.val (OV.load1 rfl T.u85 rfl (fun _ hw => cell_own hw (.tail _ (.head _)) rfl)) rfl ?_)
  | (refine WL.val (OV.load1 rfl T.u85 rfl (fun _ hw => cell_own hw (.tail _ (.tail _ (.head _))) rfl)) rfl ?_)
  | (refine WL.val (OV.load1 rfl T.u85 rfl (fun _ hw => cell_own hw (.tail _ (.tail _ (.tail _ (.head _)))) rfl)) rfl ?_)
  refine WL.val (OV.move rfl) rfl ?_
  refine WL.val (OV.move rfl) rfl ?_
  refine WL.callTA (ι := Option Addr × Nat × Option Addr × Nat × List Int × List Int × Bool) (vv := fun q => .tuple #[.slice q.1 q.2.2.2.2.1.length q.2.1, .slice q.2.2.1 q.2.2.2.2.2.1.length q.2.2.2.1, .bool q.2.2.2.2.2.2]) (pp := fun q => QR g.width cols key q.2.2.2.2.1 q.2.2.2.2.2.1 q.2.2.2.2.2.2) [] (AA := fun q => [row 3 1 q.1 q.2.2.2.2.1.length q.2.1 (ints q.2.2.2.2.1), row 3 1 q.2.2.1 q.2.2.2.2.2.1.length q.2.2.2.1 (ints q.2.2.2.2.2.1)]) rfl (by kernel_rfl) rfl rfl (fun w' hw' _ => (question_calls g ok cols key a1 m1 c1 a2 m2 c2 hc hk hm1 hm2 w' (hr1.satA hne1 hw') (hr2.satA hne2 hw') hw'.drop.drop.holdsAll).mono (fun en w'' ⟨la, lc, ka, kc, ls, ks, b, h1, h2, h3⟩ => ⟨(la, lc, ka, kc, ls, ks, b), h1, h2, h3⟩)) ?_
  rintro ⟨la, lc, ka, kc, ls, ks, b⟩ hq
  refine WL.val (OV.move rfl) rfl ?_
  refine WL.val (OV.extract rfl rfl) rfl ?_
  refine WL.val (OV.extract rfl rfl) rfl ?_
  refine WL.val (OV.extract rfl rfl) rfl ?_
  refine WL.alloc T.zr74 rfl ?_
  intro b9
  refine WL.alloc T.zr74 rfl ?_
  intro b10
  refine WL.alloc T.zr4 rfl ?_
  intro b11
  first
  | (refine WL.store1 rfl rfl rfl T.z74 (by first | decide | (simp; omega)) ?_)
  | (refine WL.focus perm1 (WL.store1 rfl rfl rfl T.z74 (by first | decide | (simp; omega)) ?_))
  | (refine WL.focus perm2 (WL.store1 rfl rfl rfl T.z74 (by first | decide | (simp; omega)) ?_))
  | (refine WL.focus perm3 (WL.store1 rfl rfl rfl T.z74 (by first | decide | (simp; omega)) ?_))
  first
  | (refine WL.store1 rfl rfl rfl T.z74 (by first | decide | (simp; omega)) ?_)
  | (refine WL.focus perm1 (WL.store1 rfl rfl rfl T.z74 (by first | decide | (simp; omega)) ?_))
  | (refine WL.focus perm2 (WL.store1 rfl rfl rfl T.z74 (by first | decide | (simp; omega)) ?_))
  | (refine WL.focus perm3 (WL.store1 rfl rfl rfl T.z74 (by first | decide | (simp; omega)) ?_))
  first
  | (refine WL.store1 rfl rfl rfl T.z4 (by first | decide | (simp; omega)) ?_)
  | (refine WL.focus perm1 (WL.store1 rfl rfl rfl T.z4 (by first | decide | (simp; omega)) ?_))
  | (refine WL.focus perm2 (WL.store1 rfl rfl rfl T.z4 (by first | decide | (simp; omega)) ?_))
  | (refine WL.focus perm3 (WL.store1 rfl rfl rfl T.z4 (by first | decide | (simp; omega)) ?_))
  refine WL.nil ?_
  refine WX.next ?_
  refine WC.seq ?_
  refine WC.region ?_
  refine WL.val (OV.makeFunc rfl) rfl ?_
  refine WL.val (OV.assign rfl) rfl ?_
  refine WL.nil ?_
  refine WX.next ?_
  refine WC.ret ?_
  have hle := hq.le
  have h1 := hr1.1
  refine WX.ret1 rfl rfl rfl (fun w' hw => ⟨⟨b11, b4, b9, b10, b5, g.r, parts, la, lc, ls, ka, kc, ks, b⟩, rfl, rfl, rfl, hq, colG_ok ok hq.ok (Nat.le_trans hle (by omega)), ?_⟩)
  refine (hw.perm ?_).turned
  refine (List.Perm.append_right _ (relA_col g _)).trans ?_
  refine List.perm_append_comm.trans ?_
  exact (perm_pick [_, _, _, _, _, _, _] [0, 6, 2, 1, 5, 4, 3] (by decide) rfl)

end Go.Proofs.YtgiiifadbnpfkaaGreatDoor

namespace Go.Proofs.YtgiiifadbnpfkaaGreatDoor
open Go Go.Hw
set_option linter.unusedSimpArgs false
set_option linter.unusedVariables false
/-! ### The rows that are found, in rising order -/
instance (row : List Int) (p : Int × Int) : Decidable (good row p) := by unfold good; infer_instance
instance (row cols key : List Int) : Decidable (fitsL row cols key) := by unfold fitsL; infer_instance
def sortR (l : List (List Int)) : List (List Int) := l.mergeSort fun a b => !decide (cmpL b a < 0)
def selR (L : List (List Int × Nat)) (parts : Int) (cols key : List Int) : List (List Int) := sortR ((L.filter fun p => inP parts p.2 && decide (fitsL p.1 cols key)).map (·.1))
theorem cmp_swo : Go.Sort.SWO (Go.Proofs.ltOf cmpL) := cmpL_swo id
theorem sortR_sorted (l : List (List Int)) : (sortR l).Pairwise fun a b => ¬ cmpL b a < 0 := by
  have h := List.pairwise_mergeSort (le := fun a b => !decide (cmpL b a < 0)) (fun a b c h1 h2 => by
    simp only [Bool.not_eq_true', decide_eq_false_iff_not] at *
    have := cmp_swo.ntrans c b a (by simpa [Go.Proofs.ltOf] using h2) (by simpa [Go.Proofs.ltOf] using h1)
    simpa [Go.Proofs.ltOf] using this) (fun a b => by
    simp only [Bool.or_eq_true, Bool.not_eq_true', decide_eq_false_iff_not]
    by_cases h : cmpL b a < 0
    · right
      intro h2
      have := cmpL_trans h h2
      rw [cmpL_self] at this
      omega
    · exact .inl h) l
  refine h.imp ?_
  intro a b hab
  simpa using hab
theorem sortR_eq {ys rows : List (List Int)} (hp : ys.Perm rows) (hs : ys.Pairwise fun a b => ¬ cmpL b a < 0) : ys = sortR rows := by
  refine List.Perm.eq_of_pairwise (le := fun a b => ¬ cmpL b a < 0) (fun a b _ _ h1 h2 => ?_) hs (sortR_sorted rows) (hp.trans (List.mergeSort_perm _ _).symm)
  rcases cmpL_lt_or a b with h | h | h
  · exact absurd h h2
  · exact h
  · exact absurd h h1
theorem sortR_perm (l : List (List Int)) : (sortR l).Perm l := List.mergeSort_perm _ _
theorem perm_lift {α β : Type} (f : α → β) {ps qs : List β} (h : ps.Perm qs) : ∀ l : List α, l.map f = qs → ∃ l' : List α, l'.Perm l ∧ l'.map f = ps := by
  induction h with
  | nil =>
    intro l hl
    exact ⟨[], by rw [List.map_eq_nil_iff.1 hl], rfl⟩
  | cons a h ih =>
    intro l hl
    obtain ⟨x, l2, rfl, rfl, h2⟩ := List.map_eq_cons_iff.1 hl
    obtain ⟨l', h3, h4⟩ := ih l2 h2
    exact ⟨x :: l', h3.cons x, by rw [List.map_cons, h4]⟩
  | swap a b l0 =>
    intro l hl
    obtain ⟨x, l2, rfl, rfl, h2⟩ := List.map_eq_cons_iff.1 hl
    obtain ⟨y, l3, rfl, rfl, rfl⟩ := List.map_eq_cons_iff.1 h2
    exact ⟨y :: x :: l3, List.Perm.swap _ _ _, rfl⟩
  | trans h1 h2 ih1 ih2 =>
    intro l hl
    obtain ⟨l2, h3, h4⟩ := ih2 l hl
    obtain ⟨l3, h5, h6⟩ := ih1 l2 h4
    exact ⟨l3, h5.trans h3, h6⟩
theorem grp_mem (gs : List Grp) (k : ByteArray) : ∃ a0 c0, (got (grpM gs) k).getD (.slice none 0 0) = .slice a0 (psOf gs k).length c0 ∧ (0 < (psOf gs k).length → row 143 1 a0 (psOf gs k).length c0 (ptrs (psOf gs k)) ∈ gs.flatMap grpA) := by
  obtain ⟨a0, c0, L, h1, h2, _⟩ := grp_focus gs k
  refine ⟨a0, c0, h1, fun hp => ?_⟩
  rcases h2 with h2 | ⟨_, _, h3, _⟩
  · exact h2.mem_iff.2 (.head _)
  · rw [h3] at hp
    simp at hp
def encE (e : Ent) : Value := .slice e.a e.row.length e.c
def fnd (parts : Int) (ES : List Ent) (i : Nat) : List Ent := (ES.take i).filter fun e => inP parts e.part
def encs (l : List Ent) : List Value := l.map encE
theorem fnd_succ {parts : Int} {ES : List Ent} {i : Nat} {e : Ent} (h : ES[i]? = some e) : fnd parts ES (i + 1) = fnd parts ES i ++ if inP parts e.part then [e] else [] := by
  have e1 : ES.take (i + 1) = ES.take i ++ [e] := by rw [List.take_add_one, h]; rfl
  rw [fnd, e1, List.filter_append, fnd]
  congr 1
  by_cases hp : inP parts e.part <;> simp [hp]
theorem fnd_le (parts : Int) (ES : List Ent) (i : Nat) : (fnd parts ES i).length ≤ ES.length := Nat.le_trans (List.length_filter_le _ _) (by rw [List.length_take]; omega)
theorem encs_one (l : List Ent) : ∀ u ∈ encs l, u.oneCell' = true := by
  intro u hu
  simp only [encs, List.mem_map] at hu
  obtain ⟨c, _, rfl⟩ := hu
  rfl
theorem T.apR : appB Tryz.prog 86 74 1 24 = true := by kernel_rfl
/-- What stands in the sorted list. -/
theorem sel_eq {g : RelG} (ok : RelOK g) {x : Idx} {parts : Int} {cols key ks : List Int} {b : Bool} (hq : QR g.width cols key x.col.l ks b) (hb : b = true) {ES : List Ent} (hES : ES.Perm (g.es.filter fun e => ixKey x.col e = keyB ks)) {rows : List (List Int)} (hp : rows.Perm ((fnd parts ES ES.length).map (·.row))) (hs : rows.Pairwise fun a b => ¬ cmpL b a < 0) : rows = selR (rp g) parts cols key := by
  refine sortR_eq (hp.trans ?_) hs
  rw [fnd, List.take_length]
  refine (((hES.filter _)).map _).trans ?_
  rw [List.filter_filter, rp, List.filter_map, List.map_map]
  refine List.Perm.of_eq ?_
  refine congrArg (List.map _) (List.filter_congr ?_)
  intro e he
  simp only [Function.comp_apply]
  congr 1
  refine decide_eq_decide.2 ?_
  have h1 := hq.yes hb e.row (ok.wid e he)
  rw [← h1]
  exact ⟨fun h => keyB_inj h, fun h => congrArg keyB h⟩
theorem sel_none {g : RelG} (ok : RelOK g) {parts : Int} {cols key ls ks : List Int} {b : Bool} (hq : QR g.width cols key ls ks b) (hb : b = false) : selR (rp g) parts cols key = [] := by
  have h1 : ((rp g).filter fun p => inP parts p.2 && decide (fitsL p.1 cols key)) = [] := by
    rw [List.filter_eq_nil_iff]
    intro p hp
    obtain ⟨e, he, rfl⟩ := List.mem_map.1 hp
    have := hq.no hb e.row (ok.wid e he)
    simp [this]
  rw [selR, h1, sortR]
  simp
abbrev EIr (a : List Int) (d : Option Addr × Nat) : List Hw.Item := [row 3 1 d.1 a.length d.2 (ints a)]
abbrev argr (a : List Int) (d : Option Addr × Nat) : Value := .slice d.1 a.length d.2

set_option maxRecDepth 10000 in
theorem find1_calls (F : FB) (g0 : RelG) (ok : RelOK g0) (cols key : List Int) (hq : QR g0.width cols key F.ls F.ks F.b) (hr : F.r = g0.r) (hcol : F.col ∈ g0.cols)
    {β : Type} (CC : β → List Hw.Item) (J Jx : Nat → RelG → β → Prop) (y0 : β) (l : Nat) (w1 : World) (hA : Holds ((relA g0 ++ boxA F) ++ CC y0) w1)
    (h0 : ∀ g1, RelOK g1 ∧ RelLe g0 g1 ∧ g1.es = g0.es → J 0 g1 y0) (hm : ∀ k g1 y, J k g1 y → RelLe g0 g1)
    (hy : ∀ k g1 y d W a, (selR (rp g0) F.parts cols key)[k]? = some a → J k g1 y → Turns ((relA g0 ++ boxA F) ++ CC y0) (EIr a d ++ ((relA g1 ++ boxA F) ++ CC y)) w1 W →
      Hw.Yields Tryz.prog l [argr a d] W fun b W' => ∃ g2 y2, (b = true → J (k + 1) g2 y2) ∧ (b = false → Jx (k + 1) g2 y2) ∧ Turns (EIr a d ++ ((relA g1 ++ boxA F) ++ CC y)) ((relA g2 ++ boxA F) ++ CC y2) W W') :
  Calls Tryz.prog 94 #[.func (.yield l) #[] #[], ptr F.bO, ptr F.bR, ptr F.bL, ptr F.bK, ptr F.bP] w1 fun en w' => en = .returned (.tuple #[]) ∧ ∃ g2 y2 k, ((k = (selR (rp g0) F.parts cols key).length ∧ J k g2 y2) ∨ (0 < k ∧ k ≤ (selR (rp g0) F.parts cols key).length ∧ Jx k g2 y2)) ∧ Turns ((relA g0 ++ boxA F) ++ CC y0) ((relA g2 ++ boxA F) ++ CC y2) w1 w' := by
  refine enterA hA (args := [.func (.yield l) #[] #[], ptr F.bO, ptr F.bR, ptr F.bL, ptr F.bK, ptr F.bP]) Tryz.func94 rfl Tryz.ntmps94 rfl rfl ?_
  refine WC.seq ?_
  refine WC.seq ?_
  refine WC.weak (S' := Sat w1 (DD ((relA g0 ++ boxA F) ++ CC y0)) (fun b => b < w1.heap.size ∧ ¬ DD ((relA g0 ++ boxA F) ++ CC y0) b) w1 ((relA g0 ++ (boxA F ++ CC y0)))) (fun w' hw => hw.perm (List.Perm.of_eq (List.append_assoc _ _ _).symm)) ?_
  refine WC.region ?_
  refine WL.val (OV.load1 (v := .bool F.b) rfl T.u4 rfl (fun _ hw => cell_own hw (List.mem_append_right _ (List.mem_append_left _ (.head _))) rfl)) rfl ?_
  refine WL.val (OV.not rfl) rfl ?_
  refine WL.nil ?_
  refine WX.next ?_
  refine WC.cond rfl (fun c13 => ?_) (fun c13 => ?_)
  · try simp only [decide_eq_true_eq, decide_eq_false_iff_not, Bool.not_eq_true', Bool.not_eq_false'] at c13
    refine WC.ret ?_
    refine WX.then_ret ?_
    exact WX.ret0 rfl rfl (fun w' hw => ⟨rfl, g0, y0, 0, .inl ⟨by rw [sel_none ok hq c13]; rfl, h0 g0 ⟨ok, RelLe.refl g0, rfl⟩⟩, by simpa only [List.append_assoc] using hw.turned⟩)
  · try simp only [decide_eq_true_eq, decide_eq_false_iff_not, Bool.not_eq_true', Bool.not_eq_false'] at c13
    refine WC.skip ?_
    refine WX.next ?_
    refine WC.seq ?_
    refine WC.region ?_
    refine WL.val (OV.assign rfl) rfl ?_
    refine WL.nil ?_
    refine WX.next ?_
    refine WC.seq ?_
    refine WC.seq ?_
    have hFl : F.ls.length ≤ 1099511627776 := col_len ok hcol
    have hkl := hq.len
    refine WC.drawn (fun w' => w'.heap[F.bR]? = some (.cells [ptr F.r].toArray 85 (0, 0)) ∧ w'.heap[F.bL]? = some (.cells [.slice F.la F.ls.length F.lc].toArray 74 (0, 0)) ∧ w'.heap[F.bK]? = some (.cells [.slice F.ka F.ks.length F.kc].toArray 74 (0, 0))) [] (by kernel_rfl) (by kernel_rfl) (m := 11) rfl ?_
    refine WH.take 0 rfl (by kernel_rfl) (by kernel_rfl) (by kernel_rfl) (by kernel_rfl) (fun _ hw => ⟨hw.it _ (List.mem_append_right _ (List.mem_append_left _ (.tail _ (.head _)))), hw.it _ (List.mem_append_right _ (List.mem_append_left _ (.tail _ (.tail _ (.head _))))), hw.it _ (List.mem_append_right _ (List.mem_append_left _ (.tail _ (.tail _ (.tail _ (.head _))))))⟩) ((OV.load1 (v := ptr F.r) rfl T.u85 rfl (fun _ hw => (cell_at hw.1 (o := 0) rfl).1)).cast (congrArg ptr hr)) rfl (listed' := [true, false, false, false, false, false, false, false, false, false, false]) rfl ?_
    refine WH.take 1 rfl (by kernel_rfl) (by kernel_rfl) (by kernel_rfl) (by kernel_rfl) (fun _ hw => ⟨hw.it _ (List.mem_append_right _ (List.mem_append_left _ (.tail _ (.head _)))), hw.it _ (List.mem_append_right _ (List.mem_append_left _ (.tail _ (.tail _ (.head _))))), hw.it _ (List.mem_append_right _ (List.mem_append_left _ (.tail _ (.tail _ (.tail _ (.head _))))))⟩) (OV.load1 (v := .slice F.la F.ls.length F.lc) rfl T.u74 rfl (fun _ hw => (cell_at hw.2.1 (o := 0) rfl).1)) rfl (listed' := [true, true, false, false, false, false, false, false, false, false, false]) rfl ?_
    refine WH.take 6 rfl (by kernel_rfl) (by kernel_rfl) (by kernel_rfl) (by kernel_rfl) (fun _ hw => ⟨hw.it _ (List.mem_append_right _ (List.mem_append_left _ (.tail _ (.head _)))), hw.it _ (List.mem_append_right _ (List.mem_append_left _ (.tail _ (.tail _ (.head _))))), hw.it _ (List.mem_append_right _ (List.mem_append_left _ (.tail _ (.tail _ (.tail _ (.head _))))))⟩) (OV.load1 (v := .slice F.ka F.ks.length F.kc) rfl T.u74 rfl (fun _ hw => (cell_at hw.2.2 (o := 0) rfl).1)) rfl (listed' := [true, true, false, false, false, false, true, false, false, false, false]) rfl ?_
    refine WH.free 10 rfl (by kernel_rfl) (by kernel_rfl) (by kernel_rfl) rfl (fun _ => (fun _ hw => ⟨hw.it _ (List.mem_append_right _ (List.mem_append_left _ (.tail _ (.head _)))), hw.it _ (List.mem_append_right _ (List.mem_append_left _ (.tail _ (.tail _ (.head _))))), hw.it _ (List.mem_append_right _ (List.mem_append_left _ (.tail _ (.tail _ (.tail _ (.head _))))))⟩)) (OV.move rfl) rfl (listed' := [true, true, false, false, false, false, true, false, false, false, true]) rfl ?_
    refine WH.only 2 rfl (by kernel_rfl) (listed' := [true, true, true, false, false, false, true, false, false, false, true]) rfl (fl' := false) rfl ?_
    refine WL.callTA (ι := RelG × Idx) (vv := fun q => ptr q.2.p) (pp := fun q => q.2 ∈ q.1.ix ∧ q.2.col.l = F.ls ∧ RelOK q.1 ∧ RelLe g0 q.1 ∧ q.1.es = g0.es ∧ q.1.cols = g0.cols) (relA g0) (AA := fun q => relA q.1) rfl (by kernel_rfl) rfl rfl (fun w' hw' hH => (index_calls g0 ok F.col hcol w' hH).mono (fun en w'' ⟨g', x, h1, h2, h3, h4, h5, h6, h7, h8⟩ => ⟨(g', x), h1, ⟨h2, h3, h4, h5, h6, h7⟩, h8⟩)) ?_
    rintro ⟨g1, x⟩ hpp
    obtain ⟨hx, hxl, ok1, le1, hes, hcs⟩ : x ∈ g1.ix ∧ x.col.l = F.ls ∧ RelOK g1 ∧ RelLe g0 g1 ∧ g1.es = g0.es ∧ g1.cols = g0.cols := hpp
    refine WL.nil ?_
    refine WX.contD (by kernel_rfl) (fun _ => (fun _ hw => ⟨hw.it _ (List.mem_append_right _ (List.mem_append_left _ (.tail _ (.head _)))), hw.it _ (List.mem_append_right _ (List.mem_append_left _ (.tail _ (.tail _ (.head _))))), hw.it _ (List.mem_append_right _ (List.mem_append_left _ (.tail _ (.tail _ (.tail _ (.head _))))))⟩)) ?_
    refine WH.more (C' := fun w' => (w'.heap[F.bR]? = some (.cells [ptr F.r].toArray 85 (0, 0)) ∧ w'.heap[F.bL]? = some (.cells [.slice F.la F.ls.length F.lc].toArray 74 (0, 0)) ∧ w'.heap[F.bK]? = some (.cells [.slice F.ka F.ks.length F.kc].toArray 74 (0, 0))) ∧ (w'.heap[x.p]? = some (.cells (idxC x).toArray 166 (0, 0)) ∧ w'.heap[x.mb]? = some (mapK Value.string (grpM x.gs)))) (fun _ h => h.1) ?_
    refine WH.free 3 rfl (by kernel_rfl) (by kernel_rfl) (by kernel_rfl) rfl (fun _ => (fun _ hw => ⟨⟨hw.it _ (List.mem_append_right _ (List.mem_append_left _ (.tail _ (.head _)))), hw.it _ (List.mem_append_right _ (List.mem_append_left _ (.tail _ (.tail _ (.head _))))), hw.it _ (List.mem_append_right _ (List.mem_append_left _ (.tail _ (.tail _ (.tail _ (.head _))))))⟩, ⟨hw.it _ (List.mem_append_left _ (.tail _ (.tail _ (.tail _ (.tail _ (.tail _ (mem_idx hx (.head _)))))))), hw.it _ (List.mem_append_left _ (.tail _ (.tail _ (.tail _ (.tail _ (.tail _ (mem_idx hx (.tail _ (.head _)))))))))⟩⟩)) (OV.nilCheck rfl) rfl (listed' := [true, true, true, true, false, false, true, false, false, false, true]) rfl ?_
    first
    | (refine WH.free 4 rfl (by kernel_rfl) (by kernel_rfl) (by kernel_rfl) rfl (fun _ => (fun _ hw => ⟨⟨hw.it _ (List.mem_append_right _ (List.mem_append_left _ (.tail _ (.head _)))), hw.it _ (List.mem_append_right _ (List.mem_append_left _ (.tail _ (.tail _ (.head _))))), hw.it _ (List.mem_append_right _ (List.mem_append_left _ (.tail _ (.tail _ (.tail _ (.head _))))))⟩, ⟨hw.it _ (List.mem_append_left _ (.tail _ (.tail _ (.tail _ (.tail _ (.tail _ (mem_idx hx (.head _)))))))), hw.it _ (List.mem_append_left _ (.tail _ (.tail _ (.tail _ (.tail _ (.tail _ (mem_idx hx (.tail _ (.head _)))))))))⟩⟩)) (OV.fieldAddr0 (off := 1) rfl T.u166 rfl) rfl (listed' := [true, true, true, true, true, false, true, false, false, false, true]) rfl ?_)
    | (refine WH.free 4 rfl (by kernel_rfl) (by kernel_rfl) (by kernel_rfl) rfl (fun _ => (fun _ hw => ⟨⟨hw.it _ (List.mem_append_right _ (List.mem_append_left _ (.tail _ (.head _)))), hw.it _ (List.mem_append_right _ (List.mem_append_left _ (.tail _ (.tail _ (.head _))))), hw.it _ (List.mem_append_right _ (List.mem_append_left _ (.tail _ (.tail _ (.tail _ (.head _))))))⟩, ⟨hw.it _ (List.mem_append_left _ (.tail _ (.tail _ (.tail _ (.tail _ (.tail _ (mem_idx hx (.head _)))))))), hw.it _ (List.mem_append_left _ (.tail _ (.tail _ (.tail _ (.tail _ (.tail _ (mem_idx hx (.tail _ (.head _)))))))))⟩⟩)) (OV.fieldAddr (off := 1) rfl T.u166 rfl) rfl (listed' := [true, true, true, true, true, false, true, false, false, false, true]) rfl ?_)
    refine WH.take 5 rfl (by kernel_rfl) (by kernel_rfl) (by kernel_rfl) (by kernel_rfl) (fun _ hw => ⟨⟨hw.it _ (List.mem_append_right _ (List.mem_append_left _ (.tail _ (.head _)))), hw.it _ (List.mem_append_right _ (List.mem_append_left _ (.tail _ (.tail _ (.head _))))), hw.it _ (List.mem_append_right _ (List.mem_append_left _ (.tail _ (.tail _ (.tail _ (.head _))))))⟩, ⟨hw.it _ (List.mem_append_left _ (.tail _ (.tail _ (.tail _ (.tail _ (.tail _ (mem_idx hx (.head _)))))))), hw.it _ (List.mem_append_left _ (.tail _ (.tail _ (.tail _ (.tail _ (.tail _ (mem_idx hx (.tail _ (.head _)))))))))⟩⟩) (OV.load1 (v := .map (some x.mb)) rfl T.u164 rfl (fun _ hw => (cell_at hw.2.1 (o := 1) rfl).1)) rfl (listed' := [true, true, true, true, true, true, true, false, false, false, true]) rfl ?_
    refine WH.only 7 rfl (by kernel_rfl) (listed' := [true, true, true, true, true, true, true, true, false, false, true]) rfl (fl' := false) rfl ?_
    refine WL.call0 (by kernel_rfl) rfl rfl (fun w' hw => keyOf_calls F.ks F.ka F.ks.length F.kc hq.i64.2 (by omega) w' (RI.of_row hw (List.mem_append_right _ (List.mem_append_left _ (.tail _ (.tail _ (.tail _ (.tail _ (.tail _ (.head _)))))))))) ?_
    refine WL.nil ?_
    refine WX.contD (by kernel_rfl) (fun _ => (fun _ hw => ⟨⟨hw.it _ (List.mem_append_right _ (List.mem_append_left _ (.tail _ (.head _)))), hw.it _ (List.mem_append_right _ (List.mem_append_left _ (.tail _ (.tail _ (.head _))))), hw.it _ (List.mem_append_right _ (List.mem_append_left _ (.tail _ (.tail _ (.tail _ (.head _))))))⟩, ⟨hw.it _ (List.mem_append_left _ (.tail _ (.tail _ (.tail _ (.tail _ (.tail _ (mem_idx hx (.head _)))))))), hw.it _ (List.mem_append_left _ (.tail _ (.tail _ (.tail _ (.tail _ (.tail _ (mem_idx hx (.tail _ (.head _)))))))))⟩⟩)) ?_
    obtain ⟨a0, c0, hgot, hgm⟩ := grp_mem x.gs (keyB F.ks)
    refine WH.take 8 rfl (by kernel_rfl) (by kernel_rfl) (by kernel_rfl) (by kernel_rfl) (fun _ hw => ⟨⟨hw.it _ (List.mem_append_right _ (List.mem_append_left _ (.tail _ (.head _)))), hw.it _ (List.mem_append_right _ (List.mem_append_left _ (.tail _ (.tail _ (.head _))))), hw.it _ (List.mem_append_right _ (List.mem_append_left _ (.tail _ (.tail _ (.tail _ (.head _))))))⟩, ⟨hw.it _ (List.mem_append_left _ (.tail _ (.tail _ (.tail _ (.tail _ (.tail _ (mem_idx hx (.head _)))))))), hw.it _ (List.mem_append_left _ (.tail _ (.tail _ (.tail _ (.tail _ (.tail _ (mem_idx hx (.tail _ (.head _)))))))))⟩⟩) ((OV.lookup (KeyLaw.str T.u9) T.u164 (by kernel_rfl) rfl rfl (fun _ hw => hw.2.2)).cast hgot) rfl (listed' := [true, true, true, true, true, true, true, true, true, false, true]) rfl ?_
    first
    | (refine WH.free 9 rfl (by kernel_rfl) (by kernel_rfl) (by kernel_rfl) rfl (fun _ => (fun _ hw => ⟨⟨hw.it _ (List.mem_append_right _ (List.mem_append_left _ (.tail _ (.head _)))), hw.it _ (List.mem_append_right _ (List.mem_append_left _ (.tail _ (.tail _ (.head _))))), hw.it _ (List.mem_append_right _ (List.mem_append_left _ (.tail _ (.tail _ (.tail _ (.head _))))))⟩, ⟨hw.it _ (List.mem_append_left _ (.tail _ (.tail _ (.tail _ (.tail _ (.tail _ (mem_idx hx (.head _)))))))), hw.it _ (List.mem_append_left _ (.tail _ (.tail _ (.tail _ (.tail _ (.tail _ (mem_idx hx (.tail _ (.head _)))))))))⟩⟩)) (OV.lenSlice rfl T.u131) rfl (listed' := [true, true, true, true, true, true, true, true, true, true, true]) rfl ?_)
    | (refine WH.free 9 rfl (by kernel_rfl) (by kernel_rfl) (by kernel_rfl) rfl (fun _ => (fun _ hw => ⟨⟨hw.it _ (List.mem_append_right _ (List.mem_append_left _ (.tail _ (.head _)))), hw.it _ (List.mem_append_right _ (List.mem_append_left _ (.tail _ (.tail _ (.head _))))), hw.it _ (List.mem_append_right _ (List.mem_append_left _ (.tail _ (.tail _ (.tail _ (.head _))))))⟩, ⟨hw.it _ (List.mem_append_left _ (.tail _ (.tail _ (.tail _ (.tail _ (.tail _ (mem_idx hx (.head _)))))))), hw.it _ (List.mem_append_left _ (.tail _ (.tail _ (.tail _ (.tail _ (.tail _ (mem_idx hx (.tail _ (.head _)))))))))⟩⟩)) (OV.lenStr rfl T.u131) rfl (listed' := [true, true, true, true, true, true, true, true, true, true, true]) rfl ?_)
    refine WH.done (by kernel_rfl) ?_
    refine WX.next ?_
    refine WC.block ?_
    obtain ⟨ES, hES, hEp⟩ := perm_lift Ent.p ((ok1.ix x hx).ps (keyB F.ks)) _ rfl
    have hK : (psOf x.gs (keyB F.ks)).length = ES.length := by rw [← hEp, List.length_map]
    have hEm : ∀ e ∈ ES, e ∈ g1.es := fun e he => (List.mem_filter.1 (hES.mem_iff.1 he)).1
    have hEl : ES.length ≤ 1099511627776 := by have h1 := hES.length_eq; have h2 := List.length_filter_le (fun e => decide (ixKey x.col e = keyB F.ks)) g1.es; have := ok1.el; omega
    refine WC.weak (S' := fun w' => (0 < (psOf x.gs (keyB F.ks)).length → ∃ q, a0 = some ⟨q, 0, none⟩) ∧ Sat w1 (DD ((relA g0 ++ boxA F) ++ CC y0)) (fun b => b < w1.heap.size ∧ ¬ DD ((relA g0 ++ boxA F) ++ CC y0) b) w1 ((relA g1 ++ (boxA F ++ CC y0))) w') (fun w' hw => ⟨fun hp => row_addr (hw.it _ (List.mem_append_left _ (.tail _ (.tail _ (.tail _ (.tail _ (.tail _ (mem_idx hx (.tail _ (.tail _ (hgm hp))))))))))) hp, hw⟩) ?_
    refine WC.pure (fun ha0 => ?_)
    refine WC.loop3 (fun (i : Nat) (fa : Option Addr) (fc : Nat) => [(0, .func (.yield l) #[] #[]), (5, ptr F.bP), (7, .slice fa (fnd F.parts ES i).length fc), (22, .slice a0 (psOf x.gs (keyB F.ks)).length c0), (23, .int .i64 ((psOf x.gs (keyB F.ks)).length : Int)), (24, .int .i64 (i : Int))])
        (fun i fa fc w' => i ≤ ES.length ∧ Sat w1 (DD ((relA g0 ++ boxA F) ++ CC y0)) (fun b => b < w1.heap.size ∧ ¬ DD ((relA g0 ++ boxA F) ++ CC y0) b) w1 (row 74 1 fa (fnd F.parts ES i).length fc (encs (fnd F.parts ES i)) :: (relA g1 ++ (boxA F ++ CC y0))) w')
        (fun i _ _ => ES.length - i) 0 none 0 ⟨rfl, rfl, rfl, rfl, rfl, rfl, trivial⟩ (fun w' hw => ⟨by omega, hw.rowNil 74 1⟩) ?_
    intro i fa fc
    refine WC.pure (fun hi => ?_)
    refine WC.seq ?_
    refine WC.region ?_
    refine WL.val (OV.lss rfl rfl) rfl ?_
    refine WL.nil ?_
    refine WX.next ?_
    refine WC.seq ?_
    refine WC.cond rfl (fun c25 => ?_) (fun c25 => ?_)
    · try simp only [decide_eq_true_eq, decide_eq_false_iff_not, Bool.not_eq_true', Bool.not_eq_false'] at c25
      refine WC.skip ?_
      refine WX.next ?_
      refine WC.seq ?_
      refine WC.block ?_
      refine WC.seq ?_
      refine WC.region ?_
      have hil : i < ES.length := by omega
      obtain ⟨e, hei⟩ : ∃ e, ES[i]? = some e := ⟨_, List.getElem?_eq_getElem hil⟩
      have he : e ∈ g1.es := hEm e (List.mem_of_getElem? hei)
      have hpi : (psOf x.gs (keyB F.ks))[i]? = some e.p := by rw [← hEp]; simp [hei]
      have hKp : 0 < (psOf x.gs (keyB F.ks)).length := by omega
      obtain ⟨q0, rfl⟩ := ha0 hKp
      have hfi := fnd_le F.parts ES i
      have hst := fnd_succ (parts := F.parts) hei
      refine WL.val (OV.indexSliceA (i := i) rfl rfl T.u131 T.z143 (by omega)) rfl ?_
      refine WL.val (OV.load1 (v := ptr e.p) rfl T.u143 rfl (fun _ hw => row_cells hw ((.tail _ (List.mem_append_left _ (.tail _ (.tail _ (.tail _ (.tail _ (.tail _ (mem_idx hx (.tail _ (.tail _ (hgm hKp)))))))))))) i _ (ptrs_get hpi))) rfl ?_
      refine WL.val (OV.assign rfl) rfl ?_
      refine WL.nil ?_
      refine WX.next ?_
      refine WC.seq ?_
      refine WC.quietS (by kernel_rfl) (by kernel_rfl) (m := 7) rfl ?_
      refine WH.take 0 rfl (by kernel_rfl) (by kernel_rfl) (by kernel_rfl) (by kernel_rfl) (fun _ h => h) (OV.load1 (v := .int .i64 F.parts) rfl T.u3 rfl (fun _ hw => cell_own hw (.tail _ (List.mem_append_right _ (List.mem_append_left _ (.tail _ (.tail _ (.tail _ (.tail _ (.head _)))))))) rfl)) rfl (listed' := [true, false, false, false, false, false, false]) rfl ?_
      refine WH.free 1 rfl (by kernel_rfl) (by kernel_rfl) (by kernel_rfl) rfl (fun _ => (fun _ h => h)) (OV.move rfl) rfl (listed' := [true, true, false, false, false, false, false]) rfl ?_
      refine WH.free 2 rfl (by kernel_rfl) (by kernel_rfl) (by kernel_rfl) rfl (fun _ => (fun _ h => h)) (OV.nilCheck rfl) rfl (listed' := [true, true, true, false, false, false, false]) rfl ?_
      first
      | (refine WH.free 3 rfl (by kernel_rfl) (by kernel_rfl) (by kernel_rfl) rfl (fun _ => (fun _ h => h)) (OV.fieldAddr0 (off := 1) rfl T.u146 rfl) rfl (listed' := [true, true, true, true, false, false, false]) rfl ?_)
      | (refine WH.free 3 rfl (by kernel_rfl) (by kernel_rfl) (by kernel_rfl) rfl (fun _ => (fun _ h => h)) (OV.fieldAddr (off := 1) rfl T.u146 rfl) rfl (listed' := [true, true, true, true, false, false, false]) rfl ?_)
      refine WH.take 4 rfl (by kernel_rfl) (by kernel_rfl) (by kernel_rfl) (by kernel_rfl) (fun _ h => h) (OV.load1 (v := .int .i64 (e.part : Int)) rfl T.u3 rfl (fun _ hw => cell_own hw (.tail _ (List.mem_append_left _ (.tail _ (.tail _ (.tail _ (.tail _ (.tail _ (own_mem_ent he)))))))) rfl)) rfl (listed' := [true, true, true, true, true, false, false]) rfl ?_
      first
      | (refine WH.free 5 rfl (by kernel_rfl) (by kernel_rfl) (by kernel_rfl) rfl (fun _ => (fun _ h => h)) (OV.andW rfl rfl) rfl (listed' := [true, true, true, true, true, true, false]) rfl ?_)
      | (refine WH.free 5 rfl (by kernel_rfl) (by kernel_rfl) (by kernel_rfl) rfl (fun _ => (fun _ h => h)) (OV.andB rfl rfl) rfl (listed' := [true, true, true, true, true, true, false]) rfl ?_)
      | (refine WH.free 5 rfl (by kernel_rfl) (by kernel_rfl) (by kernel_rfl) rfl (fun _ => (fun _ h => h)) (OV.and rfl rfl) rfl (listed' := [true, true, true, true, true, true, false]) rfl ?_)
      refine WH.free 6 rfl (by kernel_rfl) (by kernel_rfl) (by kernel_rfl) rfl (fun _ => (fun _ h => h)) (OV.neq rfl rfl) rfl (listed' := [true, true, true, true, true, true, true]) rfl ?_
      refine WH.done (by kernel_rfl) ?_
      refine WX.next ?_
      refine WC.cond rfl (fun c34 => ?_) (fun c34 => ?_)
      · try simp only [decide_eq_true_eq, decide_eq_false_iff_not, Bool.not_eq_true', Bool.not_eq_false'] at c34
        refine WC.region ?_
        refine WL.val (OV.move rfl) rfl ?_
        refine WL.val (OV.move rfl) rfl ?_
        refine WL.val (OV.nilCheck rfl) rfl ?_
        first
        | (refine WL.val (OV.fieldAddr0 (off := 0) rfl T.u146 rfl) rfl ?_)
        | (refine WL.val (OV.fieldAddr (off := 0) rfl T.u146 rfl) rfl ?_)
        refine WL.val (OV.load1 (v := encE e) rfl T.u74 rfl (fun _ hw => cell_own hw (.tail _ (List.mem_append_left _ (.tail _ (.tail _ (.tail _ (.tail _ (.tail _ (own_mem_ent he)))))))) rfl)) rfl ?_
        refine WL.buildSlice1 T.u86 T.z74 T.zr74 rfl rfl rfl ?_
        intro b40
        refine WL.focus perm1 (WL.append (news := encs [e]) rfl rfl T.apR (fun _ _ => own_src (.tail _ (.head _)) rfl) (encs_one _) ⟨by have := ok1.el; omega, by have := ok1.el; unfold maxLen; omega⟩ rfl ?_)
        intro a41 c41
        refine WL.val (OV.assign rfl) rfl ?_
        refine WL.nil ?_
        refine WX.block_normal ?_
        refine WX.next ?_
        refine WC.region ?_
        first
        | (refine WL.val (OV.addI rfl rfl (by omega)) rfl ?_)
        | (refine WL.val (OV.add rfl rfl) rfl ?_)
        refine WL.val (OV.move rfl) rfl ?_
        refine WL.nil ?_
        rw [if_pos (by simpa [inP] using c34)] at hst
        have el : (fnd F.parts ES i).length + 1 = (fnd F.parts ES (i + 1)).length := by rw [hst, List.length_append]; rfl
        have en : encs (fnd F.parts ES i) ++ encs [e] = encs (fnd F.parts ES (i + 1)) := by rw [hst]; simp [encs]
        exact WX.round3 (i + 1) a41 c41 ⟨rfl, rfl, by rw [← el]; rfl, rfl, rfl, rfl, trivial⟩ (fun w' hw => ⟨by omega, by
          rw [← el, ← en]
          exact (hw.perm perm1).drop⟩) (by show ES.length - (i + 1) < ES.length - i; omega)
      · try simp only [decide_eq_true_eq, decide_eq_false_iff_not, Bool.not_eq_true', Bool.not_eq_false'] at c34
        refine WC.skip ?_
        refine WX.block_normal ?_
        refine WX.next ?_
        refine WC.region ?_
        first
        | (refine WL.val (OV.addI rfl rfl (by omega)) rfl ?_)
        | (refine WL.val (OV.add rfl rfl) rfl ?_)
        refine WL.val (OV.move rfl) rfl ?_
        refine WL.nil ?_
        rw [if_neg (by simpa [inP] using c34), List.append_nil] at hst
        exact WX.round3 (i + 1) fa fc ⟨rfl, rfl, by rw [hst]; rfl, rfl, rfl, rfl, trivial⟩ (fun w' hw => ⟨by omega, by
          rw [hst]
          exact hw⟩) (by show ES.length - (i + 1) < ES.length - i; omega)
    · try simp only [decide_eq_true_eq, decide_eq_false_iff_not, Bool.not_eq_true', Bool.not_eq_false'] at c25
      refine WC.exit ?_
      refine WX.then_exit ?_
      refine WX.then_exit ?_
      refine WX.block_hit ?_
      refine WX.next ?_
      refine WC.seq ?_
      have hi' : i = ES.length := by omega
      subst hi'
      have hFL : ∀ e ∈ fnd F.parts ES ES.length, e ∈ g1.es := fun e he => hEm e (List.mem_of_mem_take (List.mem_filter.1 he).1)
      obtain ⟨xs, hxs⟩ : ∃ xs : List {e // e ∈ g1.es}, xs.map (·.1) = fnd F.parts ES ES.length := ⟨_, List.attachWith_map_subtype_val hFL⟩
      have hxl2 : xs.length ≤ ES.length := by have := fnd_le F.parts ES ES.length; rw [← hxs, List.length_map] at this; exact this
      have hen : encs (xs.map (·.1)) = xs.map fun z => encE z.1 := by simp [encs]
      rw [← hxs, List.length_map, hen]
      refine WC.region ?_
      refine WL.val (OV.move rfl) rfl ?_
      refine WL.callT1 (ι := List {e // e ∈ g1.es}) (vv := fun _ => .tuple #[]) (pp := fun ys => ys.Perm xs ∧ ys.Pairwise (fun x y => Go.Proofs.ltOf (fun a b : {e // e ∈ g1.es} => cmpL a.1.row b.1.row) y x = false)) (jj := fun ys => row 74 1 fa ys.length fc (ys.map fun z => encE z.1)) (by kernel_rfl) rfl rfl (fun w' hw' hH => (sortFunc_calls Tryz.sortF (fun z : {e // e ∈ g1.es} => encE z.1) (fun _ => rfl) (fun a b => cmpL a.1.row b.1.row) (cmpL_swo _) 98 (by kernel_rfl) fa xs w' hH (fun q hq w3 hfr a b => ?_) (by have := ok1.el; omega)).mono (fun en w'' ⟨h1, ys, h2, h3, h4⟩ => ⟨ys, h1, ⟨h2, h3⟩, h4⟩)) ?_
      · have key : ∀ c : {e // e ∈ g1.es}, RI w3 c.1.a c.1.row.length c.1.row := fun c => by
          have hmem : row 3 1 c.1.a c.1.row.length c.1.c (ints c.1.row) ∈ (relA g1 ++ (boxA F ++ CC y0)) := (List.mem_append_left _ (.tail _ (.tail _ (.tail _ (.tail _ (.tail _ (row_mem_ent c.2)))))))
          refine (RI.of_row hw' (.tail _ hmem)).fr (fun b hb _ hbq => ?_) hfr
          exact hw'.apart hmem q.block ⟨q, hq, rfl⟩ ⟨b, hb, hbq⟩
        have hlen : ∀ c : {e // e ∈ g1.es}, c.1.row.length ≤ 9223372036854775807 := fun c => by have := ok1.rl c.1 c.2; omega
        exact compare_pure a.1.row b.1.row a.1.a b.1.a a.1.row.length a.1.c b.1.row.length b.1.c (hlen a) (hlen b) w3 (key a) (key b)
      rintro ys ⟨hp, hs⟩
      rw [← hp.length_eq]
      refine WL.nil ?_
      refine WX.next ?_
      refine WC.seq ?_
      refine WC.region ?_
      refine WL.val (OV.move rfl) rfl ?_
      first
      | (refine WL.val (OV.lenSlice rfl T.u86) rfl ?_)
      | (refine WL.val (OV.lenStr rfl T.u86) rfl ?_)
      refine WL.val (OV.move rfl) rfl ?_
      refine WL.nil ?_
      refine WX.next ?_
      refine WC.block ?_
      have hsel : ys.map (fun z => z.1.row) = selR (rp g0) F.parts cols key := by
        have hrp : rp g0 = rp g1 := by unfold rp; rw [hes]
        rw [hrp]
        refine sel_eq ok1 (x := x) (ks := F.ks) (b := F.b) (by rw [hxl, le1.width]; exact hq) c13 hES ?_ ?_
        · rw [← hxs, List.map_map]
          exact hp.map _
        · rw [List.pairwise_map]
          exact hs.imp (fun h => by simpa [Go.Proofs.ltOf] using h)
      have hsl : (selR (rp g0) F.parts cols key).length = ys.length := by rw [← hsel, List.length_map]
      have hyl : ys.length ≤ ES.length := by rw [hp.length_eq]; exact hxl2
      refine WC.weak (S' := fun w' => (0 < ys.length → ∃ q, fa = some ⟨q, 0, none⟩) ∧ Sat w1 (DD ((relA g0 ++ boxA F) ++ CC y0)) (fun b => b < w1.heap.size ∧ ¬ DD ((relA g0 ++ boxA F) ++ CC y0) b) w1 (row 74 1 fa ys.length fc (ys.map fun z => encE z.1) :: (relA g1 ++ (boxA F ++ CC y0))) w') (fun w' hw => ⟨fun hp => row_addr (hw.it _ (.head _)) hp, hw⟩) ?_
      refine WC.pure (fun hfa => ?_)
      refine WC.loop3 (fun (j : Nat) (gk : RelG) (y : β) => [(0, .func (.yield l) #[] #[]), (45, .slice fa ys.length fc), (46, .int .i64 (ys.length : Int)), (47, .int .i64 (j : Int))])
          (fun j gk y w' => (j ≤ ys.length ∧ J j gk y) ∧ Sat w1 (DD ((relA g0 ++ boxA F) ++ CC y0)) (fun b => b < w1.heap.size ∧ ¬ DD ((relA g0 ++ boxA F) ++ CC y0) b) w1 (row 74 1 fa ys.length fc (ys.map fun z => encE z.1) :: (relA gk ++ (boxA F ++ CC y))) w')
          (fun j _ _ => ys.length - j) 0 g1 y0 ⟨rfl, rfl, rfl, rfl, trivial⟩ (fun w' hw => ⟨⟨by omega, h0 g1 ⟨ok1, le1, hes⟩⟩, hw⟩) ?_
      intro j gk y
      refine WC.pure (fun hj => ?_)
      refine WC.seq ?_
      refine WC.region ?_
      refine WL.val (OV.lss rfl rfl) rfl ?_
      refine WL.nil ?_
      refine WX.next ?_
      refine WC.seq ?_
      refine WC.cond rfl (fun c48 => ?_) (fun c48 => ?_)
      · try simp only [decide_eq_true_eq, decide_eq_false_iff_not, Bool.not_eq_true', Bool.not_eq_false'] at c48
        refine WC.skip ?_
        refine WX.next ?_
        refine WC.seq ?_
        refine WC.block ?_
        refine WC.seq ?_
        refine WC.region ?_
        have hjl : j < ys.length := by omega
        obtain ⟨z, hz⟩ : ∃ z, ys[j]? = some z := ⟨_, List.getElem?_eq_getElem hjl⟩
        obtain ⟨q5, rfl⟩ := hfa (by omega)
        obtain ⟨hjj, hJ⟩ := hj
        refine WL.val (OV.indexSliceA (i := j) rfl rfl T.u86 T.z74 (by omega)) rfl ?_
        refine WL.val (OV.load1 (v := encE z.1) rfl T.u74 rfl (fun _ hw => row_cells hw (.head _) j _ (by simp [hz]))) rfl ?_
        refine WL.val (OV.assign rfl) rfl ?_
        refine WL.nil ?_
        refine WX.next ?_
        refine WC.seq ?_
        refine WC.region ?_
        refine WL.val (OV.move rfl) rfl ?_
        refine WL.val (OV.move rfl) rfl ?_
        obtain ⟨e', he', hp', ha', hc', hr'⟩ := (hm j gk y hJ).es z.1 (hes ▸ z.2)
        have hzl : z.1.row.length ≤ 1099511627776 := ok1.rl z.1 z.2
        refine WL.callF (ι := Option Addr × Nat) (vv := fun q => .slice q.1 z.1.row.length q.2) (pp := fun _ => True) (it := fun q => row 3 1 q.1 z.1.row.length q.2 (ints z.1.row)) (by kernel_rfl) rfl rfl (fun w' hw => (clone_calls z.1.row z.1.a z.1.row.length z.1.c hzl w' (by rw [← ha', ← hr']; exact RI.of_row hw (.tail _ (List.mem_append_left _ (.tail _ (.tail _ (.tail _ (.tail _ (.tail _ (row_mem_ent he')))))))))).mono (fun en w'' ⟨a', c', q1, q2, q3⟩ => ⟨(a', c'), q1, trivial, q2, q3⟩)) ?_
        rintro ⟨a53, c53⟩ _
        refine WL.focus (ow' := (row 3 1 a53 z.1.row.length c53 (ints z.1.row) :: (relA gk ++ (boxA F ++ CC y))) ++ [row 74 1 (some ⟨q5, 0, none⟩) ys.length fc (ys.map fun z => encE z.1)]) (List.Perm.cons _ List.perm_append_comm) (WL.yieldT (AA := fun b A' => ∃ g2 y2, A' = relA g2 ++ (boxA F ++ CC y2) ∧ (b = true → J (j + 1) g2 y2) ∧ (b = false → Jx (j + 1) g2 y2)) rfl rfl rfl (fun w' hw' => ?_) ?_)
        · have ht := hw'.turnedL
          refine (hy j gk y (a53, c53) w' z.1.row (by rw [← hsel]; simp [hz]) hJ (by simp only [List.append_assoc] at ht ⊢; exact ht)).mono (fun b W' ⟨g2, y2, t1, t2, t3⟩ => ⟨_, ⟨g2, y2, rfl, t1, t2⟩, by simp only [List.append_assoc] at t3 ⊢; exact t3⟩)
        rintro b A' ⟨g2, y2, rfl, hJt, hJf⟩
        refine WL.val (OV.not rfl) rfl ?_
        refine WL.nil ?_
        refine WX.next ?_
        refine WC.cond rfl (fun c55 => ?_) (fun c55 => ?_)
        · try simp only [decide_eq_true_eq, decide_eq_false_iff_not, Bool.not_eq_true', Bool.not_eq_false'] at c55
          refine WC.ret ?_
          refine WX.block_ret ?_
          refine WX.then_ret ?_
          refine WX.then_ret ?_
          refine WX.block_ret ?_
          exact WX.ret0 rfl rfl (fun w' hw => ⟨rfl, g2, y2, j + 1, .inr ⟨by omega, by omega, hJf c55⟩, by simpa only [List.append_assoc] using hw.turnedL⟩)
        · try simp only [decide_eq_true_eq, decide_eq_false_iff_not, Bool.not_eq_true', Bool.not_eq_false'] at c55
          refine WC.skip ?_
          refine WX.block_normal ?_
          refine WX.next ?_
          refine WC.region ?_
          first
          | (refine WL.val (OV.addI rfl rfl (by omega)) rfl ?_)
          | (refine WL.val (OV.add rfl rfl) rfl ?_)
          refine WL.val (OV.move rfl) rfl ?_
          refine WL.nil ?_
          exact WX.round3 (j + 1) g2 y2 ⟨rfl, rfl, rfl, rfl, trivial⟩ (fun w' hw => ⟨⟨by omega, hJt c55⟩, hw.perm (List.perm_append_comm (l₁ := [_]))⟩) (by show ys.length - (j + 1) < ys.length - j; omega)
      · try simp only [decide_eq_true_eq, decide_eq_false_iff_not, Bool.not_eq_true', Bool.not_eq_false'] at c48
        refine WC.exit ?_
        refine WX.then_exit ?_
        refine WX.then_exit ?_
        refine WX.block_hit ?_
        obtain ⟨hjj, hJ⟩ := hj
        have hje : j = ys.length := by omega
        subst hje
        exact WX.ret0 rfl rfl (fun w' hw => ⟨rfl, gk, y, ys.length, .inl ⟨hsl.symm, hJ⟩, by simpa only [List.append_assoc] using hw.drop.turned⟩)

theorem find1_iter (F : FB) (g0 : RelG) (ok : RelOK g0) (cols key : List Int) (hq : QR g0.width cols key F.ls F.ks F.b) (hr : F.r = g0.r) (hcol : F.col ∈ g0.cols) (w : World) :
    IterSpec Tryz.prog 94 F.caps (fun g => relA g ++ boxA F) g0 (fun g1 => RelOK g1 ∧ RelLe g0 g1 ∧ g1.es = g0.es) (fun g1 => RelLe g0 g1) EIr argr (selR (rp g0) F.parts cols key) w := by
  intro β CC J Jx y0 l w1 ht h0 hm hy
  exact find1_calls F g0 ok cols key hq hr hcol CC J Jx y0 l w1 ht.holds h0 hm hy

end Go.Proofs.YtgiiifadbnpfkaaGreatDoor

namespace Go.Proofs.YtgiiifadbnpfkaaGreatDoor
open Go Go.Hw
set_option linter.unusedSimpArgs false
set_option linter.unusedVariables false
/-! ### Rows -/
theorem RI.nil (w : World) : RI w none 0 [] := ⟨rfl, fun _ => rfl, fun b hb => by cases hb⟩
theorem i64s_nil : i64s [] := fun n hn => by cases hn
def encC (c : Col) : Value := .slice c.a c.l.length c.c
abbrev lstA (a : Option Addr) (c : Nat) (ys : List Col) : List Hw.Item := row 74 1 a ys.length c (ys.map encC) :: ys.flatMap colA
def CCr (b : Nat) (y : Option Addr × Nat × List Col) : List Hw.Item := box1 b 86 (.slice y.1 y.2.2.length y.2.1) :: lstA y.1 y.2.1 y.2.2
theorem selR_len (L : List (List Int × Nat)) (parts : Int) (cols key : List Int) : (selR L parts cols key).length ≤ L.length := by
  rw [selR, (sortR_perm _).length_eq, List.length_map]
  exact List.length_filter_le _ _
theorem encC_one (ys : List Col) : ∀ u ∈ ys.map encC, u.oneCell' = true := by
  intro u hu
  obtain ⟨c, _, rfl⟩ := List.mem_map.1 hu
  rfl
theorem flat_snoc (ys : List Col) (c : Col) : (ys ++ [c]).flatMap colA = ys.flatMap colA ++ [row 3 1 c.a c.l.length c.c (ints c.l)] := by simp [colA]
theorem rp_len {g : RelG} : (rp g).length = g.es.length := by simp [rp]

set_option maxRecDepth 10000 in
theorem rows_calls (g : RelG) (ok : RelOK g) (parts : Int) (w : World) (hA : Holds (relA g) w) :
  Calls Tryz.prog 35 #[ptr g.r, .int .i64 parts] w fun e w' => ∃ g' la lc ys, e = .returned (.slice la ys.length lc) ∧ ys.map Col.l = selR (rp g) parts [] [] ∧ RelOK g' ∧ RelLe g g' ∧ g'.es = g.es ∧ Turns (relA g) (relA g' ++ lstA la lc ys) w w' := by
  refine enterA hA (args := [ptr g.r, .int .i64 parts]) Tryz.func35 rfl Tryz.ntmps35 rfl rfl ?_
  refine WC.seq ?_
  refine WC.region ?_
  refine WL.val (OV.assign rfl) rfl ?_
  refine WL.nil ?_
  refine WX.next ?_
  refine WC.seq ?_
  refine WC.region ?_
  refine WL.alloc T.zr86 rfl ?_
  intro b5
  refine WL.nil ?_
  refine WX.next ?_
  refine WC.seq ?_
  refine WC.seq ?_
  refine WC.region ?_
  refine WL.val (OV.move rfl) rfl ?_
  refine WL.val (OV.move rfl) rfl ?_
  refine WL.focus (ow' := relA g ++ [box1 b5 86 (.slice none 0 0)]) (List.perm_append_comm (l₂ := [_])) (WL.callTA (ι := FB) (vv := fun F => F.fn) (pp := fun F => F.r = g.r ∧ F.parts = parts ∧ QR g.width [] [] F.ls F.ks F.b ∧ RelOK (colG g F.col)) (relA g) (AA := fun F => relA (colG g F.col) ++ boxA F) rfl (by kernel_rfl) rfl rfl (fun w' hw' hH => (find_calls g ok parts [] [] none 0 0 none 0 0 i64s_nil i64s_nil (by omega) (by omega) w' (RI.nil _) (RI.nil _) (fun b hb => by cases hb) (fun b hb => by cases hb) hH).mono (fun en w'' ⟨F, h1, h2, h3, h4, h5, h6⟩ => ⟨F, h1, ⟨h2, h3, h4, h5⟩, h6⟩)) ?_)
  rintro F ⟨hFr, hFp, hq, ok1⟩
  refine WL.nil ?_
  refine WX.next ?_
  refine WC.block ?_
  refine WC.weak (S' := Sat w (DD (relA g)) (fun b => b < w.heap.size ∧ ¬ DD (relA g) b) w ((relA (colG g F.col) ++ boxA F) ++ (CCr b5 (none, 0, []) ++ []))) (fun w' hw => (hw.rowNil 74 1).perm (perm_cat [[row 74 1 none 0 0 []], (relA (colG g F.col) ++ boxA F), [box1 b5 86 (.slice none 0 0)]] [1, 2, 0] (by decide) rfl)) ?_
  refine WC.rangeFunc (RA := fun q => relA q ++ boxA F) (CC := CCr b5) (EI := EIr) (arg := argr) (xs := (selR (rp g) F.parts [] [])) (g0 := (colG g F.col)) (y0 := (none, 0, [])) (R01 := fun g1 => RelOK g1 ∧ RelLe (colG g F.col) g1 ∧ g1.es = ((colG g F.col)).es) (Mono := fun g1 => RelLe (colG g F.col) g1) (gf := 94) (caps := F.caps) (ow := []) rfl rfl (by kernel_rfl) rfl (fun w' _ => find1_iter F (colG g F.col) ok1 [] [] hq hFr (List.mem_append_right _ (.head _)) w')
    (fun k q y => RelOK q ∧ RelLe (colG g F.col) q ∧ q.es = g.es ∧ y.2.2.map Col.l = (selR (rp g) F.parts [] []).take k) (fun _ _ _ _ => False) (fun q hq => ⟨hq.1, hq.2.1, hq.2.2, by simp⟩) (fun k q y h => h.2.1) ?_ ?_ ?_
  · rintro l lr k q ⟨la, lc, ys⟩ d W a hxs hJ hS
    obtain ⟨okq, leq, hqe, hys⟩ : RelOK q ∧ RelLe (colG g F.col) q ∧ q.es = g.es ∧ ys.map Col.l = (selR (rp g) F.parts [] []).take k := hJ
    have hyl : ys.length ≤ 1099511627776 := by
      have h1 := congrArg List.length hys
      rw [List.length_map, List.length_take] at h1
      have h2 := selR_len (rp g) F.parts [] []
      rw [rp_len] at h2
      have := ok.el
      omega
    refine WC.region ?_
    refine WL.val (OV.assign rfl) rfl ?_
    refine WL.nil ?_
    refine WX.begin ?_
    refine WC.focus (ow' := box1 b5 86 (.slice la ys.length lc) :: row 74 1 la ys.length lc (ys.map encC) :: row 3 1 d.1 a.length d.2 (ints a) :: own l (lr.ob .busy none) :: (ys.flatMap colA ++ (relA q ++ boxA F))) (perm_cat [[own l (lr.ob .busy none)], [row 3 1 d.1 a.length d.2 (ints a)], (relA q ++ boxA F), [box1 b5 86 (.slice la ys.length lc), row 74 1 la ys.length lc (ys.map encC)], ys.flatMap colA] [3, 1, 0, 4, 2] (by decide) rfl) ?_
    refine WC.block ?_
    refine WC.region ?_
    first
    | (refine WL.val (OV.load1 rfl T.u86 rfl (fun _ hw => cell_own hw (.head _) rfl)) rfl ?_)
    | (refine WL.val (OV.load1 rfl T.u86 rfl (fun _ hw => cell_own hw (.tail _ (.head _)) rfl)) rfl ?_)
    | (refine WL.val (OV.load1 rfl T.u86 rfl (fun _ hw => cell_own hw (.tail _ (.tail _ (.head _))) rfl)) rfl ?_)
    | (refine WL.val (OV.load1 rfl T.u86 rfl (fun _ hw => cell_own hw (.tail _ (.tail _ (.tail _ (.head _)))) rfl)) rfl ?_)
    refine WL.val (OV.move rfl) rfl ?_
    refine WL.buildSlice1 T.u86 T.z74 T.zr74 rfl rfl rfl ?_
    intro b13
    refine WL.focus perm2 (WL.append (news := [encC ⟨d.1, d.2, a⟩]) rfl rfl T.apR (fun _ _ => own_src (.tail _ (.head _)) rfl) (encC_one [⟨d.1, d.2, a⟩]) ⟨by omega, by unfold maxLen; omega⟩ rfl ?_)
    intro a14 c14
    refine WL.focus perm2 (WL.store1 (o := 0) rfl rfl rfl T.z86 Nat.zero_lt_one ?_)
    refine WL.nil ?_
    refine WX.block_normal ?_
    refine WX.focus (ow' := own l (lr.ob .busy none) :: ((relA q ++ boxA F) ++ (box1 b5 86 (.slice a14 (ys.length + 1) c14) :: row 74 1 a14 (ys.length + 1) c14 (ys.map encC ++ [encC ⟨d.1, d.2, a⟩]) :: (ys.flatMap colA ++ [row 3 1 d.1 a.length d.2 (ints a), own b13 (.cells [encC ⟨d.1, d.2, a⟩].toArray 74 (0, 0))])))) (perm_cat [[box1 b5 86 (.slice a14 (ys.length + 1) c14), row 74 1 a14 (ys.length + 1) c14 (ys.map encC ++ [encC ⟨d.1, d.2, a⟩])], [own b13 (.cells [encC ⟨d.1, d.2, a⟩].toArray 74 (0, 0))], [row 3 1 d.1 a.length d.2 (ints a)], [own l (lr.ob .busy none)], ys.flatMap colA, (relA q ++ boxA F)] [3, 5, 0, 4, 2, 1] (by decide) rfl) (WX.roundEnd (fun w' hw => ⟨q, (a14, c14, ys ++ [⟨d.1, d.2, a⟩]), lr.ob .ready none, fun _ => ⟨⟨okq, leq, hqe, ?_⟩, rfl⟩, fun h => (by cases h), ?_⟩))
    · show (ys ++ [_]).map Col.l = (selR (rp g) F.parts [] []).take (k + 1)
      rw [List.map_append, hys, List.take_add_one, hxs]
      rfl
    · have e1 : CCr b5 (a14, c14, ys ++ [⟨d.1, d.2, a⟩]) = box1 b5 86 (.slice a14 (ys.length + 1) c14) :: row 74 1 a14 (ys.length + 1) c14 (ys.map encC ++ [encC ⟨d.1, d.2, a⟩]) :: (ys.flatMap colA ++ [row 3 1 d.1 a.length d.2 (ints a)]) := by
        unfold CCr lstA
        rw [flat_snoc, List.map_append, List.length_append]
        rfl
      show Turns _ (own l (lr.ob .ready none) :: ((relA q ++ boxA F) ++ CCr b5 (a14, c14, ys ++ [⟨d.1, d.2, a⟩]))) _ _
      rw [e1]
      exact Hw.Sat.turnedL (B := [own b13 (.cells [encC ⟨d.1, d.2, a⟩].toArray 74 (0, 0))]) (hw.perm (List.Perm.of_eq (by simp)))
  · rintro D g2 ⟨la, lc, ys⟩ hJ
    obtain ⟨ok2, le2, he2, hys⟩ : RelOK g2 ∧ RelLe (colG g F.col) g2 ∧ g2.es = g.es ∧ ys.map Col.l = (selR (rp g) F.parts [] []).take (selR (rp g) F.parts [] []).length := hJ
    refine WX.block_normal ?_
    refine WX.next ?_
    refine WC.seq ?_
    refine WC.region ?_
    refine WL.val (OV.load1 (v := .slice la ys.length lc) rfl T.u86 rfl (fun _ hw => cell_own hw (.tail _ (List.mem_append_right _ (.head _))) rfl)) rfl ?_
    refine WL.val (OV.assign rfl) rfl ?_
    refine WL.nil ?_
    refine WX.next ?_
    refine WC.ret ?_
    refine WX.leave rfl (WR.mark (WR.ret1 rfl rfl (fun w' hw => ⟨g2, la, lc, ys, rfl, ?_, ok2, (colG_le g F.col).trans le2, he2, ?_⟩)))
    · rw [hys, List.take_length, hFp]
    · have h1 := hw.drop
      exact Hw.Sat.turnedL (B := boxA F ++ [box1 b5 86 (.slice la ys.length lc)]) (h1.perm ((List.Perm.of_eq (by rw [List.append_assoc]; rfl)).trans ((perm_cat [relA g2, boxA F, [box1 b5 86 (.slice la ys.length lc)], lstA la lc ys] [0, 3, 1, 2] (by decide) rfl).trans (List.Perm.of_eq (by simp [cat, CCr])))))
  · intro D c k g2 y2 hJ
    exact hJ.elim

end Go.Proofs.YtgiiifadbnpfkaaGreatDoor

namespace Go.Proofs.YtgiiifadbnpfkaaGreatDoor
open Go Go.Hw
set_option linter.unusedSimpArgs false
set_option linter.unusedVariables false
/-! ### Rows that lie anywhere -/
theorem RI.some {w : World} {a : Option Addr} {m : Nat} {l : List Int} (h : RI w a m l) (hp : 0 < m) : ∃ q, a = Option.some q := by
  cases a with
  | none => have := h.2.1 rfl; omega
  | some q => exact ⟨q, rfl⟩
theorem RI.keeps {w w' : World} {a : Option Addr} {m : Nat} {l : List Int} (h : RI w a m l) (k : Keeps w w') : RI w' a m l := h.mono fun q v _ hc => k q v hc
/-- A list of rows. -/
structure RLi (w : World) (a : Option Addr) (n : Nat) (ls : List (List Int)) : Prop where
  len : ls.length = n
  nil : a = none → n = 0
  big : n ≤ 1099511627776
  at_ : ∀ q, a = Option.some q → ∀ i l, ls[i]? = Option.some l → ∃ a' c', w.cell? (q.add i) = Option.some (.slice a' l.length c') ∧ RI w a' l.length l
  lens : ∀ l ∈ ls, l.length ≤ 1099511627776
  i64 : ∀ l ∈ ls, i64s l
theorem RLi.keeps {w w' : World} {a : Option Addr} {n : Nat} {ls : List (List Int)} (h : RLi w a n ls) (k : Keeps w w') : RLi w' a n ls :=
  ⟨h.len, h.nil, h.big, fun q hq i l hl => by
    obtain ⟨a', c', h1, h2⟩ := h.at_ q hq i l hl
    exact ⟨a', c', k _ _ h1, h2.keeps k⟩, h.lens, h.i64⟩
theorem RLi.get {w : World} {a : Option Addr} {n : Nat} {ls : List (List Int)} (h : RLi w a n ls) {i : Nat} (hi : i < n) : ∃ q l a' c', a = Option.some q ∧ ls[i]? = Option.some l ∧ l ∈ ls ∧ w.cell? (q.add i) = Option.some (.slice a' l.length c') ∧ RI w a' l.length l := by
  cases a with
  | none => have := h.nil rfl; omega
  | some q =>
    have hl : i < ls.length := by rw [h.len]; exact hi
    obtain ⟨a', c', h1, h2⟩ := h.at_ q rfl i _ (List.getElem?_eq_getElem hl)
    exact ⟨q, ls[i], a', c', rfl, List.getElem?_eq_getElem hl, List.getElem_mem hl, h1, h2⟩
theorem take_ext_step {α : Type} {l m : List α} {i : Nat} {x : α} (h : l.take i = m.take i) (hl : l[i]? = some x) (hm : m[i]? = some x) : l.take (i + 1) = m.take (i + 1) := by
  rw [List.take_add_one, List.take_add_one, h, hl, hm]

end Go.Proofs.YtgiiifadbnpfkaaGreatDoor

namespace Go.Hw
set_option linter.unusedVariables false
set_option linter.unusedSimpArgs false
open Go Go.RowKit Go.Proofs Go.Shelf
variable {P : Program} {ρ : Ren} {w : World} {T : TypeId} {b c : Nat}

theorem flat_len {α : Type} {enc : α → List Value} {k : Nat} (hk : ∀ x, (enc x).length = k) : ∀ xs : List α, (xs.flatMap enc).length = xs.length * k
  | [] => by simp
  | x :: xs => by rw [List.flatMap_cons, List.length_append, hk, flat_len hk xs, List.length_cons, Nat.add_mul, Nat.one_mul, Nat.add_comm]
theorem flat_get {α : Type} {enc : α → List Value} {k : Nat} (hk : ∀ x, (enc x).length = k) : ∀ (xs : List α) (i j : Nat) (x : α), xs[i]? = some x → j < k → (xs.flatMap enc)[i * k + j]? = (enc x)[j]?
  | [], i, j, x, h, _ => by simp at h
  | y :: xs, 0, j, x, h, hj => by
    simp only [List.getElem?_cons_zero, Option.some.injEq] at h
    subst h
    rw [List.flatMap_cons, Nat.zero_mul, Nat.zero_add, List.getElem?_append_left (by rw [hk]; exact hj)]
  | y :: xs, i + 1, j, x, h, hj => by
    rw [List.flatMap_cons, List.getElem?_append_right (by rw [hk, Nat.add_mul]; omega), hk]
    have : (i + 1) * k + j - k = i * k + j := by rw [Nat.add_mul]; omega
    rw [this]
    exact flat_get hk xs i j x (by simpa using h) hj
theorem flat_flatK {α : Type} [Inhabited α] {enc : α → List Value} {k : Nat} (hk : ∀ x, (enc x).length = k) (d : Array α) : (Go.Sort.flatK enc k d).toList = d.toList.flatMap enc := by
  apply List.ext_getElem?
  intro t
  by_cases ht : t < d.size * k
  · have hk0 : 0 < k := Nat.pos_of_ne_zero (fun h => by rw [h] at ht; simp at ht)
    have h1 : t / k < d.size := Nat.div_lt_of_lt_mul (by rwa [Nat.mul_comm] at ht)
    have h2 : t % k < k := Nat.mod_lt _ hk0
    have h3 := flat_get hk d.toList (t / k) (t % k) d[t / k] (by simp [h1]) h2
    have h4 : t / k * k + t % k = t := by rw [Nat.mul_comm]; exact Nat.div_add_mod t k
    rw [h4] at h3
    rw [h3, Array.getElem?_toList]
    have h5 := Go.Sort.get_flatK enc k d t ht
    rw [getElem!_pos _ t (by simpa using ht), getElem!_pos d (t / k) h1, getElem!_pos _ (t % k) (by rw [hk]; exact h2)] at h5
    rw [Array.getElem?_eq_getElem (by simpa using ht), h5, List.getElem?_eq_getElem]
  · rw [List.getElem?_eq_none (by simp; omega), List.getElem?_eq_none (by rw [flat_len hk]; simpa using ht)]
theorem row_blockK {k m : Nat} {xs : List Value} (h : (row T k (some ⟨b, 0, none⟩) m c xs).φ w) :
    ∃ cur, w.heap[b]? = some (.cells cur T (0, 0)) ∧ cur.size = c * k ∧ m ≤ c ∧ c ≤ maxLen ∧ cur.toList.take (m * k) = xs ∧ xs.length = m * k := by
  have h1 : w.ownsRow 0 T k (.slice (some ⟨b, 0, none⟩) m c) m xs := h
  rcases h1.2 with ⟨hv, _⟩ | ⟨g, cc, cur, hv, _, hg, hmc, hcm, hcs, htake⟩
  · cases hv
  · simp only [Value.slice.injEq, Option.some.injEq, Addr.mk.injEq, and_true] at hv
    obtain ⟨rfl, _, rfl⟩ := hv
    exact ⟨cur, hg, hcs, hmc, hcm, htake, h1.1⟩
theorem row_holdsK {k m : Nat} {xs : List Value} (h : (row T k (some ⟨b, 0, none⟩) m c xs).φ w) : Go.Sort.Holds id w b 0 xs.toArray := by
  obtain ⟨cur, hb, hs, hle, _, ht, hl⟩ := row_blockK h
  intro j hj
  have hj' : j < xs.length := by simpa using hj
  have hc : cur[j]? = some (xs.toArray[j]!) := by
    have h2 := congrArg (fun l : List Value => l[j]?) ht
    simp only [List.getElem?_take_of_lt (show j < m * k by omega), List.getElem?_eq_getElem hj'] at h2
    rw [← Array.getElem?_toList, h2]
    simp [hj']
  exact ⟨by simp [World.cell?, hb, hc], by simp [World.frozen?, hb]⟩
theorem sort_turnsK {k m : Nat} {xs : List Value} {F : Array Value} {n : Nat} {os : Array Obj} (hA : Holds [row T k (some ⟨b, 0, none⟩) m c xs] w) (hd : F.size = m * k) :
    Turns [row T k (some ⟨b, 0, none⟩) m c xs] [row T k (some ⟨b, 0, none⟩) m c F.toList] w (sortWorld id w b 0 n F os) := by
  have h := hA.φ _ (.head _)
  obtain ⟨cur, hb, hs, hle, hcm, ht, hl⟩ := row_blockK h
  have hlt : b < w.heap.size := (Array.getElem?_eq_some_iff.1 hb).1
  have hsize : w.heap.size ≤ (sortWorld id w b 0 n F os).heap.size := by
    show w.heap.size ≤ ((Go.Sort.putRow id (Go.Sort.ahead w n) b 0 F).heap ++ os).size
    rw [Array.size_append, Go.Sort.size_putRow]
    exact Nat.le_add_right _ _
  have hkeep : ∀ i, i < w.heap.size → (sortWorld id w b 0 n F os).heap[i]? = (Go.Sort.putRow id w b 0 F).heap[i]? := by
    intro i hi
    show ((Go.Sort.putRow id (Go.Sort.ahead w n) b 0 F).heap ++ os)[i]? = _
    rw [Array.getElem?_append_left (by rw [Go.Sort.size_putRow]; exact hi)]
    rfl
  have hnew : (sortWorld id w b 0 n F os).heap[b]? = some (.cells (Go.Sort.putCells id 0 F cur) T (0, 0)) := by
    rw [hkeep b hlt]
    show (w.heap.modify b _)[b]? = _
    rw [Array.getElem?_modify, if_pos rfl, hb]
    rfl
  have hmk : m * k ≤ c * k := Nat.mul_le_mul_right _ hle
  refine ⟨⟨rfl, rfl, rfl, hsize, fun i hi hn => ?_, Nat.le_add_right _ _⟩, fun i hi => ?_, fun i hi q hq => ?_, List.pairwise_singleton _ _⟩
  · rw [hkeep i hi]
    show (w.heap.modify b _)[i]? = _
    rw [Array.getElem?_modify, if_neg (fun e => hn ⟨_, .head _, ⟨_, rfl, e⟩⟩)]
  · simp only [List.mem_singleton] at hi
    subst hi
    refine ⟨by simp [hd], .inr ⟨b, c, Go.Sort.putCells id 0 F cur, rfl, Nat.zero_le _, hnew, hle, hcm, by simp [Go.Sort.putCells, hs], ?_⟩⟩
    apply List.ext_getElem?
    intro j
    by_cases hj : j < F.size
    · have hjc : j < cur.size := by omega
      rw [List.getElem?_take_of_lt (by omega), Array.getElem?_toList]
      simp [Go.Sort.putCells, hjc, hj]
    · rw [List.getElem?_eq_none (by simp; omega), List.getElem?_eq_none (by simp; omega)]
  · simp only [List.mem_singleton] at hi
    subst hi
    obtain ⟨a, ha, rfl⟩ := hq
    simp only [Option.some.injEq] at ha
    subst ha
    exact ⟨Nat.lt_of_lt_of_le hlt hsize, .inl ⟨_, .head _, ⟨_, rfl, rfl⟩⟩⟩
theorem sort_frK {F : Array Value} {n : Nat} {os : Array Obj} : Fr (fun i => i = b) w (sortWorld id w b 0 n F os) := sort_fr
/-- What keeps all that was there: draws, and new blocks behind. -/
theorem Fr.grown {w w' : World} (h : Fr0 w w') : ∃ q os', w' = Go.Sort.grow (w.drewN q) os' := by
  refine ⟨w'.drawn - w.drawn, w'.heap.extract w.heap.size w'.heap.size, ?_⟩
  have hh : w'.heap = w.heap ++ w'.heap.extract w.heap.size w'.heap.size := by
    apply Array.ext_getElem?
    intro i
    by_cases hi : i < w.heap.size
    · rw [Array.getElem?_append_left hi]
      exact h.keep i hi (fun f => f)
    · rw [Array.getElem?_append_right (by omega), Array.getElem?_extract]
      by_cases hi2 : i < w'.heap.size
      · rw [if_pos (by omega), show w.heap.size + (i - w.heap.size) = i by omega]
      · rw [if_neg (by omega), Array.getElem?_eq_none (by omega)]
  have h1 := h.os; have h2 := h.tape; have h3 := h.output; have h4 := h.draws
  cases w; cases w'
  simp only [Go.Sort.grow, World.drewN] at *
  subst h1; subst h2; subst h3
  congr 1
  omega
/-- slices.SortFunc, on a row of the call's own: structs of k cells; cmp reads, and may lay blocks. -/
theorem sortFuncK_calls (L : SlLaysF0.n6 P ρ) {α : Type} (k : Nat) (hk0 : 0 < k) (hag : (P.underlying (ρ.t 24)).map aggD = some true) (hz : P.sz (ρ.t 24) = some k) (enc : α → List Value) (hk : ∀ x, (enc x).length = k) (h1 : ∀ x, ∀ v ∈ enc x, v.oneCell' = true) (cf : α → α → Int) (hO : Go.Sort.SWO (ltOf cf)) (g : Nat) (hg : bodied P g = true) (a : Option Addr) (xs : List α) (w : World)
    (hA : Holds [row T k a xs.length c (xs.flatMap enc)] w) (hcmp : ∀ q, a = some q → ∀ w', Fr (fun i => i = q.block) w w' → ∀ x y, Calls P g #[.agg (enc x).toArray, .agg (enc y).toArray] w' fun e w'' => e = .returned (.int .i64 (cf x y)) ∧ Fr0 w' w'') (hsz : xs.length < 4611686018427387904) :
    Calls P (ρ.f 6) #[.slice a xs.length c, .func (.func g) #[] #[]] w fun e w' => e = .returned (.tuple #[]) ∧ ∃ ys : List α, ys.Perm xs ∧ ys.Pairwise (fun x y => ltOf cf y x = false) ∧
      Turns [row T k a xs.length c (xs.flatMap enc)] [row T k a ys.length c (ys.flatMap enc)] w w' := by
  cases xs with
  | nil =>
    refine (AnyF.slices_SortFunc_none (P := P) (ρ := ρ) L a c (.func (.func g) #[] #[]) w).mono ?_
    rintro e w' ⟨rfl, rfl⟩
    exact ⟨rfl, [], List.Perm.refl _, List.Pairwise.nil, Turns.refl hA⟩
  | cons x0 xs =>
    haveI : Inhabited α := ⟨x0⟩
    have hφ := hA.φ _ (.head _)
    have hbase : ∃ b, a = some ⟨b, 0, none⟩ := by
      have h2 : w.ownsRow 0 T k (.slice a (x0 :: xs).length c) (x0 :: xs).length ((x0 :: xs).flatMap enc) := hφ
      rcases h2.2 with ⟨hv, h0⟩ | ⟨g, cc, cur, hv, _⟩
      · simp at h0
      · simp only [Value.slice.injEq] at hv
        exact ⟨g, hv.1⟩
    obtain ⟨b, rfl⟩ := hbase
    have hlt : b < w.heap.size := hA.lt _ (.head _) b ⟨_, rfl, rfl⟩
    obtain ⟨d, hu, hd⟩ := Option.map_eq_some_iff.1 hag
    have hflat : Go.Sort.flatK enc k (x0 :: xs).toArray = ((x0 :: xs).flatMap enc).toArray := by
      apply Array.toList_inj.1
      rw [flat_flatK hk]
    have hcon := AnyQ.slices_SortFunc L k (fun w => by rw [run_isAgg hu, hd]) (fun w => Hw.run_sizeOf hz w) enc hk h1 cf hO g #[] b 0 c (x0 :: xs).toArray w (fun args w => enters_bodied hg args w)
      (fun m os dk hs x y => (hcmp _ rfl _ (sort_frK (F := Go.Sort.flatK enc k dk) (n := m) (os := os)) x y).mono fun e w' ⟨he, hw⟩ => ⟨he, Fr.grown hw⟩)
      (show Go.Sort.Holds id w b 0 (Go.Sort.flatK enc k (x0 :: xs).toArray) by rw [hflat]; exact row_holdsK hφ) hlt (by simpa using hsz)
    have e0 : (x0 :: xs).toArray.size = (x0 :: xs).length := by simp
    rw [e0] at hcon
    refine hcon.mono ?_
    rintro e w' ⟨rfl, d', n, os, hp, hs, rfl⟩
    obtain ⟨hp1, hp2⟩ := permIn_perm (d := (x0 :: xs).toArray) (by rw [e0]; exact hp)
    have hl : d'.toList.length = (x0 :: xs).length := by rw [Array.length_toList, hp2, e0]
    refine ⟨rfl, d'.toList, by simpa using hp1, sortedIn_pairwise (by rw [hp2, e0]) hs, ?_⟩
    have ht := sort_turnsK (T := T) (c := c) (F := Go.Sort.flatK enc k d') (n := n) (os := os) hA (by rw [Go.Sort.size_flatK, hp2, e0])
    rw [flat_flatK hk] at ht
    rw [hl]
    exact ht
end Go.Hw
