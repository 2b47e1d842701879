/- Contracts of functions of the program: what each returns and leaves in memory. Printed by gen.py and walk.py. -/
import Derived.Test.YtijplknkpkmblaaGreatDoorL2
namespace Go.Proofs.YtijplknkpkmblaaGreatDoor
open Go Go.Hw
set_option linter.unusedSimpArgs false
set_option linter.unusedVariables false
theorem _root_.Go.Hw.Sat.turned0 {w w' ws : World} {I : Nat → Prop} {A' : List Hw.Item} (h : Sat w (fun _ => False) I ws A' w') : Turns [] A' w w' :=
  ⟨h.fr.mono (fun _ f => f.elim), h.it, fun i hi b hb => ⟨(h.lt i hi b hb).1, by
    rcases (h.lt i hi b hb).2.2 with hf | hf
    · exact hf.elim
    · exact .inr hf⟩, h.disj⟩
theorem _root_.Go.Hw.Sat.nils {w0 ws w : World} {M I : Nat → Prop} {ow : List Hw.Item} (h : Sat w0 M I ws ow w) : Sat w0 M I ws [row 3 1 none 0 0 (ints []), row 3 1 none 0 0 (ints [])] w :=
  Sat.rowNil 3 1 (Sat.rowNil 3 1 (Sat.part (List.nil_sublist _) h))
theorem isSome_lk {m : List (Int × Int)} {c : Int} (h : (lk m c).isSome = true) : lk m c = some ((lk m c).getD 0) := by
  cases hl : lk m c with
  | some v => rfl
  | none => rw [hl] at h; cases h
theorem fits_at {row cols key : List Int} {i : Nat} (hc : i < cols.length) (h : fitsL row cols key) : good row (cols.getD i 0, key.getD i 0) := by
  have hk : i < key.length := by have := h.1; omega
  refine h.2 _ (List.mem_iff_getElem.2 ⟨i, by simp; omega, ?_⟩)
  simp [hc, hk]
def ksOf (m : List (Int × Int)) : List Int := m.map (·.1)
theorem srt_length (l : List Int) : (srt l).length = l.length := List.length_mergeSort _

set_option maxRecDepth 10000 in
theorem question_calls (g : RelG) (ok : RelOK g) (cols key : List Int) (a1 : Option Addr) (m1 c1 : Nat) (a2 : Option Addr) (m2 c2 : Nat) (hc : i64s cols) (hk : i64s key) (hm1 : m1 ≤ 1099511627776) (hm2 : m2 ≤ 1099511627776) (w : World) (hr1 : RI w a1 m1 cols) (hr2 : RI w a2 m2 key) (hA : Holds (relA g) w) :
  Calls Tryz.prog 28 #[.pointer (some ⟨g.r, 0, none⟩), .slice a1 m1 c1, .slice a2 m2 c2] w fun e w' => ∃ la lc ka kc ls ks b, e = .returned (.tuple #[.slice la ls.length lc, .slice ka ks.length kc, .bool b]) ∧ QR g.width cols key ls ks b ∧ Turns [] [row 3 1 la ls.length lc (ints ls), row 3 1 ka ks.length kc (ints ks)] w w' := by
  refine enterS (args := [.pointer (some ⟨g.r, 0, none⟩), .slice a1 m1 c1, .slice a2 m2 c2]) (fun _ => False) Tryz.func28 rfl Tryz.ntmps28 rfl rfl ?_
  refine WC.seq ?_
  refine WC.region ?_
  refine WL.val (OV.assign rfl) rfl ?_
  refine WL.val (OV.assign rfl) rfl ?_
  refine WL.val (OV.assign rfl) rfl ?_
  refine WL.nil ?_
  refine WX.next ?_
  refine WC.seq ?_
  refine WC.seq ?_
  refine WC.region ?_
  refine WL.val (OV.move rfl) rfl ?_
  first
  | (refine WL.val (OV.lenSlice rfl T.u32) rfl ?_)
  | (refine WL.val (OV.lenStr rfl T.u32) rfl ?_)
  refine WL.val (OV.move rfl) rfl ?_
  first
  | (refine WL.val (OV.lenSlice rfl T.u32) rfl ?_)
  | (refine WL.val (OV.lenStr rfl T.u32) rfl ?_)
  refine WL.val (OV.neq rfl rfl) rfl ?_
  refine WL.nil ?_
  refine WX.next ?_
  refine WC.cond rfl (fun c22 => ?_) (fun c22 => ?_)
  · try simp only [decide_eq_true_eq, decide_eq_false_iff_not, Bool.not_eq_true', Bool.not_eq_false'] at c22
    refine WC.seq ?_
    refine WC.region ?_
    refine WL.val (OV.assign rfl) rfl ?_
    refine WL.val (OV.assign rfl) rfl ?_
    refine WL.val (OV.assign rfl) rfl ?_
    refine WL.nil ?_
    refine WX.next ?_
    refine WC.ret ?_
    refine WX.then_ret ?_
    exact WX.ret3 rfl rfl rfl rfl rfl (fun w' hw => ⟨none, 0, none, 0, [], [], false, rfl, QR.bad (fun rr hrow hh => c22 (by have := hh.1; have := hr1.1; have := hr2.1; omega)), (Hw.Sat.turned0 (Hw.Sat.nils hw))⟩)
  · try simp only [decide_eq_true_eq, decide_eq_false_iff_not, Bool.not_eq_true', Bool.not_eq_false'] at c22
    refine WC.skip ?_
    refine WX.next ?_
    refine WC.seq ?_
    refine WC.region ?_
    refine WL.makeMap (Value.int .i64) rfl ?_
    intro m23
    refine WL.val (OV.assign rfl) rfl ?_
    refine WL.nil ?_
    refine WX.next ?_
    refine WC.seq ?_
    refine WC.region ?_
    refine WL.val (OV.assign rfl) rfl ?_
    refine WL.nil ?_
    refine WX.next ?_
    refine WC.seq ?_
    refine WC.seq ?_
    refine WC.region ?_
    refine WL.val (OV.move rfl) rfl ?_
    first
    | (refine WL.val (OV.lenSlice rfl T.u32) rfl ?_)
    | (refine WL.val (OV.lenStr rfl T.u32) rfl ?_)
    refine WL.val (OV.move rfl) rfl ?_
    refine WL.nil ?_
    refine WX.next ?_
    refine WC.block ?_
    have hml := hr1.1
    have hml2 := hr2.1
    refine WC.loop4 (fun (i : Nat) (m : List (Int × Int)) (la : Option Addr) (lc : Nat) => [(0, .pointer (some ⟨g.r, 0, none⟩)), (2, .slice a2 m2 c2), (9, .map (some m23)), (10, .slice la (ksOf m).length lc), (24, .slice a1 m1 c1), (25, .int .i64 (m1 : Int)), (26, .int .i64 (i : Int))])
        (fun i m la lc w' => (i ≤ m1 ∧ (ksOf m).length ≤ i ∧ QI g.width ((cols.zip key).take i) m) ∧ Sat w (fun _ => False) (fun b => b < w.heap.size) w [row 3 1 la (ksOf m).length lc (ints (ksOf m)), own m23 (mapK (Value.int .i64) (kvI m))] w')
        (fun i _ _ _ => m1 - i) 0 [] none 0 ⟨rfl, rfl, rfl, rfl, rfl, rfl, rfl, trivial⟩ (fun w' hw => ⟨⟨by omega, by simp [ksOf], by simpa using QI.nil g.width⟩, hw.rowNil 3 1⟩) ?_
    intro i m la lc
    refine WC.pure (fun hi => ?_)
    obtain ⟨hi, hmi, hq⟩ := hi
    refine WC.seq ?_
    refine WC.region ?_
    refine WL.val (OV.lss rfl rfl) rfl ?_
    refine WL.nil ?_
    refine WX.next ?_
    refine WC.seq ?_
    refine WC.cond rfl (fun c27 => ?_) (fun c27 => ?_)
    · try simp only [decide_eq_true_eq, decide_eq_false_iff_not, Bool.not_eq_true', Bool.not_eq_false'] at c27
      refine WC.skip ?_
      refine WX.next ?_
      refine WC.seq ?_
      refine WC.block ?_
      refine WC.seq ?_
      refine WC.region ?_
      refine WL.val (OV.move rfl) rfl ?_
      have hil : i < cols.length := by have := hr1.1; omega
      have hik : i < key.length := by have := hr2.1; have := hr1.1; omega
      obtain ⟨q1, rfl⟩ : ∃ q, a1 = some q := by
        cases a1 with
        | none => have := hr1.2.1 rfl; omega
        | some q => exact ⟨q, rfl⟩
      obtain ⟨q2, rfl⟩ : ∃ q, a2 = some q := by
        cases a2 with
        | none => have := hr2.2.1 rfl; omega
        | some q => exact ⟨q, rfl⟩
      refine WL.val (OV.indexSliceA (i := i) rfl rfl T.u32 T.z3 (by omega)) rfl ?_
      refine WL.val (OV.load1 (v := .int .i64 (cols.getD i 0)) rfl T.u3 rfl (fun _ hw => (hr1.sat hw).cell hil)) rfl ?_
      refine WL.val (OV.assign rfl) rfl ?_
      refine WL.val (OV.assign rfl) rfl ?_
      refine WL.nil ?_
      refine WX.next ?_
      refine WC.seq ?_
      refine WC.seq ?_
      refine WC.region ?_
      refine WL.val (OV.move rfl) rfl ?_
      refine WL.val (OV.lss rfl rfl) rfl ?_
      refine WL.val (OV.move rfl) rfl ?_
      refine WL.split (t := 33) rfl (fun g33 => ?_) (fun g33 => ?_)
      · try simp only [decide_eq_true_eq, decide_eq_false_iff_not, Bool.not_eq_true', Bool.not_eq_false'] at g33
        refine WL.skip (b := true) rfl rfl rfl rfl ?_
        refine WL.skip (b := true) rfl rfl rfl rfl ?_
        refine WL.skip (b := true) rfl rfl rfl rfl ?_
        refine WL.skip (b := true) rfl rfl rfl rfl ?_
        refine WL.skip (b := true) rfl rfl rfl rfl ?_
        refine WL.skip (b := true) rfl rfl rfl rfl ?_
        refine WL.val (OV.pickT rfl rfl) rfl ?_
        refine WL.nil ?_
        refine WX.next ?_
        refine WC.condT rfl ?_
        refine WC.seq ?_
        refine WC.region ?_
        refine WL.val (OV.assign rfl) rfl ?_
        refine WL.val (OV.assign rfl) rfl ?_
        refine WL.val (OV.assign rfl) rfl ?_
        refine WL.nil ?_
        refine WX.next ?_
        refine WC.ret ?_
        refine WX.then_ret ?_
        refine WX.block_ret ?_
        refine WX.then_ret ?_
        refine WX.then_ret ?_
        refine WX.block_ret ?_
        refine WX.then_ret ?_
        exact WX.ret3 rfl rfl rfl rfl rfl (fun w' hw => ⟨none, 0, none, 0, [], [], false, rfl, QR.bad (fun rr hrow hh => absurd (fits_at hil hh).1 (by omega)), (Hw.Sat.turned0 (Hw.Sat.nils hw))⟩)
      · try simp only [decide_eq_true_eq, decide_eq_false_iff_not, Bool.not_eq_true', Bool.not_eq_false'] at g33
        refine WL.go (b := false) rfl rfl rfl ?_
        refine WL.val (OV.move rfl) rfl ?_
        refine WL.go (b := false) rfl rfl rfl ?_
        refine WL.val (OV.move rfl) rfl ?_
        refine WL.go (b := false) rfl rfl rfl ?_
        refine WL.val (OV.nilCheck rfl) rfl ?_
        refine WL.go (b := false) rfl rfl rfl ?_
        first
        | (refine WL.val (OV.fieldAddr0 (off := 0) rfl T.u66 rfl) rfl ?_)
        | (refine WL.val (OV.fieldAddr (off := 0) rfl T.u66 rfl) rfl ?_)
        refine WL.go (b := false) rfl rfl rfl ?_
        refine WL.val (OV.load1 (v := .int .i64 (g.width : Int)) rfl T.u3 rfl (fun _ hw => snapL hw (cell_at (relA_hd hA) (o := 0) rfl).1)) rfl ?_
        refine WL.go (b := false) rfl rfl rfl ?_
        refine WL.val (OV.geq rfl rfl) rfl ?_
        refine WL.val (OV.pickF rfl rfl) rfl ?_
        refine WL.nil ?_
        refine WX.next ?_
        refine WC.cond rfl (fun c40 => ?_) (fun c40 => ?_)
        · try simp only [decide_eq_true_eq, decide_eq_false_iff_not, Bool.not_eq_true', Bool.not_eq_false'] at c40
          refine WC.seq ?_
          refine WC.region ?_
          refine WL.val (OV.assign rfl) rfl ?_
          refine WL.val (OV.assign rfl) rfl ?_
          refine WL.val (OV.assign rfl) rfl ?_
          refine WL.nil ?_
          refine WX.next ?_
          refine WC.ret ?_
          refine WX.then_ret ?_
          refine WX.block_ret ?_
          refine WX.then_ret ?_
          refine WX.then_ret ?_
          refine WX.block_ret ?_
          refine WX.then_ret ?_
          exact WX.ret3 rfl rfl rfl rfl rfl (fun w' hw => ⟨none, 0, none, 0, [], [], false, rfl, QR.bad (fun rr hrow hh => absurd (fits_at hil hh).2.1 (by omega)), (Hw.Sat.turned0 (Hw.Sat.nils hw))⟩)
        · try simp only [decide_eq_true_eq, decide_eq_false_iff_not, Bool.not_eq_true', Bool.not_eq_false'] at c40
          refine WC.skip ?_
          refine WX.next ?_
          refine WC.seq ?_
          refine WC.region ?_
          refine WL.val (OV.move rfl) rfl ?_
          refine WL.val (OV.move rfl) rfl ?_
          refine WL.val ((OV.lookupOk (enc := Value.int .i64) (kv := kvI m) (a := cols.getD i 0) (KeyLaw.int T.u3) T.u88 (by kernel_rfl) rfl rfl (fun _ hw => own_map (.tail _ (.head _)) _ hw)).cast (by rw [kvI_got, kvI_some])) rfl ?_
          refine WL.val (OV.move rfl) rfl ?_
          refine WL.val (OV.extract rfl rfl) rfl ?_
          refine WL.val (OV.extract rfl rfl) rfl ?_
          refine WL.val (OV.assign rfl) rfl ?_
          refine WL.val (OV.assign rfl) rfl ?_
          refine WL.nil ?_
          refine WX.next ?_
          refine WC.seq ?_
          refine WC.seq ?_
          refine WC.region ?_
          refine WL.val (OV.move rfl) rfl ?_
          refine WL.val (OV.move rfl) rfl ?_
          refine WL.split (t := 48) rfl (fun g48 => ?_) (fun g48 => ?_)
          · try simp only [decide_eq_true_eq, decide_eq_false_iff_not, Bool.not_eq_true', Bool.not_eq_false'] at g48
            refine WL.go (b := true) rfl rfl rfl ?_
            refine WL.val (OV.move rfl) rfl ?_
            refine WL.go (b := true) rfl rfl rfl ?_
            refine WL.val (OV.move rfl) rfl ?_
            refine WL.go (b := true) rfl rfl rfl ?_
            refine WL.val (OV.move rfl) rfl ?_
            refine WL.go (b := true) rfl rfl rfl ?_
            refine WL.val (OV.indexSliceA (i := i) rfl rfl T.u32 T.z3 (by omega)) rfl ?_
            refine WL.go (b := true) rfl rfl rfl ?_
            refine WL.val (OV.load1 (v := .int .i64 (key.getD i 0)) rfl T.u3 rfl (fun _ hw => (hr2.sat hw).cell hik)) rfl ?_
            refine WL.go (b := true) rfl rfl rfl ?_
            refine WL.val (OV.neq rfl rfl) rfl ?_
            refine WL.val (OV.pickT rfl rfl) rfl ?_
            refine WL.nil ?_
            refine WX.next ?_
            refine WC.cond rfl (fun c55 => ?_) (fun c55 => ?_)
            · try simp only [decide_eq_true_eq, decide_eq_false_iff_not, Bool.not_eq_true', Bool.not_eq_false'] at c55
              refine WC.seq ?_
              refine WC.region ?_
              refine WL.val (OV.assign rfl) rfl ?_
              refine WL.val (OV.assign rfl) rfl ?_
              refine WL.val (OV.assign rfl) rfl ?_
              refine WL.nil ?_
              refine WX.next ?_
              refine WC.ret ?_
              refine WX.then_ret ?_
              refine WX.block_ret ?_
              refine WX.then_ret ?_
              refine WX.then_ret ?_
              refine WX.block_ret ?_
              refine WX.then_ret ?_
              have hl1 := isSome_lk g48
              exact WX.ret3 rfl rfl rfl rfl rfl (fun w' hw => ⟨none, 0, none, 0, [], [], false, rfl, QR.bad (fun rr hrow hh => hq.clash (v := key.getD i 0) hl1 (by simpa using c55) rr (by rw [← zip_take_snoc hil hik]; exact fits_take hh (i + 1))), (Hw.Sat.turned0 (Hw.Sat.nils hw))⟩)
            · try simp only [decide_eq_true_eq, decide_eq_false_iff_not, Bool.not_eq_true', Bool.not_eq_false'] at c55
              refine WC.skip ?_
              refine WX.next ?_
              refine WC.seq ?_
              skip
              refine WC.region ?_
              refine WL.val (OV.move rfl) rfl ?_
              refine WL.val (OV.not rfl) rfl ?_
              refine WL.nil ?_
              refine WX.next ?_
              refine WC.condF (show _ = some (Value.bool false) from by rw [g48]; rfl) ?_
              refine WC.skip ?_
              refine WX.block_normal ?_
              refine WX.next ?_
              refine WC.region ?_
              first
              | (refine WL.val (OV.addI rfl rfl (by omega)) rfl ?_)
              | (refine WL.val (OV.add rfl rfl) rfl ?_)
              refine WL.val (OV.move rfl) rfl ?_
              refine WL.nil ?_
              have hl1 := isSome_lk g48
              have hv : (lk m (cols.getD i 0)).getD 0 = key.getD i 0 := by simpa using c55
              rw [hv] at hl1
              exact WX.round4 (i + 1) m la lc ⟨rfl, rfl, rfl, rfl, rfl, rfl, rfl, trivial⟩ (fun w' hw => ⟨⟨by omega, by omega, by rw [zip_take_snoc hil hik]; exact hq.same hl1⟩, hw⟩) (by show m1 - (i + 1) < m1 - i; omega)
          · try simp only [decide_eq_true_eq, decide_eq_false_iff_not, Bool.not_eq_true', Bool.not_eq_false'] at g48
            refine WL.skip (b := false) rfl rfl rfl rfl ?_
            refine WL.skip (b := false) rfl rfl rfl rfl ?_
            refine WL.skip (b := false) rfl rfl rfl rfl ?_
            refine WL.skip (b := false) rfl rfl rfl rfl ?_
            refine WL.skip (b := false) rfl rfl rfl rfl ?_
            refine WL.skip (b := false) rfl rfl rfl rfl ?_
            refine WL.val (OV.pickF rfl rfl) rfl ?_
            refine WL.nil ?_
            refine WX.next ?_
            refine WC.condF rfl ?_
            refine WC.skip ?_
            refine WX.next ?_
            refine WC.seq ?_
            have hln : lk m (cols.getD i 0) = none := by simpa using g48
            refine WC.region ?_
            refine WL.val (OV.move rfl) rfl ?_
            refine WL.val (OV.not rfl) rfl ?_
            refine WL.nil ?_
            refine WX.next ?_
            refine WC.condT (show _ = some (Value.bool true) from by rw [g48]; rfl) ?_
            refine WC.seq ?_
            refine WC.region ?_
            refine WL.val (OV.move rfl) rfl ?_
            refine WL.val (OV.move rfl) rfl ?_
            refine WL.val (OV.move rfl) rfl ?_
            refine WL.val (OV.move rfl) rfl ?_
            refine WL.val (OV.indexSliceA (i := i) rfl rfl T.u32 T.z3 (by omega)) rfl ?_
            refine WL.val (OV.load1 (v := .int .i64 (key.getD i 0)) rfl T.u3 rfl (fun _ hw => (hr2.sat hw).cell hik)) rfl ?_
            refine WL.focus perm1 (WL.mapUpdate (enc := Value.int .i64) (kv := kvI m) (a := cols.getD i 0) (KeyLaw.int T.u3) T.u88 rfl rfl rfl ?_)
            rw [kvI_ups hln]
            refine WL.nil ?_
            refine WX.next ?_
            refine WC.region ?_
            refine WL.val (OV.move rfl) rfl ?_
            refine WL.val (OV.move rfl) rfl ?_
            refine WL.buildSlice1 T.u32 T.z3 T.zr3 rfl rfl rfl ?_
            intro b66
            refine WL.focus perm2 (WL.append (news := ints [cols.getD i 0]) rfl rfl T.apI (fun _ _ => own_src (.tail _ (.head _)) rfl) (ints_one _) ⟨by omega, by unfold maxLen; omega⟩ rfl ?_)
            intro a67 c67
            refine WL.val (OV.assign rfl) rfl ?_
            refine WL.nil ?_
            refine WX.block_normal ?_
            refine WX.next ?_
            refine WC.region ?_
            first
            | (refine WL.val (OV.addI rfl rfl (by omega)) rfl ?_)
            | (refine WL.val (OV.add rfl rfl) rfl ?_)
            refine WL.val (OV.move rfl) rfl ?_
            refine WL.nil ?_
            have hk1 : (ksOf m).length + 1 = (ksOf (m ++ [(cols.getD i 0, key.getD i 0)])).length := by simp [ksOf]
            have hk2 : ints (ksOf m) ++ ints [cols.getD i 0] = ints (ksOf (m ++ [(cols.getD i 0, key.getD i 0)])) := by simp [ksOf, ints]
            exact WX.round4 (i + 1) (m ++ [(cols.getD i 0, key.getD i 0)]) a67 c67 ⟨rfl, rfl, rfl, by rw [← hk1]; rfl, rfl, rfl, rfl, trivial⟩ (fun w' hw => ⟨⟨by omega, by omega, by rw [zip_take_snoc hil hik]; exact hq.more hln ⟨by omega, by omega⟩⟩, by
              rw [← hk1, ← hk2]
              exact (hw.perm perm1).drop⟩) (by show m1 - (i + 1) < m1 - i; omega)
    · try simp only [decide_eq_true_eq, decide_eq_false_iff_not, Bool.not_eq_true', Bool.not_eq_false'] at c27
      refine WC.exit ?_
      refine WX.then_exit ?_
      refine WX.then_exit ?_
      refine WX.block_hit ?_
      refine WX.next ?_
      refine WC.seq ?_
      refine WC.region ?_
      refine WL.val (OV.move rfl) rfl ?_
      refine WL.callT1 (ι := Unit) (vv := fun _ => .tuple #[]) (pp := fun _ => True) (jj := fun _ => row 3 1 la (ksOf m).length lc (ints (srt (ksOf m)))) (by kernel_rfl) rfl rfl (fun w' hw' hH => (sortInts_calls Tryz.sortI la (ksOf m) w' hH (by omega)).mono (fun e w'' ⟨h1, h2⟩ => ⟨(), h1, trivial, h2⟩)) ?_
      rintro _ _
      rw [← srt_length (ksOf m)]
      refine WL.nil ?_
      refine WX.next ?_
      refine WC.seq ?_
      refine WC.region ?_
      refine WL.val (OV.assign rfl) rfl ?_
      refine WL.nil ?_
      refine WX.next ?_
      refine WC.seq ?_
      refine WC.seq ?_
      refine WC.region ?_
      refine WL.val (OV.move rfl) rfl ?_
      first
      | (refine WL.val (OV.lenSlice rfl T.u32) rfl ?_)
      | (refine WL.val (OV.lenStr rfl T.u32) rfl ?_)
      refine WL.val (OV.move rfl) rfl ?_
      refine WL.nil ?_
      refine WX.next ?_
      refine WC.block ?_
      have hmm : i = cols.length := by omega
      subst hmm
      have hll : (srt (ksOf m)).length = (ksOf m).length := srt_length _
      obtain ⟨ls, hls⟩ : ∃ ls, ls = srt (ksOf m) := ⟨_, rfl⟩
      rw [← hls] at hll ⊢
      refine WC.weak (S' := fun w' => (la = none → ls.length = 0) ∧ Sat w (fun _ => False) (fun b => b < w.heap.size) w [row 3 1 la ls.length lc (ints ls), own m23 (mapK (Value.int .i64) (kvI m))] w') (fun w' hw => ⟨(RI.of_row hw (.head _)).2.1, hw⟩) ?_
      refine WC.pure (fun hla => ?_)
      refine WC.loop3 (fun (j : Nat) (ka : Option Addr) (kc : Nat) => [(9, .map (some m23)), (10, .slice la ls.length lc), (15, .slice ka j kc), (71, .slice la ls.length lc), (72, .int .i64 (ls.length : Int)), (73, .int .i64 (j : Int))])
          (fun j ka kc w' => j ≤ ls.length ∧ Sat w (fun _ => False) (fun b => b < w.heap.size) w [row 3 1 ka j kc (ints ((ls.take j).map fun c => (lk m c).getD 0)), row 3 1 la ls.length lc (ints ls), own m23 (mapK (Value.int .i64) (kvI m))] w')
          (fun j _ _ => ls.length - j) 0 none 0 ⟨rfl, rfl, rfl, rfl, rfl, rfl, trivial⟩ (fun w' hw => ⟨by omega, hw.rowNil 3 1⟩) ?_
      intro j ka kc
      refine WC.pure (fun hj => ?_)
      refine WC.seq ?_
      refine WC.region ?_
      refine WL.val (OV.lss rfl rfl) rfl ?_
      refine WL.nil ?_
      refine WX.next ?_
      refine WC.seq ?_
      refine WC.cond rfl (fun c74 => ?_) (fun c74 => ?_)
      · try simp only [decide_eq_true_eq, decide_eq_false_iff_not, Bool.not_eq_true', Bool.not_eq_false'] at c74
        refine WC.skip ?_
        refine WX.next ?_
        refine WC.seq ?_
        refine WC.block ?_
        refine WC.seq ?_
        refine WC.region ?_
        have hjl : j < ls.length := by omega
        obtain ⟨q3, rfl⟩ : ∃ q, la = some q := by
          cases la with
          | none => exact absurd (hla rfl) (by omega)
          | some q => exact ⟨q, rfl⟩
        refine WL.val (OV.indexSliceA (i := j) rfl rfl T.u32 T.z3 (by omega)) rfl ?_
        refine WL.val (OV.load1 (v := .int .i64 (ls.getD j 0)) rfl T.u3 rfl (fun _ hw => (RI.of_row hw (.tail _ (.head _))).cell hjl)) rfl ?_
        refine WL.val (OV.assign rfl) rfl ?_
        refine WL.nil ?_
        refine WX.next ?_
        refine WC.region ?_
        refine WL.val (OV.move rfl) rfl ?_
        refine WL.val (OV.move rfl) rfl ?_
        refine WL.val (OV.move rfl) rfl ?_
        refine WL.val ((OV.lookup (enc := Value.int .i64) (kv := kvI m) (a := ls.getD j 0) (KeyLaw.int T.u3) T.u88 (by kernel_rfl) rfl rfl (fun _ hw => own_map (.tail _ (.tail _ (.head _))) _ hw)).cast (kvI_got m _)) rfl ?_
        refine WL.buildSlice1 T.u32 T.z3 T.zr3 rfl rfl rfl ?_
        intro b81
        refine WL.focus perm1 (WL.append (news := ints [((lk m (ls.getD j 0)).getD 0)]) rfl rfl T.apI (fun _ _ => own_src (.tail _ (.head _)) rfl) (ints_one _) ⟨by omega, by unfold maxLen; omega⟩ rfl ?_)
        intro a82 c82
        refine WL.val (OV.assign rfl) rfl ?_
        refine WL.nil ?_
        refine WX.block_normal ?_
        refine WX.next ?_
        refine WC.region ?_
        first
        | (refine WL.val (OV.addI rfl rfl (by omega)) rfl ?_)
        | (refine WL.val (OV.add rfl rfl) rfl ?_)
        refine WL.val (OV.move rfl) rfl ?_
        refine WL.nil ?_
        have e : ((ls.take j).map fun c => (lk m c).getD 0) ++ [((lk m (ls.getD j 0)).getD 0)] = (ls.take (j + 1)).map fun c => (lk m c).getD 0 := by rw [take_snoc hjl, List.map_append, List.map_singleton]
        exact WX.round3 (j + 1) a82 c82 ⟨rfl, rfl, rfl, rfl, rfl, rfl, trivial⟩ (fun w' hw => ⟨by omega, by
          rw [← e, ints_append]
          exact (hw.perm perm1).drop⟩) (by show ls.length - (j + 1) < ls.length - j; omega)
      · try simp only [decide_eq_true_eq, decide_eq_false_iff_not, Bool.not_eq_true', Bool.not_eq_false'] at c74
        refine WC.exit ?_
        refine WX.then_exit ?_
        refine WX.then_exit ?_
        refine WX.block_hit ?_
        refine WX.next ?_
        refine WC.seq ?_
        refine WC.region ?_
        refine WL.val (OV.move rfl) rfl ?_
        refine WL.val (OV.move rfl) rfl ?_
        refine WL.val (OV.assign rfl) rfl ?_
        refine WL.val (OV.assign rfl) rfl ?_
        refine WL.val (OV.assign rfl) rfl ?_
        refine WL.nil ?_
        refine WX.next ?_
        refine WC.ret ?_
        have hjl : j = ls.length := by omega
        subst hjl
        rw [List.take_length]
        have hcl : cols.length = key.length := by omega
        have hqq : QI g.width (cols.zip key) m := by rwa [List.take_of_length_le (by rw [List.length_zip]; exact Nat.min_le_left _ _)] at hq
        refine WX.ret3 rfl rfl rfl rfl rfl (fun w' hw => ⟨la, lc, ka, kc, ls, ls.map fun c => (lk m c).getD 0, true, by rw [List.length_map], ?_, ?_⟩)
        · rw [hls]
          exact QR.good hcl hqq hc hk (by simpa [ksOf] using hmi)
        · show Turns [] [row 3 1 la ls.length lc (ints ls), row 3 1 ka (ls.map fun c => (lk m c).getD 0).length kc (ints (ls.map fun c => (lk m c).getD 0))] w w'
          rw [List.length_map]
          exact Hw.Sat.turned0 ((Hw.Sat.part (List.Sublist.cons_cons _ (List.Sublist.cons_cons _ (List.nil_sublist _))) hw).perm (List.Perm.swap _ _ _))

end Go.Proofs.YtijplknkpkmblaaGreatDoor
