/- Law DigestKeyed of the seat: for every input the law returns true, and each argument reads as it did. -/
import Derived.Test.YtplebagdajdcnaaDoorCards
import Derived.Test.YtplebagdajdcnaaDoorTie
import Derived.Test.YtplebagdajdcnaaDoorChecked
import Derived.Test.YtplebagdajdcnaaDoorHwOpen
import Derived.Test.YtplebagdajdcnaaDoorL4
import Derived.WalkKit
import Derived.ProofKit
import Derived.OpenShut
import Derived.ShutString
import Derived.ChangeOld
import Derived.Below
import Derived.SizedLaws
import Derived.Lay
import Derived.LaidOnce
import Derived.SevenTiedAt
import Derived.Handy
namespace Go.Proofs.YtplebagdajdcnaaDoor.digestKeyed
open Go.ChangeShapes Go.WideShapes Go.ChangeAt Go.RowKit Go.Hw
open Go.ChangeMaps (open_string shut_string)
set_option linter.unusedVariables false
set_option linter.unusedSimpArgs false
theorem own : ownKnob Tryd.prog.godebug = none := by kernel_rfl
theorem laidOut : laidOutB Tryd.prog = true := by kernel_rfl
set_option maxRecDepth 100000 in
theorem lifted (os : Os) (started : os.Started) (H : Type) (enc : TypeId × Value → H) :
    ReturnsInHanded {} Tryd.checked os 6 .any (fun w args => (Rows.digestKeyedSpec.pre enc Tryd.prog Tryd.f6 Rows.digestKeyedRow.domain false w args ∧ laidMetH Tryd.prog Rows.digestKeyedRow.laid w) ∧ sizedMet enc Tryd.prog Tryd.f6 (OpenSpec.ofChange Rows.digestKeyedSpec) false w args) (Rows.digestKeyedSpec.post enc Tryd.prog Tryd.f6 false true false false) := by
  refine returnsInHanded_of_change_and (C := Tryd.checked) (X := fun w _ => laidMetH Tryd.prog Rows.digestKeyedRow.laid w) (fun _ _ _ hh h => h.of_heap hh) own started (by kernel_rfl) Tryd.func6
    (ChangeSpec.witness_shaped (enc := enc) (C := Tryd.checked) (os := os) (X := fun w _ => laidMetH Tryd.prog Rows.digestKeyedRow.laid w) false (World.laidAll Tryd.prog os Rows.digestKeyedRow.laid) #[.slice none 0 0, .slice none 0 0] 8 (World.laidAll_os _ _ _)
      (World.shaped_of_ZipB (by kernel_rfl) (by kernel_rfl)) (by kernel_rfl) (by kernel_rfl) (by kernel_rfl)
      (by rw [MakeChecks.laidMetH_plain _ _ _ (by kernel_rfl)]; exact laidMet_laidAll _ (by kernel_rfl) (by kernel_rfl))) ?_
  intro W base args ds gs before hval0 hW hcnd hsz0 hL0 _
  have hsz : (DataW.weightsEach Tryd.prog (Tryd.f6.params.toList ++ Rows.digestKeyedSpec.plain.varTypes Tryd.prog) (ds ++ gs)).all (· ≤ reachBytes) = true := hsz0
  have hval : ∀ (j : Nat) t v, Tryd.f6.params[j]? = some t → args[j]? = some v → Value.okWide Tryd.prog W .any base t v := hval0
  have hW' := hW
  obtain ⟨p, q, hA0, hV, rfl, hfz, hnd⟩ := hW
  have hA : DataW.TrodAll enc Tryd.prog W 0 (fun _ => true) true Tryd.f6.params.toList args.toList ds p := hA0
  rw [Tryd.params6] at hA hval hsz
  obtain ⟨v0, vs0, d0, ds0, p0, q0, hargs, rfl, rfl, h0, r0⟩ := trodAll_cons hA
  obtain ⟨v1, vs1, d1, ds1, p1, q1, rfl, rfl, rfl, h1, r1⟩ := trodAll_cons r0
  obtain ⟨rfl, rfl, rfl⟩ := trodAll_nil r1
  obtain rfl : args = #[v0, v1] := by cases args; simp_all
  obtain ⟨rfl, rfl⟩ := trodVars_none hV
  have hL : laidMetH Tryd.prog Rows.digestKeyedRow.laid W := hL0
  rw [MakeChecks.laidMetH_plain _ _ _ (by kernel_rfl)] at hL
  obtain ⟨ps, ⟨g0, t0, cs0, fuel0, lp0, lq0, hg0, ht0, hv0, hd0, ⟨g1, t1, cs1, fuel1, lp1, lq1, hg1, ht1, hv1, hd1, _, _⟩, _⟩, _, _⟩ := hL
  obtain rfl := Option.some.inj ((show Tryd.prog.globalNamed "hearsay/digest.rounds" = some 3 by kernel_rfl).symm.trans hg0)
  obtain rfl := Option.some.inj ((show (Tryd.prog.globals[3]?).map (·.type) = some 72 by kernel_rfl).symm.trans ht0)
  have hw0 := trod_words (l := kW) Tryd.underlying72 Tryd.underlying58 (by kernel_rfl) (by kernel_rfl) hd0
  have dk : Tab W 3 kW := fun j hj => by rw [World.var?_cell (show Tryd.prog.globalNamed "hearsay/digest.rounds" = some 3 by kernel_rfl) hv0 j, ← Array.getElem?_toList, hw0]; exact w32s_getD _ hj
  obtain rfl := Option.some.inj ((show Tryd.prog.globalNamed "hearsay/digest.first" = some 1 by kernel_rfl).symm.trans hg1)
  obtain rfl := Option.some.inj ((show (Tryd.prog.globals[1]?).map (·.type) = some 69 by kernel_rfl).symm.trans ht1)
  have hw1 := trod_words (l := h0W) Tryd.underlying69 Tryd.underlying58 (by kernel_rfl) (by kernel_rfl) hd1
  have df : Tab W 1 h0W := fun j hj => by rw [World.var?_cell (show Tryd.prog.globalNamed "hearsay/digest.first" = some 1 by kernel_rfl) hv1 j, ← Array.getElem?_toList, hw1]; exact w32s_getD _ hj
  have k0 := h0
  have lt0 : ∀ x ∈ p0, x.block < W.heap.size := by obtain ⟨m, hm⟩ := k0; exact DataW.trod_lt m _ _ _ hm
  obtain ⟨a0, m0, c0, l0, rfl, rb0, mc0, cm0, dd0⟩ := open_bytes Tryd.underlying22 Tryd.underlying5 (by kernel_rfl) (hval 0 22 v0 rfl rfl) h0
  have w0 : m0 ≤ 140737488351232 := sized_bytes hsz (j := 0) (t := 22) rfl rfl Tryd.underlying22 (by kernel_rfl) dd0
  have k1 := h1
  have lt1 : ∀ x ∈ p1, x.block < W.heap.size := by obtain ⟨m, hm⟩ := k1; exact DataW.trod_lt m _ _ _ hm
  obtain ⟨a1, m1, c1, l1, rfl, rb1, mc1, cm1, dd1⟩ := open_bytes Tryd.underlying22 Tryd.underlying5 (by kernel_rfl) (hval 1 22 v1 rfl rfl) h1
  have w1 : m1 ≤ 140737488351232 := sized_bytes hsz (j := 1) (t := 22) rfl rfl Tryd.underlying22 (by kernel_rfl) dd1
  clear hA0 hval0 hsz0 hsz
  refine (keyed_calls l0 l1 a0 a1 m0 c0 m1 c1 mc0 mc1 w0 w1 W rb0 rb1 df dk).mono fun e W' ⟨he, fr⟩ => ?_
  have bel := fr.below
  subst he
  exact ⟨_, rfl, _, _, _, [], _, [], hW', trodAll_mk1 (shut_bool Tryd.underlying4 _), (trodAll_cons_mk (Below.trod laidOut (by kernel_rfl) (of_decide_eq_true (by kernel_rfl)) k0 bel lt0) (trodAll_cons_mk (Below.trod laidOut (by kernel_rfl) (of_decide_eq_true (by kernel_rfl)) k1 bel lt1) trodAll_mk0)), rfl, bel.frame _, fun h => by cases h⟩
theorem over : Rows.digestKeyedRow.holds Tryd.pinned (OpenSpec.ofChange Rows.digestKeyedSpec) :=
  OpenClaim.holds_of_wide 6 Tryd.f6 rfl rfl rfl rfl rfl rfl rfl ⟨rfl, rfl, rfl, rfl, rfl⟩ rfl rfl rfl rfl rfl (by kernel_rfl) Tryd.func6 (by kernel_rfl)
    (of_decide_eq_true (by kernel_rfl)) (by unfold Func.isWrapper; first | (rw [if_pos (by decide +kernel)]; kernel_rfl) | (rw [if_neg (by decide +kernel)]; exact ⟨rfl, rfl⟩))
    (fun os started H enc _ => lifted os started H enc)
theorem card : Claim7.holds Tryd.pinned (.plain (OpenSpec.ofChange Rows.digestKeyedSpec)) Rows.digestKeyedCard :=
  Claim7.holds_tied_plain_at .later [] [.data, .data] true (true, "1e40df20eaeabb810a31c3e39d09af7708ed1bb94eca4e888d004f76d2de4e8c") false over (fun _ h => by cases h) (by kernel_rfl) (fun _ h => by cases h) digestKeyed_row_tie rfl ⟨rfl, rfl⟩ (by kernel_rfl) rfl
    (fun f fn hf hfn => by
      obtain rfl : f = 6 := Option.some.inj ((show Tryd.prog.funcNamed "hearsay/hearsaylaw01.DigestKeyed" = some 6 by kernel_rfl).symm.trans hf) |>.symm
      obtain rfl : fn = Tryd.f6 := (Option.some.inj (Tryd.func6.symm.trans hfn)).symm
      exact ⟨by kernel_rfl, fun j t ht => by
        rw [Tryd.params6] at ht
        have hm : t ∈ [22, 22] := by simpa using Array.mem_of_getElem? ht
        have hall : ([22, 22].all fun u => !Tryd.prog.wantsStandIn u) = true := by kernel_rfl
        exact (show Tryd.prog.wantsStandIn t = false by simpa using List.all_eq_true.1 hall t hm)⟩)
    (by kernel_rfl)
end Go.Proofs.YtplebagdajdcnaaDoor.digestKeyed
namespace Go.Proofs.YtplebagdajdcnaaDoor
theorem digestKeyedCard_holds : Rows.DigestKeyedCardSaid := digestKeyed.card
#print axioms digestKeyedCard_holds
end Go.Proofs.YtplebagdajdcnaaDoor
