/- Law DigestHashers of the seat: for every input the law returns true, and each argument reads as it did, where what it reads is of bulk at most 1048576. -/
import Derived.Test.YtplebagdajdcnaaDoorCards
import Derived.Test.YtplebagdajdcnaaDoorTie
import Derived.Test.YtplebagdajdcnaaDoorChecked
import Derived.Test.YtplebagdajdcnaaDoorHwOpen
import Derived.Test.YtplebagdajdcnaaDoorH3
import Derived.Test.YtplebagdajdcnaaDoorP4
import Derived.WalkKit
import Derived.ProofKit
import Derived.OpenShut
import Derived.ShutString
import Derived.ChangeOld
import Derived.Below
import Derived.SizedLaws
import Derived.Lay
import Derived.LaidOnce
import Derived.SevenTiedAt
import Derived.Handy
import Derived.Deep.DeepHandedRow
namespace Go.Proofs.YtplebagdajdcnaaDoor.digestHashers
open Go.ChangeShapes Go.WideShapes Go.ChangeAt Go.RowKit Go.Hw
open Go.ChangeMaps (open_string shut_string)
set_option linter.unusedVariables false
set_option linter.unusedSimpArgs false
theorem own : ownKnob Tryd.prog.godebug = none := by kernel_rfl
theorem laidOut : laidOutB Tryd.prog = true := by kernel_rfl
set_option maxRecDepth 100000 in
theorem lifted (os : Os) (started : os.Started) (H : Type) (enc : TypeId × Value → H) (F : Stop.Interp) :
    ReturnsInHanded {} Tryd.checked os 8 .any ((Rows.OpenSpec.upto Rows.digestHashersSpec).preRow enc Tryd.prog Tryd.f8 Rows.digestHashersUptoRow.domain false Rows.digestHashersUptoRow.laid) (((Rows.OpenSpec.upto Rows.digestHashersSpec).at F).post enc Tryd.prog Tryd.f8 false true false false) := by
  have hx : ∃ places, DataW.whole enc Tryd.prog (((World.laidAll Tryd.prog os Rows.digestHashersUptoRow.laid).forCall (fun _ _ => 0) ⟨#[], #[.slice none 0 0], []⟩).memory) Tryd.f8.params.toList Rows.digestHashersSpec.vars false #[.slice none 0 0].toList 8 = some ([.nil], [], places) := ⟨[], by kernel_rfl⟩
  obtain ⟨places, hx⟩ := hx
  refine returnsInHanded_of_row (C := Tryd.checked) (s := Rows.OpenSpec.upto Rows.digestHashersSpec) own started (by kernel_rfl) Tryd.func8
    (witness_row_at (enc := enc) (C := Tryd.checked) false (World.laidAll Tryd.prog os Rows.digestHashersUptoRow.laid) #[.slice none 0 0] (World.laidAll_os _ _ _) (by kernel_rfl) (by kernel_rfl) (by kernel_rfl)
      (OpenSpec.preRow_of_cond 8 hx (by kernel_rfl) (fun k hk => by cases hk; kernel_rfl) (by kernel_rfl) (by rw [MakeChecks.laidMetH_plain _ _ _ (by kernel_rfl)]; exact laidMet_laidAll _ (by kernel_rfl) (by kernel_rfl)))) ?_
  intro W base args ds gs before hval0 hW hcnd hcond0 hsz0 hL0 _ _
  have hbk : Rows.uptoBulkAll (ds ++ gs) ≤ 1048576 := of_decide_eq_true (hcond0 _ rfl)
  have hsz : (DataW.weightsEach Tryd.prog (Tryd.f8.params.toList ++ Rows.digestHashersSpec.plain.varTypes Tryd.prog) (ds ++ gs)).all (· ≤ reachBytes) = true := hsz0
  have hval : ∀ (j : Nat) t v, Tryd.f8.params[j]? = some t → args[j]? = some v → Value.okWide Tryd.prog W .any base t v := hval0
  have hW' := hW
  obtain ⟨p, q, hA0, hV, rfl, hfz, hnd⟩ := hW
  have hA : DataW.TrodAll enc Tryd.prog W 0 (fun _ => true) true Tryd.f8.params.toList args.toList ds p := hA0
  rw [Tryd.params8] at hA hval hsz
  obtain ⟨v0, vs0, d0, ds0, p0, q0, hargs, rfl, rfl, h0, r0⟩ := trodAll_cons hA
  obtain ⟨rfl, rfl, rfl⟩ := trodAll_nil r0
  obtain rfl : args = #[v0] := by cases args; simp_all
  obtain ⟨rfl, rfl⟩ := trodVars_none hV
  have hL : laidMetH Tryd.prog Rows.digestHashersUptoRow.laid W := hL0
  rw [MakeChecks.laidMetH_plain _ _ _ (by kernel_rfl)] at hL
  obtain ⟨ps, ⟨g0, t0, cs0, fuel0, lp0, lq0, hg0, ht0, hv0, hd0, ⟨g1, t1, cs1, fuel1, lp1, lq1, hg1, ht1, hv1, hd1, ⟨g2, t2, cs2, fuel2, lp2, lq2, hg2, ht2, hv2, hd2, ⟨g3, t3, cs3, fuel3, lp3, lq3, hg3, ht3, hv3, hd3, _, _⟩, _⟩, _⟩, _⟩, _, _⟩ := hL
  obtain rfl := Option.some.inj ((show Tryd.prog.globalNamed "hearsay/hearsayref01.rounds" = some 2 by kernel_rfl).symm.trans hg0)
  obtain rfl := Option.some.inj ((show (Tryd.prog.globals[2]?).map (·.type) = some 72 by kernel_rfl).symm.trans ht0)
  have hw0 := trod_words (l := kW) Tryd.underlying72 Tryd.underlying58 (by kernel_rfl) (by kernel_rfl) hd0
  have rk : Tab W 2 kW := fun j hj => by rw [World.var?_cell (show Tryd.prog.globalNamed "hearsay/hearsayref01.rounds" = some 2 by kernel_rfl) hv0 j, ← Array.getElem?_toList, hw0]; exact w32s_getD _ hj
  obtain rfl := Option.some.inj ((show Tryd.prog.globalNamed "hearsay/hearsayref01.first" = some 0 by kernel_rfl).symm.trans hg1)
  obtain rfl := Option.some.inj ((show (Tryd.prog.globals[0]?).map (·.type) = some 59 by kernel_rfl).symm.trans ht1)
  have hw1 := trod_words (l := h0W) Tryd.underlying59 Tryd.underlying58 (by kernel_rfl) (by kernel_rfl) hd1
  have rf : Tab W 0 h0W := fun j hj => by rw [World.var?_cell (show Tryd.prog.globalNamed "hearsay/hearsayref01.first" = some 0 by kernel_rfl) hv1 j, ← Array.getElem?_toList, hw1]; exact w32s_getD _ hj
  obtain rfl := Option.some.inj ((show Tryd.prog.globalNamed "hearsay/digest.rounds" = some 3 by kernel_rfl).symm.trans hg2)
  obtain rfl := Option.some.inj ((show (Tryd.prog.globals[3]?).map (·.type) = some 72 by kernel_rfl).symm.trans ht2)
  have hw2 := trod_words (l := kW) Tryd.underlying72 Tryd.underlying58 (by kernel_rfl) (by kernel_rfl) hd2
  have dk : Tab W 3 kW := fun j hj => by rw [World.var?_cell (show Tryd.prog.globalNamed "hearsay/digest.rounds" = some 3 by kernel_rfl) hv2 j, ← Array.getElem?_toList, hw2]; exact w32s_getD _ hj
  obtain rfl := Option.some.inj ((show Tryd.prog.globalNamed "hearsay/digest.first" = some 1 by kernel_rfl).symm.trans hg3)
  obtain rfl := Option.some.inj ((show (Tryd.prog.globals[1]?).map (·.type) = some 69 by kernel_rfl).symm.trans ht3)
  have hw3 := trod_words (l := h0W) Tryd.underlying69 Tryd.underlying58 (by kernel_rfl) (by kernel_rfl) hd3
  have df : Tab W 1 h0W := fun j hj => by rw [World.var?_cell (show Tryd.prog.globalNamed "hearsay/digest.first" = some 1 by kernel_rfl) hv3 j, ← Array.getElem?_toList, hw3]; exact w32s_getD _ hj
  have k0 := h0
  have lt0 : ∀ x ∈ p0, x.block < W.heap.size := by obtain ⟨m, hm⟩ := k0; exact DataW.trod_lt m _ _ _ hm
  obtain ⟨a0, n0, c0, l0, rfl, rl0, nc0, dd0⟩ := open_ops (hval 0 40 v0 rfl rfl) h0
  have bk0 := bulk_script dd0
  simp only [List.cons_append, List.nil_append, List.append_nil, Rows.uptoBulkAll, Rows.uptoBulk] at hbk
  have hln0 := rl0.1
  clear hA0 hval0 hsz0 hsz
  refine (hashers_calls l0 a0 n0 c0 (by omega) (by omega) W rl0 ⟨rf, df, rk, dk⟩).mono fun e W' ⟨he, fr⟩ => ?_
  have bel := fr.below
  subst he
  exact ⟨_, rfl, _, _, _, [], _, [], hW', trodAll_mk1 (shut_bool Tryd.underlying4 _), (trodAll_cons_mk (Below.trod laidOut (by kernel_rfl) (of_decide_eq_true (by kernel_rfl)) k0 bel lt0) trodAll_mk0), rfl, bel.frame _, fun h => by cases h⟩
theorem over : Rows.digestHashersUptoRow.holds Tryd.pinned (Rows.OpenSpec.upto Rows.digestHashersSpec) :=
  OpenClaim.holds_of_cond 8 Tryd.f8 rfl rfl rfl rfl rfl rfl rfl ⟨rfl, rfl, rfl, rfl, rfl⟩ rfl rfl rfl rfl rfl (by kernel_rfl) Tryd.func8 (by kernel_rfl)
    (of_decide_eq_true (by kernel_rfl)) (by unfold Func.isWrapper; first | (rw [if_pos (by decide +kernel)]; kernel_rfl) | (rw [if_neg (by decide +kernel)]; exact ⟨rfl, rfl⟩))
    (fun os started H enc _ F => by rw [OpenClaim.pre_eq_preRow]; exact lifted os started H enc F)
theorem card : Claim7.holds Tryd.pinned (.plain (Rows.OpenSpec.upto Rows.digestHashersSpec)) Rows.digestHashersUptoCard :=
  Claim7.holds_tied_plain_at .later [] [.data, .data, .data, .data] true (true, "1e40df20eaeabb810a31c3e39d09af7708ed1bb94eca4e888d004f76d2de4e8c") false over (fun _ h => by cases h) (by kernel_rfl) (fun _ h => by cases h) digestHashersUpto_row_tie rfl ⟨rfl, rfl⟩ (by kernel_rfl) rfl
    (fun f fn hf hfn => by
      obtain rfl : f = 8 := Option.some.inj ((show Tryd.prog.funcNamed "hearsay/hearsaylaw01.DigestHashers" = some 8 by kernel_rfl).symm.trans hf) |>.symm
      obtain rfl : fn = Tryd.f8 := (Option.some.inj (Tryd.func8.symm.trans hfn)).symm
      exact ⟨by kernel_rfl, fun j t ht => by
        rw [Tryd.params8] at ht
        have hm : t ∈ [40] := by simpa using Array.mem_of_getElem? ht
        have hall : ([40].all fun u => !Tryd.prog.wantsStandIn u) = true := by kernel_rfl
        exact (show Tryd.prog.wantsStandIn t = false by simpa using List.all_eq_true.1 hall t hm)⟩)
    (by kernel_rfl)
end Go.Proofs.YtplebagdajdcnaaDoor.digestHashers
namespace Go.Proofs.YtplebagdajdcnaaDoor
theorem digestHashersUptoCard_holds : Rows.DigestHashersUptoCardSaid := digestHashers.card
#print axioms digestHashersUptoCard_holds
end Go.Proofs.YtplebagdajdcnaaDoor
