/- Law DigestStream of the seat: for every input the law returns true, and each argument reads as it did, where what it reads is of bulk at most 1048576. -/
import Derived.Test.YtplebagdajdcnaaDoorCards
import Derived.Test.YtplebagdajdcnaaDoorTie
import Derived.Test.YtplebagdajdcnaaDoorChecked
import Derived.Test.YtplebagdajdcnaaDoorHwOpen
import Derived.Test.YtplebagdajdcnaaDoorP7
import Derived.Test.YtplebagdajdcnaaDoorP4
import Derived.WalkKit
import Derived.ProofKit
import Derived.OpenShut
import Derived.ShutString
import Derived.ChangeOld
import Derived.Below
import Derived.SizedLaws
import Derived.Lay
import Derived.LaidOnce
import Derived.SevenTiedAt
import Derived.Handy
import Derived.Deep.DeepHandedRow
namespace Go.Proofs.YtplebagdajdcnaaDoor.digestStream
open Go.ChangeShapes Go.WideShapes Go.ChangeAt Go.RowKit Go.Hw
open Go.ChangeMaps (open_string shut_string)
set_option linter.unusedVariables false
set_option linter.unusedSimpArgs false
theorem own : ownKnob Tryd.prog.godebug = none := by kernel_rfl
theorem laidOut : laidOutB Tryd.prog = true := by kernel_rfl
set_option maxRecDepth 100000 in
theorem lifted (os : Os) (started : os.Started) (H : Type) (enc : TypeId × Value → H) (F : Stop.Interp) :
    ReturnsInHanded {} Tryd.checked os 9 .any ((Rows.OpenSpec.upto Rows.digestStreamSpec).preRow enc Tryd.prog Tryd.f9 Rows.digestStreamUptoRow.domain false Rows.digestStreamUptoRow.laid) (((Rows.OpenSpec.upto Rows.digestStreamSpec).at F).post enc Tryd.prog Tryd.f9 false true false false) := by
  have hx : ∃ places, DataW.whole enc Tryd.prog (((World.laidAll Tryd.prog os Rows.digestStreamUptoRow.laid).forCall (fun _ _ => 0) ⟨#[], #[.slice none 0 0, .slice none 0 0, .slice none 0 0, .int .i64 0], []⟩).memory) Tryd.f9.params.toList Rows.digestStreamSpec.vars false #[.slice none 0 0, .slice none 0 0, .slice none 0 0, .int .i64 0].toList 8 = some ([.nil, .nil, .nil, .lit (.int .i64 0)], [], places) := ⟨[], by kernel_rfl⟩
  obtain ⟨places, hx⟩ := hx
  refine returnsInHanded_of_row (C := Tryd.checked) (s := Rows.OpenSpec.upto Rows.digestStreamSpec) own started (by kernel_rfl) Tryd.func9
    (witness_row_at (enc := enc) (C := Tryd.checked) false (World.laidAll Tryd.prog os Rows.digestStreamUptoRow.laid) #[.slice none 0 0, .slice none 0 0, .slice none 0 0, .int .i64 0] (World.laidAll_os _ _ _) (by kernel_rfl) (by kernel_rfl) (by kernel_rfl)
      (OpenSpec.preRow_of_cond 8 hx (by kernel_rfl) (fun k hk => by cases hk; kernel_rfl) (by kernel_rfl) (by rw [MakeChecks.laidMetH_plain _ _ _ (by kernel_rfl)]; exact laidMet_laidAll _ (by kernel_rfl) (by kernel_rfl)))) ?_
  intro W base args ds gs before hval0 hW hcnd hcond0 hsz0 hL0 _ _
  have hbk : Rows.uptoBulkAll (ds ++ gs) ≤ 1048576 := of_decide_eq_true (hcond0 _ rfl)
  have hsz : (DataW.weightsEach Tryd.prog (Tryd.f9.params.toList ++ Rows.digestStreamSpec.plain.varTypes Tryd.prog) (ds ++ gs)).all (· ≤ reachBytes) = true := hsz0
  have hval : ∀ (j : Nat) t v, Tryd.f9.params[j]? = some t → args[j]? = some v → Value.okWide Tryd.prog W .any base t v := hval0
  have hW' := hW
  obtain ⟨p, q, hA0, hV, rfl, hfz, hnd⟩ := hW
  have hA : DataW.TrodAll enc Tryd.prog W 0 (fun _ => true) true Tryd.f9.params.toList args.toList ds p := hA0
  rw [Tryd.params9] at hA hval hsz
  obtain ⟨v0, vs0, d0, ds0, p0, q0, hargs, rfl, rfl, h0, r0⟩ := trodAll_cons hA
  obtain ⟨v1, vs1, d1, ds1, p1, q1, rfl, rfl, rfl, h1, r1⟩ := trodAll_cons r0
  obtain ⟨v2, vs2, d2, ds2, p2, q2, rfl, rfl, rfl, h2, r2⟩ := trodAll_cons r1
  obtain ⟨v3, vs3, d3, ds3, p3, q3, rfl, rfl, rfl, h3, r3⟩ := trodAll_cons r2
  obtain ⟨rfl, rfl, rfl⟩ := trodAll_nil r3
  obtain rfl : args = #[v0, v1, v2, v3] := by cases args; simp_all
  obtain ⟨rfl, rfl⟩ := trodVars_none hV
  have hL : laidMetH Tryd.prog Rows.digestStreamUptoRow.laid W := hL0
  rw [MakeChecks.laidMetH_plain _ _ _ (by kernel_rfl)] at hL
  obtain ⟨ps, ⟨g0, t0, cs0, fuel0, lp0, lq0, hg0, ht0, hv0, hd0, ⟨g1, t1, cs1, fuel1, lp1, lq1, hg1, ht1, hv1, hd1, _, _⟩, _⟩, _, _⟩ := hL
  obtain rfl := Option.some.inj ((show Tryd.prog.globalNamed "hearsay/digest.rounds" = some 3 by kernel_rfl).symm.trans hg0)
  obtain rfl := Option.some.inj ((show (Tryd.prog.globals[3]?).map (·.type) = some 72 by kernel_rfl).symm.trans ht0)
  have hw0 := trod_words (l := kW) Tryd.underlying72 Tryd.underlying58 (by kernel_rfl) (by kernel_rfl) hd0
  have dk : Tab W 3 kW := fun j hj => by rw [World.var?_cell (show Tryd.prog.globalNamed "hearsay/digest.rounds" = some 3 by kernel_rfl) hv0 j, ← Array.getElem?_toList, hw0]; exact w32s_getD _ hj
  obtain rfl := Option.some.inj ((show Tryd.prog.globalNamed "hearsay/digest.first" = some 1 by kernel_rfl).symm.trans hg1)
  obtain rfl := Option.some.inj ((show (Tryd.prog.globals[1]?).map (·.type) = some 69 by kernel_rfl).symm.trans ht1)
  have hw1 := trod_words (l := h0W) Tryd.underlying69 Tryd.underlying58 (by kernel_rfl) (by kernel_rfl) hd1
  have df : Tab W 1 h0W := fun j hj => by rw [World.var?_cell (show Tryd.prog.globalNamed "hearsay/digest.first" = some 1 by kernel_rfl) hv1 j, ← Array.getElem?_toList, hw1]; exact w32s_getD _ hj
  have k0 := h0
  have lt0 : ∀ x ∈ p0, x.block < W.heap.size := by obtain ⟨m, hm⟩ := k0; exact DataW.trod_lt m _ _ _ hm
  obtain ⟨a0, n0, c0, l0, rfl, rl0, nc0, cm0, dd0⟩ := open_bytess Tryd.underlying29 Tryd.underlying22 Tryd.underlying5 (by kernel_rfl) (by kernel_rfl) (hval 0 29 v0 rfl rfl) h0
  have bk0 := bulk_of dd0
  have k1 := h1
  have lt1 : ∀ x ∈ p1, x.block < W.heap.size := by obtain ⟨m, hm⟩ := k1; exact DataW.trod_lt m _ _ _ hm
  obtain ⟨a1, n1, c1, l1, rfl, rl1, nc1, cm1, dd1⟩ := open_bytess Tryd.underlying29 Tryd.underlying22 Tryd.underlying5 (by kernel_rfl) (by kernel_rfl) (hval 1 29 v1 rfl rfl) h1
  have bk1 := bulk_of dd1
  have k2 := h2
  have lt2 : ∀ x ∈ p2, x.block < W.heap.size := by obtain ⟨m, hm⟩ := k2; exact DataW.trod_lt m _ _ _ hm
  obtain ⟨a2, n2, c2, l2, rfl, rl2, nc2, cm2, dd2⟩ := open_bytess Tryd.underlying29 Tryd.underlying22 Tryd.underlying5 (by kernel_rfl) (by kernel_rfl) (hval 2 29 v2 rfl rfl) h2
  have bk2 := bulk_of dd2
  have k3 := h3
  have lt3 : ∀ x ∈ p3, x.block < W.heap.size := by obtain ⟨m, hm⟩ := k3; exact DataW.trod_lt m _ _ _ hm
  obtain ⟨a3, rfl, rfl, rfl, w3⟩ := open_int Tryd.underlying3 (hval 3 3 v3 rfl rfl) h3
  simp only [List.cons_append, List.nil_append, List.append_nil, Rows.uptoBulkAll, Rows.uptoBulk] at hbk
  have hln0 := rl0.1
  have hln1 := rl1.1
  have hln2 := rl2.1
  clear hA0 hval0 hsz0 hsz
  refine (stream_calls l0 l1 l2 a0 a1 a2 n0 n1 n2 c0 c1 c2 a3 (by simpa [Lit.wf, IntKind.min, IntKind.max, IntKind.signed, IntKind.bits] using w3) (by omega) (by omega) (by omega) (by omega) (by omega) (by omega) W rl0 rl1 rl2 df dk).mono fun e W' ⟨he, fr⟩ => ?_
  have bel := fr.below
  subst he
  exact ⟨_, rfl, _, _, _, [], _, [], hW', trodAll_mk1 (shut_bool Tryd.underlying4 _), (trodAll_cons_mk (Below.trod laidOut (by kernel_rfl) (of_decide_eq_true (by kernel_rfl)) k0 bel lt0) (trodAll_cons_mk (Below.trod laidOut (by kernel_rfl) (of_decide_eq_true (by kernel_rfl)) k1 bel lt1) (trodAll_cons_mk (Below.trod laidOut (by kernel_rfl) (of_decide_eq_true (by kernel_rfl)) k2 bel lt2) (trodAll_cons_mk (Below.trod laidOut (by kernel_rfl) (of_decide_eq_true (by kernel_rfl)) k3 bel lt3) trodAll_mk0)))), rfl, bel.frame _, fun h => by cases h⟩
theorem over : Rows.digestStreamUptoRow.holds Tryd.pinned (Rows.OpenSpec.upto Rows.digestStreamSpec) :=
  OpenClaim.holds_of_cond 9 Tryd.f9 rfl rfl rfl rfl rfl rfl rfl ⟨rfl, rfl, rfl, rfl, rfl⟩ rfl rfl rfl rfl rfl (by kernel_rfl) Tryd.func9 (by kernel_rfl)
    (of_decide_eq_true (by kernel_rfl)) (by unfold Func.isWrapper; first | (rw [if_pos (by decide +kernel)]; kernel_rfl) | (rw [if_neg (by decide +kernel)]; exact ⟨rfl, rfl⟩))
    (fun os started H enc _ F => by rw [OpenClaim.pre_eq_preRow]; exact lifted os started H enc F)
theorem card : Claim7.holds Tryd.pinned (.plain (Rows.OpenSpec.upto Rows.digestStreamSpec)) Rows.digestStreamUptoCard :=
  Claim7.holds_tied_plain_at .later [] [.data, .data] true (true, "1e40df20eaeabb810a31c3e39d09af7708ed1bb94eca4e888d004f76d2de4e8c") false over (fun _ h => by cases h) (by kernel_rfl) (fun _ h => by cases h) digestStreamUpto_row_tie rfl ⟨rfl, rfl⟩ (by kernel_rfl) rfl
    (fun f fn hf hfn => by
      obtain rfl : f = 9 := Option.some.inj ((show Tryd.prog.funcNamed "hearsay/hearsaylaw01.DigestStream" = some 9 by kernel_rfl).symm.trans hf) |>.symm
      obtain rfl : fn = Tryd.f9 := (Option.some.inj (Tryd.func9.symm.trans hfn)).symm
      exact ⟨by kernel_rfl, fun j t ht => by
        rw [Tryd.params9] at ht
        have hm : t ∈ [29, 29, 29, 3] := by simpa using Array.mem_of_getElem? ht
        have hall : ([29, 29, 29, 3].all fun u => !Tryd.prog.wantsStandIn u) = true := by kernel_rfl
        exact (show Tryd.prog.wantsStandIn t = false by simpa using List.all_eq_true.1 hall t hm)⟩)
    (by kernel_rfl)
end Go.Proofs.YtplebagdajdcnaaDoor.digestStream
namespace Go.Proofs.YtplebagdajdcnaaDoor
theorem digestStreamUptoCard_holds : Rows.DigestStreamUptoCardSaid := digestStream.card
#print axioms digestStreamUptoCard_holds
end Go.Proofs.YtplebagdajdcnaaDoor
