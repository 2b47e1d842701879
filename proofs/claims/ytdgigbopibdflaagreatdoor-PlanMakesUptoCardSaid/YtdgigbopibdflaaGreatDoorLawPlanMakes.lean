/- Law PlanMakes of the seat: for every input the law returns true, and each argument reads as it did, where what it reads is of bulk at most 1048576. -/
import Derived.Test.YtdgigbopibdflaaGreatDoorCards
import Derived.Test.YtdgigbopibdflaaGreatDoorTie
import Derived.Test.YtdgigbopibdflaaGreatDoorChecked
import Derived.Test.YtdgigbopibdflaaGreatDoorMg18
import Derived.Test.YtdgigbopibdflaaGreatDoorMg19
import Derived.Test.YtdgigbopibdflaaGreatDoorMg20
import Derived.WalkKit
import Derived.ProofKit
import Derived.OpenShut
import Derived.ShutString
import Derived.ChangeOld
import Derived.Below
import Derived.SizedLaws
import Derived.Lay
import Derived.LaidOnce
import Derived.SevenTiedAt
import Derived.Handy
import Derived.Deep.DeepHandedRow
import Derived.LaidMore
import Derived.Deep.DeepWitnessRowRef
import Derived.LaidLaws
import Derived.Test.YtdgigbopibdflaaGreatDoorHxA
namespace Go.Proofs.YtdgigbopibdflaaGreatDoor.planMakes
open Go.ChangeShapes Go.WideShapes Go.ChangeAt Go.RowKit Go.Hw
open Go.ChangeMaps (open_string shut_string)
set_option linter.unusedVariables false
set_option linter.unusedSimpArgs false
theorem own:ownKnob Tryz.prog.godebug=none:=by kernel_rfl
theorem laidOut:laidOutB Tryz.prog=true:=by kernel_rfl
set_option maxRecDepth 100000 in
theorem lifted (os:Os)(started:os.Started)(H:Type)(enc:TypeId × Value→H)(F:Stop.Interp):
  ReturnsInHanded {} Tryz.checked os 3 .any ((Rows.OpenSpec.upto Rows.planMakesSpec).preRow enc Tryz.prog Tryz.f3 Rows.planMakesUptoRow.domain false Rows.planMakesUptoRow.laid) (((Rows.OpenSpec.upto Rows.planMakesSpec).at F).post enc Tryz.prog Tryz.f3 false true false false):=by
 have hx:∃ places,DataW.whole enc Tryz.prog (((World.doorLaid Tryz.prog 40 os).forCall (fun _ _=>0) ⟨#[],#[.agg #[.int .i64 0,.int .i64 0,.string ByteArray.empty,.string ByteArray.empty,.slice none 0 0,.slice none 0 0,.slice none 0 0],.int .i64 0],[]⟩).memory) Tryz.f3.params.toList Rows.planMakesSpec.vars false #[.agg #[.int .i64 0,.int .i64 0,.string ByteArray.empty,.string ByteArray.empty,.slice none 0 0,.slice none 0 0,.slice none 0 0],.int .i64 0].toList 8=some ([.agg [.agg [.agg [.lit (.int .i64 0),.lit (.int .i64 0),.lit (.string [])],.lit (.string []),.nil],.nil,.nil],.lit (.int .i64 0)],[],places):=⟨[],by kernel_rfl⟩
 obtain ⟨places,hx⟩:=hx
 refine returnsInHanded_of_row (C:=Tryz.checked) (s:=Rows.OpenSpec.upto Rows.planMakesSpec) own started (by kernel_rfl) Tryz.func3
  (witness_row_atRef (enc:=enc) (C:=Tryz.checked) false (World.doorLaid Tryz.prog 40 os) #[.agg #[.int .i64 0,.int .i64 0,.string ByteArray.empty,.string ByteArray.empty,.slice none 0 0,.slice none 0 0,.slice none 0 0],.int .i64 0] rfl (by kernel_rfl) (by kernel_rfl) (by kernel_rfl)
   (OpenSpec.preRow_of_cond 8 hx (by kernel_rfl) (fun k hk=>by cases hk;kernel_rfl) (by kernel_rfl) (laidMetH_of_parts3 (fuel:=8) (laidMet_of_run' 8 (by kernel_rfl) (by kernel_rfl)) (by kernel_rfl) (by kernel_rfl)))) ?_
 intro W base args ds gs before hval0 hW hcnd hcond0 hsz0 hL0 _ _;have hbk:Rows.uptoBulkAll (ds++gs)≤1048576:=of_decide_eq_true (hcond0 _ rfl);have hsz:(DataW.weightsEach Tryz.prog (Tryz.f3.params.toList++Rows.planMakesSpec.plain.varTypes Tryz.prog) (ds++gs)).all (·≤reachBytes)=true:=hsz0;have hval:∀ (j:Nat) t v,Tryz.f3.params[j]?=some t→args[j]?=some v→Value.okWide Tryz.prog W .any base t v:=hval0;have hW':=hW;obtain ⟨p,q,hA0,hV,rfl,hfz,hnd⟩:=hW;have hA:DataW.TrodAll enc Tryz.prog W 0 (fun _=>true) true Tryz.f3.params.toList args.toList ds p:=hA0;rw [Tryz.params3] at hA hval hsz;obtain ⟨v0,vs0,d0,ds0,p0,q0,hargs,rfl,rfl,h0,r0⟩:=trodAll_cons hA;obtain ⟨v1,vs1,d1,ds1,p1,q1,rfl,rfl,rfl,h1,r1⟩:=trodAll_cons r0;obtain ⟨rfl,rfl,rfl⟩:=trodAll_nil r1;obtain rfl:args=#[v0,v1]:=by cases args;simp_all
 obtain ⟨rfl,rfl⟩:=trodVars_none hV;have k0:=h0;have lt0:∀ x∈p0,x.block<W.heap.size:=by obtain ⟨m,hm⟩:=k0;exact DataW.trod_lt m _ _ _ hm
 obtain ⟨l0,rfl,rr0,bk0⟩:=open_clause (hval 0 30 v0 rfl rfl) h0;have k1:=h1;have lt1:∀ x∈p1,x.block<W.heap.size:=by obtain ⟨m,hm⟩:=k1;exact DataW.trod_lt m _ _ _ hm
 obtain ⟨a1,rfl,rfl,rfl,w1⟩:=open_int Tryz.underlying3 (hval 1 3 v1 rfl rfl) h1;have hLH:laidMetH Tryz.prog Rows.planMakesUptoRow.laid W:=hL0;have hCk:Jfk W:=checks_laid rfl (hLH.funcs (n:="hearsay/clause.checks") yL);have hL:laidMet Tryz.prog [("hearsay/hearsayref03.behindTerm",Rows.laid_hearsay_hearsayref03_behindTerm),("hearsay/hearsayref03.behindTest",Rows.laid_hearsay_hearsayref03_behindTest),("math/bits.deBruijn32tab",Rows.laid_math_bits_deBruijn32tab),("math/bits.deBruijn64tab",Rows.laid_math_bits_deBruijn64tab),("internal/strconv.uint64pow10",Rows.laid_internal_strconv_uint64pow10),("hearsay/term.none",Rows.laid_hearsay_term_none)] W:=(show laidMet Tryz.prog _ W∧handlesMet Tryz.prog _ W from hLH).1;obtain ⟨ps,⟨g0,t0,cs0,fuel0,lp0,lq0,hg0,ht0,hv0,hd0,⟨g1,t1,cs1,fuel1,lp1,lq1,hg1,ht1,hv1,hd1,⟨g2,t2,cs2,fuel2,lp2,lq2,hg2,ht2,hv2,hd2,⟨g3,t3,cs3,fuel3,lp3,lq3,hg3,ht3,hv3,hd3,⟨g4,t4,cs4,fuel4,lp4,lq4,hg4,ht4,hv4,hd4,⟨g5,t5,cs5,fuel5,lp5,lq5,hg5,ht5,hv5,hd5,_,_⟩,_⟩,_⟩,_⟩,_⟩,_⟩,_,_⟩:=hL;obtain rfl:=xH ((show Tryz.prog.globalNamed "hearsay/hearsayref03.behindTerm"=some 2 by kernel_rfl).symm.trans hg0);obtain rfl:=xH ((show (Tryz.prog.globals[2]?).map (·.type)=some 23 by kernel_rfl).symm.trans ht0);obtain rfl:=xH ((show Tryz.prog.globalNamed "hearsay/hearsayref03.behindTest"=some 0 by kernel_rfl).symm.trans hg1);obtain rfl:=xH ((show (Tryz.prog.globals[0]?).map (·.type)=some 85 by kernel_rfl).symm.trans ht1);obtain rfl:=xH ((show Tryz.prog.globalNamed "hearsay/term.none"=some 1 by kernel_rfl).symm.trans hg5);obtain rfl:=xH ((show (Tryz.prog.globals[1]?).map (·.type)=some 23 by kernel_rfl).symm.trans ht5);have hB:Jdj W:=behind_laid (by kernel_rfl) hv0 hd0;have hT:Jfu W:=test_laid (by kernel_rfl) hv1 hd1;have hN:Jdi W:=none_laid (by kernel_rfl) hv5 hd5;simp only [List.cons_append,xW,xX,Rows.uptoBulkAll,Rows.uptoBulk] at hbk;have hcs:=clause_cs (g:=l0) (by omega);clear hA0 hval0 hsz0 hsz;refine (planMakes_calls l0 hcs a1 W hN hCk hB hT rr0).mono fun e W' ⟨he,fr⟩=>?_
 have bel:=fr.below;subst he;exact ⟨_,rfl,_,_,_,[],_,[],hW',trodAll_mk1 (shut_bool Tryz.underlying4 _),(trodAll_cons_mk (Below.trod laidOut (by kernel_rfl) (of_decide_eq_true (by kernel_rfl)) k0 bel lt0) (trodAll_cons_mk (Below.trod laidOut (by kernel_rfl) (of_decide_eq_true (by kernel_rfl)) k1 bel lt1) trodAll_mk0)),rfl,bel.frame _,fun h=>by cases h⟩
theorem cIn:(Rows.planMakesUptoRow.inPlace == Tryz.prog.inPlace 3)=true:=by kernel_rfl
theorem cUn:(Rows.planMakesUptoRow.unfollowed == Tryz.prog.unfollowed 3)=true:=by kernel_rfl
theorem cRe:(Rows.planMakesUptoRow.recurses == Tryz.prog.recurses 3)=true:=by kernel_rfl
theorem cNa:(Rows.planMakesUptoRow.named == Tryz.prog.varsNamed 3)=true:=by kernel_rfl
theorem closed:joinedFacts Tryz.prog 3 Tryz.f3 (Rows.OpenSpec.upto Rows.planMakesSpec).bare Rows.planMakesUptoRow=true:=by
 unfold joinedFacts;rw [cIn,cUn,cRe,cNa]
 kernel_rfl
theorem over:Rows.planMakesUptoRow.holds Tryz.pinned (Rows.OpenSpec.upto Rows.planMakesSpec):=
 OpenClaim.holds_of_cond 3 Tryz.f3 rfl rfl rfl rfl rfl rfl rfl ⟨rfl,rfl,rfl,rfl,rfl⟩ rfl rfl rfl rfl rfl (by kernel_rfl) Tryz.func3 closed
  (of_decide_eq_true (by kernel_rfl)) (by unfold Func.isWrapper;first | (rw [if_pos (by decide +kernel)];kernel_rfl) | (rw [if_neg (by decide +kernel)];exact ⟨rfl,rfl⟩))
  (fun os started H enc _ F=>by rw [OpenClaim.pre_eq_preRow];exact lifted os started H enc F)
theorem card:Claim7.holds Tryz.pinned (.plain (Rows.OpenSpec.upto Rows.planMakesSpec)) Rows.planMakesUptoCard:=
 Claim7.holds_tied_plain_at .later [] [.data,.data,.data,.data,.data,.data,.funcs] true (true,"f1f417ffa55ac0498e2adab01b29d37787fb90a20e4f4696b6e7156f1e25e397") false over (fun _ h=>by cases h) (by kernel_rfl) (fun _ h=>by cases h) planMakesUpto_row_tie rfl ⟨rfl,rfl⟩ (by kernel_rfl) rfl
  (fun f fn hf hfn=>by
   obtain rfl:f=3:=xH ((show Tryz.prog.funcNamed "hearsay/hearsaylaw09.PlanMakes"=some 3 by kernel_rfl).symm.trans hf) |>.symm
   obtain rfl:fn=Tryz.f3:=(xH (Tryz.func3.symm.trans hfn)).symm
   exact ⟨by kernel_rfl,fun j t ht=>by
    rw [Tryz.params3] at ht;have hm:t∈[30,3]:=by simpa using Array.mem_of_getElem? ht
    have hall:([30,3].all fun u=>!Tryz.prog.wantsStandIn u)=true:=by kernel_rfl
    exact (show Tryz.prog.wantsStandIn t=false by simpa using List.all_eq_true.1 hall t hm)⟩)
  (by kernel_rfl)
end Go.Proofs.YtdgigbopibdflaaGreatDoor.planMakes
namespace Go.Proofs.YtdgigbopibdflaaGreatDoor
theorem planMakesUptoCard_holds:Rows.PlanMakesUptoCardSaid:=planMakes.card
#print axioms planMakesUptoCard_holds
end Go.Proofs.YtdgigbopibdflaaGreatDoor
