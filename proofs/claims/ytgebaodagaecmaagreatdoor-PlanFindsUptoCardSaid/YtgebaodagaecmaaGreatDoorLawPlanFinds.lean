/- Law PlanFinds of the seat: for every input the law returns true, and each argument reads as it did, where what it reads is of bulk at most 1048576. -/
import Derived.Test.YtgebaodagaecmaaGreatDoorCards
import Derived.Test.YtgebaodagaecmaaGreatDoorTie
import Derived.Test.YtgebaodagaecmaaGreatDoorChecked
import Derived.Test.YtgebaodagaecmaaGreatDoorMg22
import Derived.Test.YtgebaodagaecmaaGreatDoorMg25
import Derived.WalkKit
import Derived.ProofKit
import Derived.OpenShut
import Derived.ShutString
import Derived.ChangeOld
import Derived.Below
import Derived.SizedLaws
import Derived.Lay
import Derived.LaidOnce
import Derived.SevenTiedAt
import Derived.Handy
import Derived.Deep.DeepHandedRow
import Derived.LaidMore
import Derived.Deep.DeepWitnessRowRef
import Derived.LaidLaws
import Derived.Test.YtgebaodagaecmaaGreatDoorHxA
namespace Go.Proofs.YtgebaodagaecmaaGreatDoor.planFinds
open Go.ChangeShapes Go.WideShapes Go.ChangeAt Go.RowKit Go.Hw
open Go.ChangeMaps (open_string shut_string)
set_option linter.unusedVariables false
set_option linter.unusedSimpArgs false
theorem own:ownKnob Tryz.prog.godebug=none:=by kernel_rfl
theorem laidOut:laidOutB Tryz.prog=true:=by kernel_rfl
set_option maxRecDepth 100000 in
theorem lifted (os:Os)(started:os.Started)(H:Type)(enc:TypeId × Value→H)(F:Stop.Interp):
  ReturnsInHanded {} Tryz.checked os 5 .any ((Rows.OpenSpec.upto Rows.planFindsSpec).preRow enc Tryz.prog Tryz.f5 Rows.planFindsUptoRow.domain false Rows.planFindsUptoRow.laid) (((Rows.OpenSpec.upto Rows.planFindsSpec).at F).post enc Tryz.prog Tryz.f5 false true false false):=by
 have hx:∃ places,DataW.whole enc Tryz.prog (((World.doorLaid Tryz.prog 40 os).forCall (fun _ _=>0) ⟨#[],#[.agg #[.slice none 0 0,.slice none 0 0,.slice none 0 0],.agg #[.int .i64 0,.int .i64 0,.string ByteArray.empty,.string ByteArray.empty,.slice none 0 0,.slice none 0 0,.slice none 0 0],.slice none 0 0],[]⟩).memory) Tryz.f5.params.toList Rows.planFindsSpec.vars false #[.agg #[.slice none 0 0,.slice none 0 0,.slice none 0 0],.agg #[.int .i64 0,.int .i64 0,.string ByteArray.empty,.string ByteArray.empty,.slice none 0 0,.slice none 0 0,.slice none 0 0],.slice none 0 0].toList 8=some ([.agg [.nil,.nil,.nil],.agg [.agg [.agg [.lit (.int .i64 0),.lit (.int .i64 0),.lit (.string [])],.lit (.string []),.nil],.nil,.nil],.nil],[],places):=⟨[],by kernel_rfl⟩
 obtain ⟨places,hx⟩:=hx
 refine returnsInHanded_of_row (C:=Tryz.checked) (s:=Rows.OpenSpec.upto Rows.planFindsSpec) own started (by kernel_rfl) Tryz.func5
  (witness_row_atRef (enc:=enc) (C:=Tryz.checked) false (World.doorLaid Tryz.prog 40 os) #[.agg #[.slice none 0 0,.slice none 0 0,.slice none 0 0],.agg #[.int .i64 0,.int .i64 0,.string ByteArray.empty,.string ByteArray.empty,.slice none 0 0,.slice none 0 0,.slice none 0 0],.slice none 0 0] rfl (by kernel_rfl) (by kernel_rfl) (by kernel_rfl)
   (OpenSpec.preRow_of_cond 8 hx (by kernel_rfl) (fun k hk=>by cases hk;kernel_rfl) (by kernel_rfl) (laidMetH_of_parts3 (fuel:=8) (laidMet_of_run' 8 (by kernel_rfl) (by kernel_rfl)) (by kernel_rfl) (by kernel_rfl)))) ?_
 intro W base args ds gs before hval0 hW hcnd hcond0 hsz0 hL0 _ _;have hbk:Rows.uptoBulkAll (ds++gs)≤1048576:=of_decide_eq_true (hcond0 _ rfl);have hsz:(DataW.weightsEach Tryz.prog (Tryz.f5.params.toList++Rows.planFindsSpec.plain.varTypes Tryz.prog) (ds++gs)).all (·≤reachBytes)=true:=hsz0;have hval:∀ (j:Nat) t v,Tryz.f5.params[j]?=some t→args[j]?=some v→Value.okWide Tryz.prog W .any base t v:=hval0;have hW':=hW;obtain ⟨p,q,hA0,hV,rfl,hfz,hnd⟩:=hW;have hA:DataW.TrodAll enc Tryz.prog W 0 (fun _=>true) true Tryz.f5.params.toList args.toList ds p:=hA0;rw [Tryz.params5] at hA hval hsz;obtain ⟨v0,vs0,d0,ds0,p0,q0,hargs,rfl,rfl,h0,r0⟩:=trodAll_cons hA;obtain ⟨v1,vs1,d1,ds1,p1,q1,rfl,rfl,rfl,h1,r1⟩:=trodAll_cons r0;obtain ⟨v2,vs2,d2,ds2,p2,q2,rfl,rfl,rfl,h2,r2⟩:=trodAll_cons r1;obtain ⟨rfl,rfl,rfl⟩:=trodAll_nil r2;obtain rfl:args=#[v0,v1,v2]:=by cases args;simp_all
 obtain ⟨rfl,rfl⟩:=trodVars_none hV;have k0:=h0;have lt0:∀ x∈p0,x.block<W.heap.size:=by obtain ⟨m,hm⟩:=k0;exact DataW.trod_lt m _ _ _ hm
 obtain ⟨l0,rfl,rr0,bk0⟩:=open_facts (hval 0 24 v0 rfl rfl) h0;have k1:=h1;have lt1:∀ x∈p1,x.block<W.heap.size:=by obtain ⟨m,hm⟩:=k1;exact DataW.trod_lt m _ _ _ hm
 obtain ⟨l1,rfl,rr1,bk1⟩:=open_clause (hval 1 32 v1 rfl rfl) h1;have k2:=h2;have lt2:∀ x∈p2,x.block<W.heap.size:=by obtain ⟨m,hm⟩:=k2;exact DataW.trod_lt m _ _ _ hm
 obtain ⟨a2,c2,l2,rfl,rr2,ri2,bk2⟩:=open_ints (hval 2 51 v2 rfl rfl) h2;have hLH:laidMetH Tryz.prog Rows.planFindsUptoRow.laid W:=hL0;have hCk:Jjz W:=checks_laid rfl (hLH.funcs (n:="hearsay/clause.checks") yL);have hL:laidMet Tryz.prog [("math/bits.deBruijn32tab",Rows.laid_math_bits_deBruijn32tab),("math/bits.deBruijn64tab",Rows.laid_math_bits_deBruijn64tab),("internal/strconv.uint64pow10",Rows.laid_internal_strconv_uint64pow10),("hearsay/term.none",Rows.laid_hearsay_term_none)] W:=(show laidMet Tryz.prog _ W∧handlesMet Tryz.prog _ W from hLH).1;obtain ⟨ps,⟨g0,t0,cs0,fuel0,lp0,lq0,hg0,ht0,hv0,hd0,⟨g1,t1,cs1,fuel1,lp1,lq1,hg1,ht1,hv1,hd1,⟨g2,t2,cs2,fuel2,lp2,lq2,hg2,ht2,hv2,hd2,⟨g3,t3,cs3,fuel3,lp3,lq3,hg3,ht3,hv3,hd3,_,_⟩,_⟩,_⟩,_⟩,_,_⟩:=hL;obtain rfl:=xH ((show Tryz.prog.globalNamed "hearsay/term.none"=some 0 by kernel_rfl).symm.trans hg3);obtain rfl:=xH ((show (Tryz.prog.globals[0]?).map (·.type)=some 26 by kernel_rfl).symm.trans ht3);have hN:Jdb W:=none_laid (by kernel_rfl) hv3 hd3;simp only [xX,xY,xZ,Rows.uptoBulkAll,Rows.uptoBulk] at hbk;have hfa:=facts_ok (f:=l0) (by omega);have hcl:=clause_ok (g:=l1) (by omega);clear hA0 hval0 hsz0 hsz;refine (Ja0 l0 hfa.1 hfa.2.1 hfa.2.2 l1 hcl.1 hcl.2.1 hcl.2.2 l2 a2 c2 ri2 (by omega) W hN hCk rr0 rr1 rr2).mono fun e W' ⟨he,fr⟩=>?_
 have bel:=fr.below;subst he;exact ⟨_,rfl,_,_,_,[],_,[],hW',trodAll_mk1 (shut_bool Tryz.underlying4 _),(trodAll_cons_mk (Below.trod laidOut (by kernel_rfl) (of_decide_eq_true (by kernel_rfl)) k0 bel lt0) (trodAll_cons_mk (Below.trod laidOut (by kernel_rfl) (of_decide_eq_true (by kernel_rfl)) k1 bel lt1) (trodAll_cons_mk (Below.trod laidOut (by kernel_rfl) (of_decide_eq_true (by kernel_rfl)) k2 bel lt2) trodAll_mk0))),rfl,bel.frame _,fun h=>by cases h⟩
theorem over:Rows.planFindsUptoRow.holds Tryz.pinned (Rows.OpenSpec.upto Rows.planFindsSpec):=
 OpenClaim.holds_of_cond 5 Tryz.f5 rfl rfl rfl rfl rfl rfl rfl ⟨rfl,rfl,rfl,rfl,rfl⟩ rfl rfl rfl rfl rfl (by kernel_rfl) Tryz.func5 (by kernel_rfl)
  (of_decide_eq_true (by kernel_rfl)) (by unfold Func.isWrapper;first | (rw [if_pos (by decide +kernel)];kernel_rfl) | (rw [if_neg (by decide +kernel)];exact ⟨rfl,rfl⟩))
  (fun os started H enc _ F=>by rw [OpenClaim.pre_eq_preRow];exact lifted os started H enc F)
theorem card:Claim7.holds Tryz.pinned (.plain (Rows.OpenSpec.upto Rows.planFindsSpec)) Rows.planFindsUptoCard:=
 Claim7.holds_tied_plain_at .later [] [.data,.data,.data,.data,.funcs] true (true,"c652984d8df5aff975c8ecf916e516e855850b99ad94997cd64351e69fe8c7ba") false over (fun _ h=>by cases h) (by kernel_rfl) (fun _ h=>by cases h) planFindsUpto_row_tie rfl ⟨rfl,rfl⟩ (by kernel_rfl) rfl
  (fun f fn hf hfn=>by
   obtain rfl:f=5:=xH ((show Tryz.prog.funcNamed "hearsay/hearsaylaw09.PlanFinds"=some 5 by kernel_rfl).symm.trans hf) |>.symm
   obtain rfl:fn=Tryz.f5:=(xH (Tryz.func5.symm.trans hfn)).symm
   exact ⟨by kernel_rfl,fun j t ht=>by
    rw [Tryz.params5] at ht;have hm:t∈[24,32,51]:=by simpa using Array.mem_of_getElem? ht
    have hall:([24,32,51].all fun u=>!Tryz.prog.wantsStandIn u)=true:=by kernel_rfl
    exact (show Tryz.prog.wantsStandIn t=false by simpa using List.all_eq_true.1 hall t hm)⟩)
  (by kernel_rfl)
end Go.Proofs.YtgebaodagaecmaaGreatDoor.planFinds
namespace Go.Proofs.YtgebaodagaecmaaGreatDoor
theorem planFindsUptoCard_holds:Rows.PlanFindsUptoCardSaid:=planFinds.card
#print axioms planFindsUptoCard_holds
end Go.Proofs.YtgebaodagaecmaaGreatDoor
