/- Contracts of functions of the program: what each returns and leaves in memory. Printed by gen.py and walk.py. A scope of labels through which the run goes without a jump. -/
import Derived.Test.YtgebaodagaecmaaGreatDoorMg18
import Derived.Test.YtgebaodagaecmaaGreatDoorHxA
import Derived.Test.YtgebaodagaecmaaGreatDoorMg17
import Derived.Test.YtgebaodagaecmaaGreatDoorHxShort
set_option maxRecDepth 10000
namespace Go.Proofs.YtgebaodagaecmaaGreatDoor
open Go Go.Hw
set_option linter.unusedSimpArgs false
set_option linter.unusedVariables false
theorem Jji (x:At):(Jaf x).args.length≤8:=by simp only [Jaf,xE,xJ];omega
theorem bt_len (l:List At):(((l.take 8).map Jaf).flatMap plc).length≤72:=by
 have key:∀ m:List At,((m.map Jaf).flatMap plc).length≤9*m.length:=by
  intro m
  induction m with
  | nil=>simp
  | cons x m ih=>
   rw [yC,List.flatMap_cons,xL,List.length_cons];have h1:(plc (Jaf x)).length=(Jaf x).args.length+1:=by simp [plc]
   have h2:=Jji x;omega
 have h1:=key (l.take 8);have h2:(l.take 8).length≤8:=by rw [xJ];omega
 omega
theorem Jmd (l:List Tm)(i:Nat)(t:Tm)(h:i<l.length):(l.flatMap tmC).take (i*3)++tmC t++(l.flatMap tmC).drop (i*3+(tmC t).length)=(l.set i t).flatMap tmC:=by
 induction l generalizing i with
 | nil=>simp at h
 | cons u l ih=>
  cases i with
  | zero=>simp [tmC]
  | succ i=>
   have e:=ih i (by simpa using h);have hf:∀ (v:Tm) (m:List Tm),(v::m).flatMap tmC=.int .i64 v.kind::.int .i64 v.n::.string v.s::m.flatMap tmC:=fun _ _=>rfl
   rw [show (i+1)*3=i*3+1+1+1 by omega,show i*3+1+1+1+(tmC t).length=i*3+(tmC t).length+1+1+1 by omega,List.set_cons_succ,hf,hf,← e];simp only [List.take_succ_cons,List.drop_succ_cons,xX]
theorem cur_get {f:Tm→Tm}{l:List Tm}{i:Nat}{t:Tm}(h:l[i]?=some t):((l.take i).map f++l.drop i)[i]?=some t:=by
 have hl:=(List.getElem?_eq_some_iff.1 h).1;rw [List.getElem?_append_right (by rw [xE,xJ];omega),xE,xJ,show i - min i l.length=0 by omega,List.getElem?_drop];exact h
theorem cur_set {f:Tm→Tm}{l:List Tm}{i:Nat}{t:Tm}(h:l[i]?=some t):((l.take i).map f++l.drop i).set i (f t)=(l.take (i+1)).map f++l.drop (i+1):=by
 have hl:=(List.getElem?_eq_some_iff.1 h).1;rw [List.set_append_right _ _ (by rw [xE,xJ];omega),xE,xJ,show i - min i l.length=0 by omega,Jge h,List.set_cons_zero,Jb3 h,xU,xF];rfl
theorem Jgu (f:Tm→Tm)(l:List Tm)(i:Nat):((l.take i).map f++l.drop i).length=l.length:=by
 rw [xL,xE,xJ,List.length_drop];omega
theorem cur_len3 (f:Tm→Tm)(l:List Tm)(i:Nat):(((l.take i).map f++l.drop i).flatMap tmC).length=l.length*3:=by
 rw [Jdf Jc0,Jgu]
theorem made0_len (c:Cl):(Jbi (made0 c)).length≤97:=by
 rw [Jgm];have h1:=Jji c.hd;have h2:=bt_len c.bd;have e1:(plc (made0 c).hd).length=(Jaf c.hd).args.length+1:=by simp [plc,made0]
 have e2:Jck (made0 c)=((c.bd.take 8).map Jaf).flatMap plc:=rfl;have e3:(made0 c).ts.length≤8:=by simp only [made0,xE,xJ];omega
 rw [e2];omega
set_option maxHeartbeats 2000000 in
theorem made_calls (g:CG)(hs:∀ y,y=g.hd∨y∈g.bd→y.x.args.length≤1048576∧y.x.name.size≤1099511627776)(hbl:g.bd.length≤1048576)(htl:g.ts.length≤1048576)(w:World)(hr:RC w g):Calls Tryz.prog 7 #[cgV g] w fun e w'=>∃ g':CG,e=.returned (cgV g')∧g'.cl=madeC g.cl∧Turns [] (cgA g') w w':=by
 refine Jbo (args:=[cgV g]) (fun _=>False) Tryz.func7 rfl Tryz.ntmps7 rfl rfl ?_;refine Csr (WL.box rfl rfl rfl ?_);intro b1;refine WL.alloc T.zr32 rfl ?_;intro b2;refine Nn (Csr (WL.alloc T.zr32 rfl ?_));intro b3;refine Nn (Cs (Csr (Za rfl (Nn ?_))));refine WC.lh (fun (z:Option Addr × Nat × List AG)=>[(1,yZ b1),(2,yZ b2),(3,yZ b3)]) (fun (z:Option Addr × Nat × List AG)=>fun w'=>(z.2.2.map AG.x=((g.cl.bd.take 8).map Jaf)∧z.2.2.length≤8)∧Sat0 w (oQ b3 (cgC ⟨⟨⟨T0,E0,[]⟩,none,0⟩,z.1,z.2.1,z.2.2,none,0,[]⟩) 32::oQ b2 (cgC ⟨⟨⟨T0,E0,[]⟩,none,0⟩,none,0,[],none,0,[]⟩) 32::oQ b1 (cgC g) 32::rowAt z.1 z.2.1 z.2.2::argsA z.2.2) w') ?_ ?_
 ·refine Cb (WC.weak (S':=Sat0 w (oQ b3 (cgC ⟨⟨⟨T0,E0,[]⟩,none,0⟩,none,0,[],none,0,[]⟩) 32::row 29 5 none 0 0 []::oQ b2 (cgC ⟨⟨⟨T0,E0,[]⟩,none,0⟩,none,0,[],none,0,[]⟩) 32::oQ b1 (cgC g) 32::[])) (fun w' hw=>(hw.rowNil 29 5).perm (pmP [_,_,_,_] [1,0,2,3])) ?_)
  refine WC.dd (fun (i:Nat) (ba:Option Addr) (bc:Nat) (ys:List AG)=>[(1,yZ b1),(2,yZ b2),(3,yZ b3),(4,.int .i64 (i:Int))])
    (fun i ba bc ys w'=>(i≤g.bd.length∧i≤8∧ys.length=i∧ys.map AG.x=(g.cl.bd.take i).map Jaf)∧Sat0 w (oQ b3 (cgC ⟨⟨⟨T0,E0,[]⟩,none,0⟩,ba,bc,ys,none,0,[]⟩) 32::rowAt ba bc ys::oQ b2 (cgC ⟨⟨⟨T0,E0,[]⟩,none,0⟩,none,0,[],none,0,[]⟩) 32::oQ b1 (cgC g) 32::argsA ys) w')
    (fun i _ _ _=>g.bd.length - i) 0 none 0 [] Y4 (fun w' hw=>⟨⟨by omega,by omega,rfl,rfl⟩,hw⟩) ?_
  intro i ba bc ys;refine WC.pure (fun hi=>?_);obtain ⟨hi,hi8,hyl,hyx⟩:=hi;refine Cs (Csr (Zm rfl (Zv (OV.f0 5 rfl T.u32 rfl) (Zv (OV.l1 (v:=.slice g.ba g.bd.length g.bc) rfl T.u22 rfl yK rfl) (Zv (OV.ae rfl T.u22) (Zv (OV.cq rfl rfl) (Zm rfl ?_)))))));refine Zp (t:=13) rfl (fun g13=>?_) (fun g13=>?_)
  ·refine yY (Zm rfl (yY (Zv (OV.cq rfl rfl) (Zv (OV.am rfl rfl) (Nn ?_)))));refine Cc rfl (fun c16=>?_) (fun c16=>?_)
   ·refine Ck (Xn (Cs (Cb (Hd (fun w'=>w'.heap[b3]?=some (.cells (cgC ⟨⟨⟨T0,E0,[]⟩,none,0⟩,ba,bc,ys,none,0,[]⟩).toArray 32 (0,0))∧w'.heap[b1]?=some (.cells (cgC g).toArray 32 (0,0))∧Keeps w w') [11] (fun _ hw=>⟨hw.it (oQ b3 (cgC ⟨⟨⟨T0,E0,[]⟩,none,0⟩,ba,bc,ys,none,0,[]⟩) 32) (by simp),hw.it (oQ b1 (cgC g) 32) (by simp),hw.keeps⟩) (m:=12) rfl ?_))));refine Hf 0 rfl (OV.f0 5 rfl T.u32 rfl) (Ht 1 rfl (OV.ah (v:=.slice ba ys.length bc) rfl T.u22 rfl (fun _ hw=>(Jax hw.1 (o:=5) rfl).1)) (Hf 2 rfl (OV.f0 5 rfl T.u32 rfl) (Ht 3 rfl (OV.ah (v:=.slice g.ba g.bd.length g.bc) rfl T.u22 rfl (fun _ hw=>(Jax hw.2.1 (o:=5) rfl).1)) (Hf 4 rfl (OV.aw rfl) ?_))));obtain ⟨q1,y,hq,ht,htm,hra,hc⟩:=hr.bd.get (i:=i) (by omega);refine Hf 5 rfl ((OV.ad (show _=some (Value.slice (some q1) g.bd.length g.bc) by rw [← hq];rfl) rfl T.u22 T.z29 (by omega)).cast (u:=.pointer (some (q1.add (i*5)))) (by rw [xN])) (Ht 6 rfl (OV.ai (cs:=atC y.x y.a y.c) rfl T.u29 rfl T.z29 (fun _ hw j v hj=>hw.2.2 _ _ (hc j v hj))) (Ho 7 rfl (fl':=false) rfl ?_));have hsy:=hs y (Or.inr htm);refine WL.cT (ι:=Option Addr × Nat) (vs:=[atV y.x y.a y.c]) (vv:=fun z=>atV (Jaf y.x) z.1 z.2) (pp:=fun _=>True) [] (AA:=fun z=>[rowT z.1 z.2 (Jaf y.x).args]) rfl (fun w' hw' _=>(Jgb y.x y.a y.c hsy.1 hsy.2 w' (hra.keeps hw'.keeps)).mono (fun en w'' ⟨z,h1,h2⟩=>⟨z,h1,trivial,h2⟩)) ?_;rintro ⟨qa,qc⟩ _;refine Hc (fun _=>(fun _ hw=>⟨hw.it (oQ b3 (cgC ⟨⟨⟨T0,E0,[]⟩,none,0⟩,ba,bc,ys,none,0,[]⟩) 32) (by simp),hw.it (oQ b1 (cgC g) 32) (by simp),hw.keeps⟩)) ?_;refine Ho 8 rfl (fl':=false) rfl ?_;refine WL.bg (cs:=agC (⟨Jaf y.x,qa,qc⟩:AG)) T.u22 T.z29 T.zr29 rfl rfl (by omega) (by omega) rfl ?_;intro b27;refine Hc (fun _=>(fun _ hw=>⟨hw.it (oQ b3 (cgC ⟨⟨⟨T0,E0,[]⟩,none,0⟩,ba,bc,ys,none,0,[]⟩) 32) (by simp),hw.it (oQ b1 (cgC g) 32) (by simp),hw.keeps⟩)) ?_;refine Ho 9 rfl (fl':=false) rfl ?_;refine WL.focus (ow':=rowAt ba bc ys::oQ b27 (agC (⟨Jaf y.x,qa,qc⟩:AG)) 29::rowT qa qc (Jaf y.x).args::oQ b3 (cgC ⟨⟨⟨T0,E0,[]⟩,none,0⟩,ba,bc,ys,none,0,[]⟩) 32::oQ b2 (cgC ⟨⟨⟨T0,E0,[]⟩,none,0⟩,none,0,[],none,0,[]⟩) 32::oQ b1 (cgC g) 32::argsA ys) (pmP [_,_,_,_,_,_] [3,0,1,2,4,5]) ?_;refine WL.append (news:=agC (⟨Jaf y.x,qa,qc⟩:AG)) rfl rfl T.apA (fun _ _=>Jcw yI rfl) (Jis _) ⟨by omega,by unfold maxLen;omega⟩ rfl ?_;intro a28 c28;refine Hc (fun _=>(fun _ hw=>⟨hw.it (oQ b3 (cgC ⟨⟨⟨T0,E0,[]⟩,none,0⟩,ba,bc,ys,none,0,[]⟩) 32) (by simp),hw.it (oQ b1 (cgC g) 32) (by simp),hw.keeps⟩)) ?_;refine Hf 10 rfl (OV.f0 5 rfl T.u32 rfl) (Ho 11 rfl (fl':=true) rfl ?_)
    refine WL.focus (ow':=oQ b3 (cgC ⟨⟨⟨T0,E0,[]⟩,none,0⟩,ba,bc,ys,none,0,[]⟩) 32::rowAt a28 c28 (ys++[(⟨Jaf y.x,qa,qc⟩:AG)])::oQ b27 (agC (⟨Jaf y.x,qa,qc⟩:AG)) 29::rowT qa qc (Jaf y.x).args::oQ b2 (cgC ⟨⟨⟨T0,E0,[]⟩,none,0⟩,none,0,[],none,0,[]⟩) 32::oQ b1 (cgC g) 32::argsA ys) (by
     rw [show ys.length+1=(ys++[(⟨Jaf y.x,qa,qc⟩:AG)]).length by simp,show ys.flatMap agC++agC (⟨Jaf y.x,qa,qc⟩:AG)=(ys++[(⟨Jaf y.x,qa,qc⟩:AG)]).flatMap agC by simp];exact pmP [_,_,_,_,_,_] [3,0,1,2,4,5]) (WL.bw (o:=5) rfl rfl rfl T.z22 (by show 5<7;omega) ?_)
    refine Hc (fun h=>by cases h) ?_;refine He (Xb (Xn (Cr (Zm rfl (Zv (OV.bm (j:=1) rfl rfl (by omega)) (Za rfl (Nl ?_)))))));have hcy:g.cl.bd[i]?=some y.x:=by show (g.bd.map AG.x)[i]?=_;rw [xG,ht];rfl
    exact WX.cg (i+1) a28 c28 (ys++[(⟨Jaf y.x,qa,qc⟩:AG)]) Y4 (fun w' hw=>⟨⟨by omega,by omega,by simp [hyl],by rw [Jb3 hcy,xU,xU,hyx];rfl⟩,by
     rw [Jjn];rw [show ys.length+1=(ys++[(⟨Jaf y.x,qa,qc⟩:AG)]).length by simp] at hw;refine Hw.Sat.pick [[oQ b3 (cgC ⟨⟨⟨T0,E0,[]⟩,none,0⟩,a28,c28,(ys++[(⟨Jaf y.x,qa,qc⟩:AG)]),none,0,[]⟩) 32],[rowAt a28 c28 (ys++[(⟨Jaf y.x,qa,qc⟩:AG)])],[oQ b27 (agC (⟨Jaf y.x,qa,qc⟩:AG)) 29],[rowT qa qc (Jaf y.x).args],[oQ b2 (cgC ⟨⟨⟨T0,E0,[]⟩,none,0⟩,none,0,[],none,0,[]⟩) 32],[oQ b1 (cgC g) 32],argsA ys] [0,1,4,5,6,3] 7 rfl (by decide) (by decide) ?_;exact hw⟩) (by show g.bd.length - (i+1)<g.bd.length - i;omega)
   refine Ce (Xe (Xe (Xh ?_)))
   have e8:g.cl.bd.take 8=g.cl.bd.take i:=by
    have hcl:g.cl.bd.length=g.bd.length:=by simp [CG.cl]
    rcases Nat.lt_or_ge i 8 with h | h
    ·rw [xK (by omega),xK (by omega)]
    ·rw [show i=8 by omega]
   exact WX.e5 (ba,bc,ys) Y3 (fun w' hw=>⟨⟨by rw [e8];exact hyx,by show ys.length≤8;omega⟩,hw.perm (pmP [_,_,_,_] [0,2,3,1])⟩)
  refine yX (yX (Zv (OV.aj rfl rfl) (Nn (WC.bu (show _=some (Value.bool false) from by rfl) ?_))));refine Ce (Xe (Xe (Xh ?_)))
  have e8:g.cl.bd.take 8=g.cl.bd.take i:=by
   have hcl:g.cl.bd.length=g.bd.length:=by simp [CG.cl]
   rcases Nat.lt_or_ge i 8 with h | h
   ·rw [xK (by omega),xK (by omega)]
   ·rw [show i=8 by omega]
  exact WX.e5 (ba,bc,ys) Y3 (fun w' hw=>⟨⟨by rw [e8];exact hyx,by show ys.length≤8;omega⟩,hw.perm (pmP [_,_,_,_] [0,2,3,1])⟩)
 rintro ⟨ba,bc,ys⟩;refine WC.pure (fun hyy=>?_);obtain ⟨hyx,hyl⟩:ys.map AG.x=((g.cl.bd.take 8).map Jaf)∧ys.length≤8:=hyy;refine Csr (Zv (OV.lN (cs:=cgC ⟨⟨⟨T0,E0,[]⟩,none,0⟩,ba,bc,ys,none,0,[]⟩) rfl T.u32 rfl T.z32 yH) ?_);have hbt:Jck (CG.cl ⟨⟨⟨T0,E0,[]⟩,none,0⟩,ba,bc,ys,none,0,[]⟩)=(((g.cl.bd.take 8).map Jaf).flatMap plc):=by rw [show Jck (CG.cl ⟨⟨⟨T0,E0,[]⟩,none,0⟩,ba,bc,ys,none,0,[]⟩)=(ys.map AG.x).flatMap plc from rfl,hyx]
 have h72:=bt_len g.cl.bd;refine WL.cT (ι:=Option Addr × Nat) (vs:=[cgV ⟨⟨⟨T0,E0,[]⟩,none,0⟩,ba,bc,ys,none,0,[]⟩]) (vv:=fun z=>.slice z.1 (((g.cl.bd.take 8).map Jaf).flatMap plc).length z.2) (pp:=fun _=>True) [] (AA:=fun z=>[rowT z.1 z.2 (((g.cl.bd.take 8).map Jaf).flatMap plc)]) rfl (fun w' hw' _=>?_) ?_
 ·have h9:=bodyTerms_calls ⟨⟨⟨T0,E0,[]⟩,none,0⟩,ba,bc,ys,none,0,[]⟩ (by rw [hbt];omega) (by show ys.length≤_;omega) w' ⟨RT.nil0 _,RA.of_row hw' (fun i hi=>.tail _ (yV (.tail _ hi))),⟨fun _=>rfl,fun q hq=>by cases hq⟩⟩;rw [hbt] at h9;exact h9.mono (fun en w'' ⟨z,h1,h2⟩=>⟨z,h1,trivial,h2⟩)
 rintro ⟨la,lc⟩ _;refine WL.focus (ow':=oQ b3 (cgC ⟨⟨⟨T0,E0,[]⟩,none,0⟩,ba,bc,ys,none,0,[]⟩) 32::rowT la lc (((g.cl.bd.take 8).map Jaf).flatMap plc)::oQ b2 (cgC ⟨⟨⟨T0,E0,[]⟩,none,0⟩,none,0,[],none,0,[]⟩) 32::oQ b1 (cgC g) 32::rowAt ba bc ys::argsA ys) (pmP [_,_,_,_] [1,0,2,3]) ?_;refine Za rfl (Nn (Csr (Zv (OV.f0 0 rfl T.u32 rfl) (Zv (OV.ai (cs:=atC g.hd.x g.hd.a g.hd.c) rfl T.u29 rfl T.z29 (fun _ hw j v hj=>by rw [Jap];exact Jbv hw yK (o:=0) (cs':=atC g.hd.x g.hd.a g.hd.c) rfl j v hj)) ?_))));have hsh:=hs g.hd (Or.inl rfl);refine WL.cT (ι:=Option Addr × Nat) (vs:=[atV g.hd.x g.hd.a g.hd.c]) (vv:=fun z=>atV (Jaf g.hd.x) z.1 z.2) (pp:=fun _=>True) [] (AA:=fun z=>[rowT z.1 z.2 (Jaf g.hd.x).args]) rfl (fun w' hw' _=>(Jgb g.hd.x g.hd.a g.hd.c hsh.1 hsh.2 w' (hr.hd.keeps hw'.keeps)).mono (fun en w'' ⟨z,h1,h2⟩=>⟨z,h1,trivial,h2⟩)) ?_;rintro ⟨ha,hac⟩ _;refine WL.focus (ow':=oQ b3 (cgC ⟨⟨⟨T0,E0,[]⟩,none,0⟩,ba,bc,ys,none,0,[]⟩) 32::rowT ha hac (Jaf g.hd.x).args::rowT la lc (((g.cl.bd.take 8).map Jaf).flatMap plc)::oQ b2 (cgC ⟨⟨⟨T0,E0,[]⟩,none,0⟩,none,0,[],none,0,[]⟩) 32::oQ b1 (cgC g) 32::rowAt ba bc ys::argsA ys) (pmP [_,_,_,_,_] [1,0,2,3,4]) ?_;refine Zv (OV.f0 0 rfl T.u32 rfl) (WL.lg (o:=0) (vs:=atC (Jaf g.hd.x) ha hac) rfl rfl rfl T.z29 yW ?_);refine Nn (Cs (Csr (Zv (OV.f0 0 rfl T.u32 rfl) (Zv (OV.f0 0 rfl T.u29 rfl) (Zv (OV.f0 0 rfl T.u26 rfl) (Zv (OV.l1 (v:=.int .i64 (Jaf g.hd.x).b.kind) rfl T.u3 rfl yH rfl) (Zv (OV.eb rfl rfl) (Nn ?_))))))));refine WC.ir [(1,yZ b1),(2,yZ b2),(3,yZ b3),(5,.slice la (((g.cl.bd.take 8).map Jaf).flatMap plc).length lc)] (Sat0 w (oQ b3 (cgC ⟨⟨⟨nvB (Jaf g.hd.x).b,(Jaf g.hd.x).name,(Jaf g.hd.x).args⟩,ha,hac⟩,ba,bc,ys,none,0,[]⟩) 32::rowT ha hac (Jaf g.hd.x).args::rowT la lc (((g.cl.bd.take 8).map Jaf).flatMap plc)::oQ b2 (cgC ⟨⟨⟨T0,E0,[]⟩,none,0⟩,none,0,[],none,0,[]⟩) 32::oQ b1 (cgC g) 32::rowAt ba bc ys::argsA ys)) ?_ ?_
 ·refine Cc rfl (fun c40=>?_) (fun c40=>?_)
  ·refine Cr (Zv (OV.ao (xs:=[]) (pl:=[(0,1),(1,1),(2,1)]) (cs:=tmC T0) T.u26 T.zr26 (by kernel_rfl) rfl rfl) (Zv (OV.f0 0 rfl T.u32 rfl) (Zv (OV.f0 0 rfl T.u29 rfl) (WL.lg (o:=0) (vs:=tmC T0) rfl rfl rfl T.z26 yW ?_))));refine Nl ?_;have em:nvB (Jaf g.hd.x).b=T0:=by unfold nvB;rw [if_pos (by simpa using c40)]
   exact WX.dz Y4 (fun w' hw=>by rw [em];exact hw)
  refine Ck ?_;have em:nvB (Jaf g.hd.x).b=(Jaf g.hd.x).b:=by unfold nvB;rw [if_neg (by simpa using c40)]
  exact WX.dz Y4 (fun w' hw=>by rw [em];exact hw)
 refine Cs (Csr (Za rfl (Nn (Cb ?_))));have hha:=Jji g.hd.x;refine WC.mq (fun w' hw=>(fun hp=>Jed (hw.it (rowT ha hac (Jaf g.hd.x).args) yI) hp:0<(Jaf g.hd.x).args.length→∃ q,ha=some ⟨q,0,none⟩)) (fun hqa=>?_)
 refine WC.cm (fun (i:Nat)=>[(1,yZ b1),(2,yZ b2),(3,yZ b3),(5,.slice la (((g.cl.bd.take 8).map Jaf).flatMap plc).length lc),(6,.int .i64 (i:Int))])
   (fun i w'=>i≤(Jaf g.hd.x).args.length∧Sat0 w (oQ b3 (cgC ⟨⟨⟨nvB (Jaf g.hd.x).b,(Jaf g.hd.x).name,(((Jaf g.hd.x).args.take i).map (safeT (((g.cl.bd.take 8).map Jaf).flatMap plc))++(Jaf g.hd.x).args.drop i)⟩,ha,hac⟩,ba,bc,ys,none,0,[]⟩) 32::rowT ha hac (((Jaf g.hd.x).args.take i).map (safeT (((g.cl.bd.take 8).map Jaf).flatMap plc))++(Jaf g.hd.x).args.drop i)::rowT la lc (((g.cl.bd.take 8).map Jaf).flatMap plc)::oQ b2 (cgC ⟨⟨⟨T0,E0,[]⟩,none,0⟩,none,0,[],none,0,[]⟩) 32::oQ b1 (cgC g) 32::rowAt ba bc ys::argsA ys) w')
   (fun i=>(Jaf g.hd.x).args.length - i) 0 Y5 (fun w' hw=>⟨by omega,hw⟩) ?_
 intro i;refine WC.pure (fun hi=>?_);have hcl:=Jgu (safeT (((g.cl.bd.take 8).map Jaf).flatMap plc)) (Jaf g.hd.x).args i;refine Cs (Csr (Zm rfl (Zv (OV.f0 0 rfl T.u32 rfl) (Zv (OV.f0 4 rfl T.u29 rfl) (Zv (OV.ah (v:=.slice ha (((Jaf g.hd.x).args.take i).map (safeT (((g.cl.bd.take 8).map Jaf).flatMap plc))++(Jaf g.hd.x).args.drop i).length hac) rfl T.u27 rfl (fun _ hw=>(Jax (hw.it _ yH) (o:=4) rfl).1)) (Zv (OV.ae rfl T.u27) (Zv (OV.cq rfl rfl) (Nn ?_))))))));refine Cc rfl (fun c49=>?_) (fun c49=>?_)
 ·refine Ck (Xn (Cs (Cb (Hd (fun w'=>w'.heap[b3]?=some (.cells (cgC ⟨⟨⟨nvB (Jaf g.hd.x).b,(Jaf g.hd.x).name,(((Jaf g.hd.x).args.take i).map (safeT (((g.cl.bd.take 8).map Jaf).flatMap plc))++(Jaf g.hd.x).args.drop i)⟩,ha,hac⟩,ba,bc,ys,none,0,[]⟩).toArray 32 (0,0))∧(rowT ha hac (((Jaf g.hd.x).args.take i).map (safeT (((g.cl.bd.take 8).map Jaf).flatMap plc))++(Jaf g.hd.x).args.drop i)).φ w') [13] (fun _ hw=>⟨hw.it (oQ b3 (cgC ⟨⟨⟨nvB (Jaf g.hd.x).b,(Jaf g.hd.x).name,(((Jaf g.hd.x).args.take i).map (safeT (((g.cl.bd.take 8).map Jaf).flatMap plc))++(Jaf g.hd.x).args.drop i)⟩,ha,hac⟩,ba,bc,ys,none,0,[]⟩) 32) (by simp),hw.it (rowT ha hac (((Jaf g.hd.x).args.take i).map (safeT (((g.cl.bd.take 8).map Jaf).flatMap plc))++(Jaf g.hd.x).args.drop i)) (by simp)⟩) (m:=14) rfl ?_))));refine Hf 0 rfl (OV.f0 0 rfl T.u32 rfl) (Hf 1 rfl (OV.f0 4 rfl T.u29 rfl) (Ht 2 rfl (OV.ah (v:=.slice ha (((Jaf g.hd.x).args.take i).map (safeT (((g.cl.bd.take 8).map Jaf).flatMap plc))++(Jaf g.hd.x).args.drop i).length hac) rfl T.u27 rfl (fun _ hw=>(Jax hw.1 (o:=4) rfl).1)) (Hf 3 rfl (OV.aw rfl) (Hf 4 rfl (OV.aw rfl) (Hf 5 rfl (OV.f0 0 rfl T.u32 rfl) (Hf 6 rfl (OV.f0 4 rfl T.u29 rfl) (Ht 7 rfl (OV.ah (v:=.slice ha (((Jaf g.hd.x).args.take i).map (safeT (((g.cl.bd.take 8).map Jaf).flatMap plc))++(Jaf g.hd.x).args.drop i).length hac) rfl T.u27 rfl (fun _ hw=>(Jax hw.1 (o:=4) rfl).1)) (Hf 8 rfl (OV.aw rfl) ?_))))))));obtain ⟨t,ht⟩:∃ t,(Jaf g.hd.x).args[i]?=some t:=⟨_,xD (by omega)⟩
  obtain ⟨qh,hqh⟩:=hqa (by omega);refine Hf 9 rfl ((OV.ad (show _=some (Value.slice (some ⟨qh,0,none⟩) (((Jaf g.hd.x).args.take i).map (safeT (((g.cl.bd.take 8).map Jaf).flatMap plc))++(Jaf g.hd.x).args.drop i).length hac) by rw [← hqh];rfl) rfl T.u27 T.z26 (by rw [Jgu];omega)).cast (u:=.pointer (some ⟨qh,i*3,none⟩)) (by rw [xN,Jap,xM])) ?_;refine Ht 10 rfl (OV.ai (cs:=tmC t) rfl T.u26 rfl T.z26 (fun _ hw j v hj=>by have hj3:j<3:=(List.getElem?_eq_some_iff.1 hj).1;have h:=Jcr hqh hw.2 (i*3+j) v (by rw [Jcu Jc0 _ i j t (cur_get ht) (by omega)];exact hj);rwa [Jap,xM,← Jap] at h)) ?_;refine Ho 11 rfl (fl':=false) rfl ?_;refine WL.au (v:=tmV (safeT (((g.cl.bd.take 8).map Jaf).flatMap plc) t)) (by kernel_rfl) rfl rfl (fun w' hw'=>Jkm (((g.cl.bd.take 8).map Jaf).flatMap plc) la lc t (by omega) w' (RT.of_row (c:=lc) rfl hw' yJ)) ?_;refine Hc (fun _=>(fun _ hw=>⟨hw.it (oQ b3 (cgC ⟨⟨⟨nvB (Jaf g.hd.x).b,(Jaf g.hd.x).name,(((Jaf g.hd.x).args.take i).map (safeT (((g.cl.bd.take 8).map Jaf).flatMap plc))++(Jaf g.hd.x).args.drop i)⟩,ha,hac⟩,ba,bc,ys,none,0,[]⟩) 32) (by simp),hw.it (rowT ha hac (((Jaf g.hd.x).args.take i).map (safeT (((g.cl.bd.take 8).map Jaf).flatMap plc))++(Jaf g.hd.x).args.drop i)) (by simp)⟩)) ?_;refine Hf 12 rfl ((OV.ad (show _=some (Value.slice (some ⟨qh,0,none⟩) (((Jaf g.hd.x).args.take i).map (safeT (((g.cl.bd.take 8).map Jaf).flatMap plc))++(Jaf g.hd.x).args.drop i).length hac) by rw [← hqh];rfl) rfl T.u27 T.z26 (by rw [Jgu];omega)).cast (u:=.pointer (some ⟨qh,i*3,none⟩)) (by rw [xN,Jap,xM])) (Ho 13 rfl (fl':=true) rfl ?_);refine WL.focus perm1 (WL.io (vs:=tmC (safeT (((g.cl.bd.take 8).map Jaf).flatMap plc) t)) (o:=i*3) rfl hqh rfl rfl T.z26 (by rw [cur_len3];show i*3+3≤_;omega) ?_);refine Hc (fun h=>by cases h) ?_;refine He (Xb (Xn (Cr (Zm rfl (Zv (OV.bm (j:=1) rfl rfl (by omega)) (Za rfl (Nl ?_)))))));have hfp:=Jmd (((Jaf g.hd.x).args.take i).map (safeT (((g.cl.bd.take 8).map Jaf).flatMap plc))++(Jaf g.hd.x).args.drop i) i (safeT (((g.cl.bd.take 8).map Jaf).flatMap plc) t) (by omega);rw [hfp,cur_set ht]
  exact WX.bk (i+1) Y5 (fun w' hw=>⟨by omega,by
   have hl1:=Jgu (safeT (((g.cl.bd.take 8).map Jaf).flatMap plc)) (Jaf g.hd.x).args (i+1);rw [hcl,← hl1] at hw;have hce:cgC ⟨⟨⟨nvB (Jaf g.hd.x).b,(Jaf g.hd.x).name,(((Jaf g.hd.x).args.take i).map (safeT (((g.cl.bd.take 8).map Jaf).flatMap plc))++(Jaf g.hd.x).args.drop i)⟩,ha,hac⟩,ba,bc,ys,none,0,[]⟩=cgC ⟨⟨⟨nvB (Jaf g.hd.x).b,(Jaf g.hd.x).name,(((Jaf g.hd.x).args.take (i+1)).map (safeT (((g.cl.bd.take 8).map Jaf).flatMap plc))++(Jaf g.hd.x).args.drop (i+1))⟩,ha,hac⟩,ba,bc,ys,none,0,[]⟩:=by unfold cgC;simp only [Jgu]
   rw [← hce];exact hw.perm perm1⟩) (by show (Jaf g.hd.x).args.length - (i+1)<(Jaf g.hd.x).args.length - i;omega)
 refine Ce (Xe (Xe (Xh (Xn (Cs (Csr (Za rfl (Nn ?_))))))));refine WC.lh (fun (z:Option Addr × Nat × List Ts)=>[(1,yZ b1),(2,yZ b2),(3,yZ b3),(5,.slice la (((g.cl.bd.take 8).map Jaf).flatMap plc).length lc)]) (fun (z:Option Addr × Nat × List Ts)=>fun w'=>(z.2.2=(g.cl.ts.take 8).map (Jfu (((g.cl.bd.take 8).map Jaf).flatMap plc)))∧Sat0 w (oQ b3 (cgC ⟨⟨⟨nvB (Jaf g.hd.x).b,(Jaf g.hd.x).name,(Jaf g.hd.x).args.map (safeT (((g.cl.bd.take 8).map Jaf).flatMap plc))⟩,ha,hac⟩,ba,bc,ys,z.1,z.2.1,z.2.2⟩) 32::rowS z.1 z.2.1 z.2.2::rowT ha hac ((Jaf g.hd.x).args.map (safeT (((g.cl.bd.take 8).map Jaf).flatMap plc)))::rowT la lc (((g.cl.bd.take 8).map Jaf).flatMap plc)::oQ b2 (cgC ⟨⟨⟨T0,E0,[]⟩,none,0⟩,none,0,[],none,0,[]⟩) 32::oQ b1 (cgC g) 32::rowAt ba bc ys::argsA ys) w') ?_ ?_
 ·refine Cb ?_
  have hcm:(((Jaf g.hd.x).args.take i).map (safeT (((g.cl.bd.take 8).map Jaf).flatMap plc))++(Jaf g.hd.x).args.drop i)=(Jaf g.hd.x).args.map (safeT (((g.cl.bd.take 8).map Jaf).flatMap plc)):=by
   have e1:(Jaf g.hd.x).args.take i=(Jaf g.hd.x).args:=xK (by omega);have e2:(Jaf g.hd.x).args.drop i=[]:=xW (by omega);rw [e1,e2,xZ]
  rw [hcm];refine WC.weak (S':=Sat0 w (oQ b3 (cgC ⟨⟨⟨nvB (Jaf g.hd.x).b,(Jaf g.hd.x).name,(Jaf g.hd.x).args.map (safeT (((g.cl.bd.take 8).map Jaf).flatMap plc))⟩,ha,hac⟩,ba,bc,ys,none,0,[]⟩) 32::row 61 7 none 0 0 []::rowT ha hac ((Jaf g.hd.x).args.map (safeT (((g.cl.bd.take 8).map Jaf).flatMap plc)))::rowT la lc (((g.cl.bd.take 8).map Jaf).flatMap plc)::oQ b2 (cgC ⟨⟨⟨T0,E0,[]⟩,none,0⟩,none,0,[],none,0,[]⟩) 32::oQ b1 (cgC g) 32::rowAt ba bc ys::argsA ys)) (fun w' hw=>(hw.rowNil 61 7).perm (pmP [_,_,_,_,_,_] [1,0,2,3,4,5])) ?_;clear hi
  refine WC.dd (fun (i:Nat) (ta:Option Addr) (tc:Nat) (us:List Ts)=>[(1,yZ b1),(2,yZ b2),(3,yZ b3),(5,.slice la (((g.cl.bd.take 8).map Jaf).flatMap plc).length lc),(7,.int .i64 (i:Int))])
    (fun i ta tc us w'=>(i≤g.ts.length∧i≤8∧us.length=i∧us=(g.ts.take i).map (Jfu (((g.cl.bd.take 8).map Jaf).flatMap plc)))∧Sat0 w (oQ b3 (cgC ⟨⟨⟨nvB (Jaf g.hd.x).b,(Jaf g.hd.x).name,(Jaf g.hd.x).args.map (safeT (((g.cl.bd.take 8).map Jaf).flatMap plc))⟩,ha,hac⟩,ba,bc,ys,ta,tc,us⟩) 32::rowS ta tc us::rowT ha hac ((Jaf g.hd.x).args.map (safeT (((g.cl.bd.take 8).map Jaf).flatMap plc)))::rowT la lc (((g.cl.bd.take 8).map Jaf).flatMap plc)::oQ b2 (cgC ⟨⟨⟨T0,E0,[]⟩,none,0⟩,none,0,[],none,0,[]⟩) 32::oQ b1 (cgC g) 32::rowAt ba bc ys::argsA ys) w')
    (fun i _ _ _=>g.ts.length - i) 0 none 0 [] Y5 (fun w' hw=>⟨⟨by omega,by omega,rfl,rfl⟩,hw⟩) ?_
  intro i ta tc us;refine WC.pure (fun hi=>?_);obtain ⟨hi,hi8,hul,hue⟩:=hi;refine Cs (Csr (Zm rfl (Zv (OV.f0 6 rfl T.u32 rfl) (Zv (OV.ah (v:=.slice g.ta g.ts.length g.tc) rfl T.u30 rfl (fun _ hw=>(Jax (hw.it _ yM) (o:=6) rfl).1)) (Zv (OV.ae rfl T.u30) (Zv (OV.cq rfl rfl) (Zm rfl ?_)))))));refine Zp (t:=70) rfl (fun g70=>?_) (fun g70=>?_)
  ·refine yY (Zm rfl (yY (Zv (OV.cq rfl rfl) (Zv (OV.am rfl rfl) (Nn ?_)))));refine Cc rfl (fun c73=>?_) (fun c73=>?_)
   ·refine Ck (Xn (Cs (Cb (Hd (fun w'=>w'.heap[b3]?=some (.cells (cgC ⟨⟨⟨nvB (Jaf g.hd.x).b,(Jaf g.hd.x).name,(Jaf g.hd.x).args.map (safeT (((g.cl.bd.take 8).map Jaf).flatMap plc))⟩,ha,hac⟩,ba,bc,ys,ta,tc,us⟩).toArray 32 (0,0))∧w'.heap[b1]?=some (.cells (cgC g).toArray 32 (0,0))∧Keeps w w') [12] (fun _ hw=>⟨hw.it (oQ b3 (cgC ⟨⟨⟨nvB (Jaf g.hd.x).b,(Jaf g.hd.x).name,(Jaf g.hd.x).args.map (safeT (((g.cl.bd.take 8).map Jaf).flatMap plc))⟩,ha,hac⟩,ba,bc,ys,ta,tc,us⟩) 32) (by simp),hw.it (oQ b1 (cgC g) 32) (by simp),hw.keeps⟩) (m:=13) rfl ?_))));refine Hf 0 rfl (OV.f0 6 rfl T.u32 rfl) (Ht 1 rfl (OV.ah (v:=.slice ta us.length tc) rfl T.u30 rfl (fun _ hw=>(Jax hw.1 (o:=6) rfl).1)) (Hf 2 rfl (OV.f0 6 rfl T.u32 rfl) (Ht 3 rfl (OV.ah (v:=.slice g.ta g.ts.length g.tc) rfl T.u30 rfl (fun _ hw=>(Jax hw.2.1 (o:=6) rfl).1)) (Hf 4 rfl (OV.aw rfl) ?_))));obtain ⟨q1,t,hq,ht,htm,hc⟩:=hr.ts.get (i:=i) (by omega);refine Hf 5 rfl ((OV.ad (show _=some (Value.slice (some q1) g.ts.length g.tc) by rw [← hq];rfl) rfl T.u30 T.z61 (by omega)).cast (u:=.pointer (some (q1.add (i*7)))) (by rw [xN])) (Ht 6 rfl (OV.ai (cs:=tsC t) rfl T.u61 rfl T.z61 (fun _ hw j v hj=>hw.2.2 _ _ (hc j v hj))) (Hf 7 rfl (OV.aw rfl) (Ho 8 rfl (fl':=false) rfl ?_)));refine WL.au (v:=tsV (Jfu (((g.cl.bd.take 8).map Jaf).flatMap plc) t)) (by kernel_rfl) rfl rfl (fun w' hw'=>madeTest_calls t (((g.cl.bd.take 8).map Jaf).flatMap plc) la lc (by omega) w' (RT.of_row (c:=lc) rfl hw' yK)) ?_;refine Hc (fun _=>(fun _ hw=>⟨hw.it (oQ b3 (cgC ⟨⟨⟨nvB (Jaf g.hd.x).b,(Jaf g.hd.x).name,(Jaf g.hd.x).args.map (safeT (((g.cl.bd.take 8).map Jaf).flatMap plc))⟩,ha,hac⟩,ba,bc,ys,ta,tc,us⟩) 32) (by simp),hw.it (oQ b1 (cgC g) 32) (by simp),hw.keeps⟩)) ?_;refine Ho 9 rfl (fl':=false) rfl ?_;refine WL.bg (cs:=tsC (Jfu (((g.cl.bd.take 8).map Jaf).flatMap plc) t)) T.u30 T.z61 T.zr61 rfl rfl (by omega) (by omega) rfl ?_;intro b85;refine Hc (fun _=>(fun _ hw=>⟨hw.it (oQ b3 (cgC ⟨⟨⟨nvB (Jaf g.hd.x).b,(Jaf g.hd.x).name,(Jaf g.hd.x).args.map (safeT (((g.cl.bd.take 8).map Jaf).flatMap plc))⟩,ha,hac⟩,ba,bc,ys,ta,tc,us⟩) 32) (by simp),hw.it (oQ b1 (cgC g) 32) (by simp),hw.keeps⟩)) ?_;refine Ho 10 rfl (fl':=false) rfl ?_;refine WL.focus (ow':=rowS ta tc us::oQ b85 (tsC (Jfu (((g.cl.bd.take 8).map Jaf).flatMap plc) t)) 61::oQ b3 (cgC ⟨⟨⟨nvB (Jaf g.hd.x).b,(Jaf g.hd.x).name,(Jaf g.hd.x).args.map (safeT (((g.cl.bd.take 8).map Jaf).flatMap plc))⟩,ha,hac⟩,ba,bc,ys,ta,tc,us⟩) 32::rowT ha hac ((Jaf g.hd.x).args.map (safeT (((g.cl.bd.take 8).map Jaf).flatMap plc)))::rowT la lc (((g.cl.bd.take 8).map Jaf).flatMap plc)::oQ b2 (cgC ⟨⟨⟨T0,E0,[]⟩,none,0⟩,none,0,[],none,0,[]⟩) 32::oQ b1 (cgC g) 32::rowAt ba bc ys::argsA ys) (pmP [_,_,_,_,_,_,_] [2,0,1,3,4,5,6]) ?_;refine WL.append (news:=tsC (Jfu (((g.cl.bd.take 8).map Jaf).flatMap plc) t)) rfl rfl T.apS (fun _ _=>Jcw yI rfl) (Jog _) ⟨by omega,by unfold maxLen;omega⟩ rfl ?_;intro a86 c86;refine Hc (fun _=>(fun _ hw=>⟨hw.it (oQ b3 (cgC ⟨⟨⟨nvB (Jaf g.hd.x).b,(Jaf g.hd.x).name,(Jaf g.hd.x).args.map (safeT (((g.cl.bd.take 8).map Jaf).flatMap plc))⟩,ha,hac⟩,ba,bc,ys,ta,tc,us⟩) 32) (by simp),hw.it (oQ b1 (cgC g) 32) (by simp),hw.keeps⟩)) ?_;refine Hf 11 rfl (OV.f0 6 rfl T.u32 rfl) (Ho 12 rfl (fl':=true) rfl ?_);refine WL.focus perm2 (WL.bw (o:=6) rfl rfl rfl T.z30 (by show 6<7;omega) ?_);refine Hc (fun h=>by cases h) ?_;refine He (Xb (Xn (Cr (Zm rfl (Zv (OV.bm (j:=1) rfl rfl (by omega)) (Za rfl (Nl ?_)))))));have el:us.length+1=(us++[(Jfu (((g.cl.bd.take 8).map Jaf).flatMap plc) t)]).length:=by simp
    have ef:us.flatMap tsC++tsC (Jfu (((g.cl.bd.take 8).map Jaf).flatMap plc) t)=(us++[(Jfu (((g.cl.bd.take 8).map Jaf).flatMap plc) t)]).flatMap tsC:=by simp
    exact WX.cg (i+1) a86 c86 (us++[(Jfu (((g.cl.bd.take 8).map Jaf).flatMap plc) t)]) Y5 (fun w' hw=>⟨⟨by omega,by omega,by simp [hul],by rw [Jb3 ht,xU,hue];rfl⟩,by
     rw [el,ef] at hw;exact hw.pik [[oQ b3 (cgC ⟨⟨⟨nvB (Jaf g.hd.x).b,(Jaf g.hd.x).name,(Jaf g.hd.x).args.map (safeT (((g.cl.bd.take 8).map Jaf).flatMap plc))⟩,ha,hac⟩,ba,bc,ys,a86,c86,us++[(Jfu (((g.cl.bd.take 8).map Jaf).flatMap plc) t)]⟩) 32],[rowS a86 c86 (us++[(Jfu (((g.cl.bd.take 8).map Jaf).flatMap plc) t)])],[oQ b85 (tsC (Jfu (((g.cl.bd.take 8).map Jaf).flatMap plc) t)) 61],[rowT ha hac ((Jaf g.hd.x).args.map (safeT (((g.cl.bd.take 8).map Jaf).flatMap plc)))],[rowT la lc (((g.cl.bd.take 8).map Jaf).flatMap plc)],[oQ b2 (cgC ⟨⟨⟨T0,E0,[]⟩,none,0⟩,none,0,[],none,0,[]⟩) 32],[oQ b1 (cgC g) 32],rowAt ba bc ys::argsA ys] [0,1,3,4,5,6,7] 8⟩) (by show g.ts.length - (i+1)<g.ts.length - i;omega)
   refine Ce (Xe (Xe (Xh ?_)))
   have e8:g.cl.ts.take 8=g.ts.take i:=by
    show g.ts.take 8=g.ts.take i;rcases Nat.lt_or_ge i 8 with h | h
    ·rw [xK (by omega),xK (by omega)]
    ·rw [show i=8 by omega]
   exact WX.e5 (ta,tc,us) Y4 (fun w' hw=>⟨by rw [e8];exact hue,hw⟩)
  refine yX (yX (Zv (OV.aj rfl rfl) (Nn (WC.bu (show _=some (Value.bool false) from by rfl) ?_))));refine Ce (Xe (Xe (Xh ?_)))
  have e8:g.cl.ts.take 8=g.ts.take i:=by
   show g.ts.take 8=g.ts.take i;rcases Nat.lt_or_ge i 8 with h | h
   ·rw [xK (by omega),xK (by omega)]
   ·rw [show i=8 by omega]
  exact WX.e5 (ta,tc,us) Y4 (fun w' hw=>⟨by rw [e8];exact hue,hw⟩)
 rintro ⟨ta,tc,us⟩;refine WC.pure (fun hue8=>?_);replace hue8:us=(g.cl.ts.take 8).map (Jfu (((g.cl.bd.take 8).map Jaf).flatMap plc)):=hue8;refine Csr (Zv (OV.ai (cs:=cgC ⟨⟨⟨nvB (Jaf g.hd.x).b,(Jaf g.hd.x).name,(Jaf g.hd.x).args.map (safeT (((g.cl.bd.take 8).map Jaf).flatMap plc))⟩,ha,hac⟩,ba,bc,ys,ta,tc,us⟩) rfl T.u32 rfl T.z32 (fun _ hw j v hj=>by rw [Jap,xM];exact Jbh hw yH j v hj)) ?_)
 have hgc:CG.cl ⟨⟨⟨nvB (Jaf g.hd.x).b,(Jaf g.hd.x).name,(Jaf g.hd.x).args.map (safeT (((g.cl.bd.take 8).map Jaf).flatMap plc))⟩,ha,hac⟩,ba,bc,ys,ta,tc,us⟩=made0 g.cl:=by
  unfold CG.cl made0;simp only [hyx,hue8];rfl
 refine WL.cT (ι:=CG) (vs:=[cgV ⟨⟨⟨nvB (Jaf g.hd.x).b,(Jaf g.hd.x).name,(Jaf g.hd.x).args.map (safeT (((g.cl.bd.take 8).map Jaf).flatMap plc))⟩,ha,hac⟩,ba,bc,ys,ta,tc,us⟩]) (vv:=fun g'=>cgV g') (pp:=fun g'=>g'.cl=madeC g.cl) [] (AA:=fun g'=>cgA g') rfl (fun w' hw' _=>?_) ?_
 ·have h97:=made0_len g.cl;have h9:=normal_calls ⟨⟨⟨nvB (Jaf g.hd.x).b,(Jaf g.hd.x).name,(Jaf g.hd.x).args.map (safeT (((g.cl.bd.take 8).map Jaf).flatMap plc))⟩,ha,hac⟩,ba,bc,ys,ta,tc,us⟩ (by rw [hgc];omega) (by show ys.length≤_;omega) w' ⟨RT.of_row (c:=hac) (m:=((Jaf g.hd.x).args.map (safeT (((g.cl.bd.take 8).map Jaf).flatMap plc))).length) rfl hw' yJ,RA.of_row hw' (fun i hi=>.tail _ (yV (.tail _ (yV (.tail _ (.tail _ hi)))))),RS.of_row hw' yI⟩;rw [hgc] at h9;exact h9.mono (fun en w'' ⟨g',h1,h2,h3⟩=>⟨g',h1,h2,h3⟩)
 intro g' hg';refine WL.focus (ow':=oQ b2 (cgC ⟨⟨⟨T0,E0,[]⟩,none,0⟩,none,0,[],none,0,[]⟩) 32::(cgA g'++(oQ b3 (cgC ⟨⟨⟨nvB (Jaf g.hd.x).b,(Jaf g.hd.x).name,(Jaf g.hd.x).args.map (safeT (((g.cl.bd.take 8).map Jaf).flatMap plc))⟩,ha,hac⟩,ba,bc,ys,ta,tc,us⟩) 32::rowS ta tc us::rowT ha hac ((Jaf g.hd.x).args.map (safeT (((g.cl.bd.take 8).map Jaf).flatMap plc)))::rowT la lc (((g.cl.bd.take 8).map Jaf).flatMap plc)::oQ b1 (cgC g) 32::rowAt ba bc ys::argsA ys))) (pmC [cgA g',[oQ b3 (cgC ⟨⟨⟨nvB (Jaf g.hd.x).b,(Jaf g.hd.x).name,(Jaf g.hd.x).args.map (safeT (((g.cl.bd.take 8).map Jaf).flatMap plc))⟩,ha,hac⟩,ba,bc,ys,ta,tc,us⟩) 32],[rowS ta tc us],[rowT ha hac ((Jaf g.hd.x).args.map (safeT (((g.cl.bd.take 8).map Jaf).flatMap plc)))],[rowT la lc (((g.cl.bd.take 8).map Jaf).flatMap plc)],[oQ b2 (cgC ⟨⟨⟨T0,E0,[]⟩,none,0⟩,none,0,[],none,0,[]⟩) 32],[oQ b1 (cgC g) 32],rowAt ba bc ys::argsA ys] [5,0,1,2,3,4,6,7]) ?_;refine WL.ag (vs:=cgC g') rfl rfl rfl T.z32 rfl ?_;refine Nn (WC.az ?_);refine WX.retC (cs:=cgC g') rfl rfl rfl T.u32 rfl T.z32 (fun w' hw j v hj=>Jbh hw yH j v hj) (fun w' hw=>⟨g',rfl,hg',?_⟩);exact (hw.pik [[oQ b2 (cgC g') 32],cgA g',[oQ b3 (cgC ⟨⟨⟨nvB (Jaf g.hd.x).b,(Jaf g.hd.x).name,(Jaf g.hd.x).args.map (safeT (((g.cl.bd.take 8).map Jaf).flatMap plc))⟩,ha,hac⟩,ba,bc,ys,ta,tc,us⟩) 32],[rowS ta tc us],[rowT ha hac ((Jaf g.hd.x).args.map (safeT (((g.cl.bd.take 8).map Jaf).flatMap plc)))],[rowT la lc (((g.cl.bd.take 8).map Jaf).flatMap plc)],[oQ b1 (cgC g) 32],rowAt ba bc ys::argsA ys] [1] 8).turned0
def Str {α:Type}(f:α→α→Int)(L:List α):Prop:=L.Pairwise fun a b=>f a b<0
theorem Str.nodup {α:Type}{f:α→α→Int}(hf:CmpOK f){L:List α}(h:Str f L):L.Nodup:=
 List.Pairwise.imp (fun {a b} hab e=>by rw [e,hf.refl] at hab;omega) h
theorem Str.ext {α:Type}{f:α→α→Int}(hf:CmpOK f):∀ {L M:List α},Str f L→Str f M→(∀ x,x∈L↔x∈M)→L=M
 | [],[],_,_,_=>rfl
 | [],y::M,_,_,h=>by have:=(h y).2 (by simp);cases this
 | x::L,[],_,_,h=>by have:=(h x).1 (by simp);cases this
 | x::L,y::M,hl,hm,h=>by
  obtain ⟨h1,h2⟩:=List.pairwise_cons.1 hl;obtain ⟨m1,m2⟩:=List.pairwise_cons.1 hm
  have e:x=y:=by
   rcases List.mem_cons.1 ((h x).1 (by simp)) with hh | hh
   ·exact hh
   ·rcases List.mem_cons.1 ((h y).2 (by simp)) with kk | kk
    ·exact kk.symm
    ·have a:=m1 x hh;have b:=h1 y kk;have:=hf.anti x y;omega
  subst e;refine congrArg (x::·) (Str.ext hf h2 m2 fun z=>⟨fun hz=>?_,fun hz=>?_⟩)
  ·rcases List.mem_cons.1 ((h z).1 (by simp [hz])) with rfl | hh
   ·have:=h1 z hz;rw [hf.refl] at this;omega
   ·exact hh
  ·rcases List.mem_cons.1 ((h z).2 (by simp [hz])) with rfl | hh
   ·have:=m1 z hz;rw [hf.refl] at this;omega
   ·exact hh
abbrev cmpR:List Tm→List Tm→Int:=Jb0 cmpT
theorem Jn2:CmpOK cmpR:=Jgw Jn1
theorem Jom {F:List (At × Nat)}{parts:Int}{x:At}:x∈selF F parts↔∃ n,(x,n)∈F∧inP parts n=true:=by
 unfold selF;simp only [xS,List.mem_filter];exact ⟨fun ⟨q,⟨h1,h2⟩,h3⟩=>⟨q.2,by rw [← h3];exact h1,h2⟩,fun ⟨n,h1,h2⟩=>⟨(x,n),⟨h1,h2⟩,rfl⟩⟩
theorem mem_turnF {F:List (At × Nat)}{x:At}{n:Nat}:(x,n)∈turnF F↔∃ m,(x,m)∈F∧n=if m=4 then 2 else 1:=by
 unfold turnF;simp only [xS,Prod.mk.injEq];exact ⟨fun ⟨q,h1,h2,h3⟩=>⟨q.2,by rw [← h2];exact h1,h3.symm⟩,fun ⟨m,h1,h2⟩=>⟨(x,m),h1,rfl,h2.symm⟩⟩
def Jdh (O N X:List At):List (At × Nat):=Jeu (turnF (Jeu (turnF (turnF (Jeu [] O))) N)) X
theorem mem_filled {O N X:List At}{x:At}{n:Nat}:(x,n)∈Jdh O N X↔factB x=true∧((n=1∧x∈O)∨(n=2∧x∉O∧x∈N)∨(n=4∧x∉O∧x∉N∧x∈X)):=by
 have h0:∀ m,(x,m)∈Jeu [] O↔m=4∧x∈O∧factB x=true:=fun m=>by rw [Jjo];simp
 have h1:∀ m,(x,m)∈turnF (turnF (Jeu [] O))↔m=1∧x∈O∧factB x=true:=fun m=>by
  rw [mem_turnF];constructor
  ·rintro ⟨a,ha,rfl⟩;obtain ⟨b,hb,rfl⟩:=mem_turnF.1 ha;obtain ⟨rfl,h2⟩:=(h0 b).1 hb;exact ⟨rfl,h2⟩
  ·rintro ⟨rfl,h2⟩;exact ⟨2,mem_turnF.2 ⟨4,(h0 4).2 ⟨rfl,h2⟩,rfl⟩,rfl⟩
 have k1:x∈(turnF (turnF (Jeu [] O))).map (·.1)↔x∈O∧factB x=true:=by
  constructor
  ·intro h;obtain ⟨⟨y,m⟩,hq,rfl⟩:=List.mem_map.1 h;exact ((h1 m).1 hq).2
  ·intro h;exact List.mem_map.2 ⟨(x,1),(h1 1).2 ⟨rfl,h⟩,rfl⟩
 have h2:∀ m,(x,m)∈Jeu (turnF (turnF (Jeu [] O))) N↔factB x=true∧((m=1∧x∈O)∨(m=4∧x∉O∧x∈N)):=fun m=>by
  rw [Jjo,h1,k1];constructor
  ·rintro (⟨a,b,c⟩ | ⟨a,b,c,d⟩)
   ·exact ⟨c,Or.inl ⟨a,b⟩⟩
   ·exact ⟨c,Or.inr ⟨a,fun h=>d ⟨h,c⟩,b⟩⟩
  ·rintro ⟨c,⟨a,b⟩ | ⟨a,b,d⟩⟩
   ·exact Or.inl ⟨a,b,c⟩
   ·exact Or.inr ⟨a,d,c,fun h=>b h.1⟩
 have h3:∀ m,(x,m)∈turnF (Jeu (turnF (turnF (Jeu [] O))) N)↔factB x=true∧((m=1∧x∈O)∨(m=2∧x∉O∧x∈N)):=fun m=>by
  rw [mem_turnF];constructor
  ·rintro ⟨a,ha,rfl⟩;obtain ⟨c,⟨rfl,b⟩ | ⟨rfl,b,d⟩⟩:=(h2 a).1 ha
   ·exact ⟨c,Or.inl ⟨rfl,b⟩⟩
   ·exact ⟨c,Or.inr ⟨rfl,b,d⟩⟩
  ·rintro ⟨c,⟨rfl,b⟩ | ⟨rfl,b,d⟩⟩
   ·exact ⟨1,(h2 1).2 ⟨c,Or.inl ⟨rfl,b⟩⟩,rfl⟩
   ·exact ⟨4,(h2 4).2 ⟨c,Or.inr ⟨rfl,b,d⟩⟩,rfl⟩
 have k3:x∈(turnF (Jeu (turnF (turnF (Jeu [] O))) N)).map (·.1)↔factB x=true∧(x∈O∨x∈N):=by
  constructor
  ·intro h;obtain ⟨⟨y,m⟩,hq,rfl⟩:=List.mem_map.1 h;obtain ⟨c,⟨_,b⟩ | ⟨_,_,d⟩⟩:=(h3 m).1 hq
   ·exact ⟨c,Or.inl b⟩
   ·exact ⟨c,Or.inr d⟩
  ·rintro ⟨c,h⟩
   by_cases ho:x∈O
   ·exact List.mem_map.2 ⟨(x,1),(h3 1).2 ⟨c,Or.inl ⟨rfl,ho⟩⟩,rfl⟩
   ·exact List.mem_map.2 ⟨(x,2),(h3 2).2 ⟨c,Or.inr ⟨rfl,ho,h.resolve_left ho⟩⟩,rfl⟩
 unfold Jdh;rw [Jjo,h3,k3];constructor
 ·rintro (⟨c,h⟩ | ⟨a,b,c,d⟩)
  ·refine ⟨c,?_⟩;rcases h with h | h
   ·exact Or.inl h
   ·exact Or.inr (Or.inl h)
  ·exact ⟨c,Or.inr (Or.inr ⟨a,fun h=>d ⟨c,Or.inl h⟩,fun h=>d ⟨c,Or.inr h⟩,b⟩)⟩
 ·rintro ⟨c,h | h | ⟨a,b,d,e⟩⟩
  ·exact Or.inl ⟨c,Or.inl h⟩
  ·exact Or.inl ⟨c,Or.inr h⟩
  ·exact Or.inr ⟨a,e,c,fun h=>h.2.elim b d⟩
theorem in31:inP 3 1=true:=by decide
theorem in32:inP 3 2=true:=by decide
theorem in34:inP 3 4=false:=by decide
theorem sel_filled {O N X:List At}{x:At}:x∈selF (Jdh O N X) 3↔factB x=true∧(x∈O∨x∈N):=by
 rw [Jom];constructor
 ·rintro ⟨n,h,hp⟩;obtain ⟨c,⟨rfl,b⟩ | ⟨rfl,_,b⟩ | ⟨rfl,_⟩⟩:=mem_filled.1 h
  ·exact ⟨c,Or.inl b⟩
  ·exact ⟨c,Or.inr b⟩
  ·rw [in34] at hp;cases hp
 ·rintro ⟨c,h⟩
  by_cases ho:x∈O
  ·exact ⟨1,mem_filled.2 ⟨c,Or.inl ⟨rfl,ho⟩⟩,in31⟩
  ·exact ⟨2,mem_filled.2 ⟨c,Or.inr (Or.inl ⟨rfl,ho,h.resolve_left ho⟩)⟩,in32⟩
theorem Sol.mono {F G:Nat→At→Prop}(h:∀ i x,F i x→G i x){c:Cl}{n:Nat}{r:List Tm}(k:Sol F c n r):Sol G c n r:=
 ⟨k.len,k.ts,fun i a hi=>⟨h _ _ (k.bd i a hi).1,(k.bd i a hi).2⟩⟩
theorem Sol.congr {F G:Nat→At→Prop}(h:∀ i x,F i x↔G i x){c:Cl}{n:Nat}{r:List Tm}:Sol F c n r↔Sol G c n r:=
 ⟨Sol.mono fun i x=>(h i x).1,Sol.mono fun i x=>(h i x).2⟩
structure Jn where
 a:Nat
 kn:List Nat
 ts:List Nat
def knB (V:List Int)(t:Tm):Bool:=!varB t || decide (t.n∈V)
def Jbx (V:List Int)(x:At):List Nat:=(List.range (plc x).length).filter fun i=>knB V ((plc x).getD i T0)
def btr (V:List Int)(x y:At):Bool:=
 if (Jbx V x).length≠(Jbx V y).length then decide ((Jbx V y).length<(Jbx V x).length) else decide (x.args.length+1 - (Jbx V x).length<y.args.length+1 - (Jbx V y).length)
def nxF (c:Cl)(jo:List Nat)(V:List Int)(b:Option Nat)(i:Nat):Option Nat:=
 if i∈jo then b else match b with
  | none=>some i
  | some y=>if btr V (clA c i) (clA c y)=true then some i else some y
def nextP (c:Cl)(jo:List Nat)(V:List Int):Option Nat:=(List.range c.bd.length).foldl (nxF c jo V) none
def Jip (V:List Int)(t:Ts):Bool:=knB V t.l && knB V t.r
def pick1 (c:Cl)(lead:Option Nat)(jo:List Nat)(V:List Int):Nat:=if jo=[]∧lead.isSome=true then lead.getD 0 else (nextP c jo V).getD 0
def Jd9 (c:Cl)(V:List Int)(A:List Nat):List Nat:=(List.range c.ts.length).filter fun i=>Jip V (clT c i) && decide (i∉A)
def mkR (c:Cl)(lead:Option Nat):Nat→List Nat→List Int→List Nat→List Jn
 | 0,_,_,_=>[]
 | n+1,jo,V,A=>
  ⟨pick1 c lead jo V,Jbx V (clA c (pick1 c lead jo V)),Jd9 c (V++Jaq (clA c (pick1 c lead jo V))) A⟩ ::
   mkR c lead n (jo++[pick1 c lead jo V]) (V++Jaq (clA c (pick1 c lead jo V))) (A++Jd9 c (V++Jaq (clA c (pick1 c lead jo V))) A)
def Jbp (c:Cl):List Nat:=(List.range c.ts.length).filter fun i=>!varB (clT c i).l && !varB (clT c i).r
def makeP (c:Cl)(lead:Option Nat):List Jn:=mkR c lead c.bd.length [] [] (Jbp c)
abbrev jnP (J:List Jn):List (Nat × List Nat):=J.map fun j=>(j.a,j.ts)
theorem perm_range {l:List Nat}{n:Nat}(hn:l.Nodup)(hb:∀ i∈l,i<n)(hl:l.length=n):l.Perm (List.range n):=by
 have h1:l.Perm ((List.range n).filter fun i=>decide (i∈l)):=(List.perm_ext_iff_of_nodup hn (List.nodup_range.filter _)).2 fun i=>by
  simp only [List.mem_filter,List.mem_range,decide_eq_true_eq];exact ⟨fun hi=>⟨hb i hi,hi⟩,fun hi=>hi.2⟩
 have h2:((List.range n).filter fun i=>decide (i∈l))=List.range n:=List.filter_sublist.eq_of_length (by rw [← h1.length_eq,hl];simp);rw [h2] at h1;exact h1
theorem nx_fold (c:Cl)(jo:List Nat)(V:List Int):∀ (l:List Nat) (b:Option Nat),(∀ y,b=some y→y∉jo) →
  (∀ y,l.foldl (nxF c jo V) b=some y→y∉jo∧(b=some y∨y∈l))∧((∃ i∈l,i∉jo)∨b.isSome=true→(l.foldl (nxF c jo V) b).isSome=true)
 | [],b,hb=>⟨fun y hy=>⟨hb y hy,Or.inl hy⟩,fun h=>by
  rcases h with ⟨i,hi,_⟩ | h
  ·cases hi
  ·exact h⟩
 | i::l,b,hb=>by
  have hb2:∀ y,nxF c jo V b i=some y→y∉jo∧(b=some y∨y=i):=fun y hy=>by
   unfold nxF at hy
   split at hy
   ·exact ⟨hb y hy,Or.inl hy⟩
   ·rename_i hi;cases b with
    | none=>simp only [Option.some.injEq] at hy;subst hy;exact ⟨hi,Or.inr rfl⟩
    | some z=>
     simp only at hy
     split at hy
     ·simp only [Option.some.injEq] at hy;subst hy;exact ⟨hi,Or.inr rfl⟩
     ·exact ⟨hb y hy,Or.inl hy⟩
  obtain ⟨h1,h2⟩:=nx_fold c jo V l (nxF c jo V b i) (fun y hy=>(hb2 y hy).1);refine ⟨fun y hy=>?_,fun h=>?_⟩
  ·obtain ⟨k1,k2⟩:=h1 y hy;refine ⟨k1,?_⟩;rcases k2 with k2 | k2
   ·rcases (hb2 y k2).2 with h | rfl
    ·exact Or.inl h
    ·exact Or.inr (by simp)
   ·exact Or.inr (yB _ k2)
  ·refine h2 ?_
   have hs:b.isSome=true→(nxF c jo V b i).isSome=true:=fun hh=>by
    obtain ⟨z,rfl⟩:=Option.isSome_iff_exists.1 hh;unfold nxF
    split
    ·rfl
    ·simp only
     split <;> rfl
   rcases h with ⟨j,hj,hn⟩ | h
   ·rcases List.mem_cons.1 hj with rfl | hj
    ·right
     by_cases hb0:b.isSome=true
     ·exact hs hb0
     ·have:b=none:=by simpa using hb0
      subst this;unfold nxF;rw [if_neg hn];rfl
    ·exact Or.inl ⟨j,hj,hn⟩
   ·exact Or.inr (hs h)
theorem Jol {c:Cl}{jo:List Nat}{V:List Int}(hn:jo.Nodup)(hb:∀ i∈jo,i<c.bd.length)(hl:jo.length<c.bd.length):∃ y,nextP c jo V=some y∧y∉jo∧y<c.bd.length:=by
 obtain ⟨h1,h2⟩:=nx_fold c jo V (List.range c.bd.length) none (fun y hy=>by cases hy)
 have h3:∃ i∈List.range c.bd.length,i∉jo:=by
  refine Classical.byContradiction fun h=>?_
  have h4:∀ i,i<c.bd.length→i∈jo:=fun i hi=>Classical.byContradiction fun k=>h ⟨i,List.mem_range.2 hi,k⟩
  have h5:jo.Perm (List.range c.bd.length):=(List.perm_ext_iff_of_nodup hn List.nodup_range).2 fun i=>⟨fun hi=>List.mem_range.2 (hb i hi),fun hi=>h4 i (List.mem_range.1 hi)⟩
  have:=h5.length_eq;rw [List.length_range] at this;omega
 obtain ⟨y,hy⟩:=Option.isSome_iff_exists.1 (h2 (Or.inl h3));obtain ⟨k1,k2⟩:=h1 y hy;refine ⟨y,hy,k1,?_⟩;rcases k2 with h | h
 ·cases h
 ·exact List.mem_range.1 h
theorem knB_iff {V:List Int}{t:Tm}:knB V t=true↔(varB t=true→t.n∈V):=by
 unfold knB;cases varB t <;> simp
theorem Jj7 {V:List Int}{t:Ts}:Jip V t=true↔∀ v∈varsT t,v∈V:=by
 unfold Jip;rw [yA,knB_iff,knB_iff];unfold varsT;constructor
 ·rintro ⟨h1,h2⟩ v hv;obtain ⟨x,hx,rfl⟩:=List.mem_map.1 hv;obtain ⟨hx1,hx2⟩:=List.mem_filter.1 hx;simp only [yG,List.not_mem_nil,or_false] at hx1;rcases hx1 with rfl | rfl
  ·exact h1 hx2
  ·exact h2 hx2
 ·intro h;exact ⟨fun hv=>h _ (List.mem_map.2 ⟨t.l,List.mem_filter.2 ⟨by simp,hv⟩,rfl⟩),fun hv=>h _ (List.mem_map.2 ⟨t.r,List.mem_filter.2 ⟨by simp,hv⟩,rfl⟩)⟩
theorem mkR_spec {c:Cl}{lead:Option Nat}(hlead:∀ l,lead=some l→l<c.bd.length):∀ (n:Nat) (jo:List Nat) (V:List Int) (A:List Nat),jo.length+n=c.bd.length→jo.Nodup→(∀ i∈jo,i<c.bd.length) →
  (∀ v,v∈V↔∃ i∈jo,v∈Jaq (clA c i))→(∀ i,i<c.ts.length→(Jip V (clT c i)=true↔i∈A)) →
  (jo++(mkR c lead n jo V A).map (·.a)).Nodup∧(∀ j∈mkR c lead n jo V A,j.a<c.bd.length∧∀ i∈j.ts,i<c.ts.length)∧(mkR c lead n jo V A).length=n∧tk c (fun v=>v∈V) (jnP (mkR c lead n jo V A)) ∧
   (∀ i,i<c.ts.length→(∀ v∈varsT (clT c i),∃ k,k<c.bd.length∧v∈Jaq (clA c k))→i∈A∨∃ j∈mkR c lead n jo V A,i∈j.ts)
 | 0,jo,V,A,hl,hn,hb,hV,hA=>by
  refine ⟨by simpa [mkR] using hn,by simp [mkR],rfl,trivial,fun i hi hv=>Or.inl ?_⟩;have hp:=perm_range hn hb (by omega);rw [← hA i hi,Jj7];intro v h;obtain ⟨k,hk,hk2⟩:=hv v h;exact (hV v).2 ⟨k,hp.mem_iff.2 (List.mem_range.2 hk),hk2⟩
 | n+1,jo,V,A,hl,hn,hb,hV,hA=>by
  obtain ⟨y,hy,hyj,hyb⟩:=Jol (V:=V) hn hb (by omega);obtain ⟨a,ha⟩:∃ a,a=pick1 c lead jo V:=⟨_,rfl⟩
  have hab:a∉jo∧a<c.bd.length:=by
   rw [ha];unfold pick1
   split
   ·rename_i h;obtain ⟨l,hl2⟩:=Option.isSome_iff_exists.1 h.2;rw [h.1,hl2];exact ⟨by simp,hlead l hl2⟩
   ·rw [hy];exact ⟨hyj,hyb⟩
  obtain ⟨V',hV'⟩:∃ V',V'=V++Jaq (clA c a):=⟨_,rfl⟩
  obtain ⟨ts,hts⟩:∃ ts,ts=Jd9 c V' A:=⟨_,rfl⟩
  have hm:mkR c lead (n+1) jo V A=⟨a,Jbx V (clA c a),ts⟩::mkR c lead n (jo++[a]) V' (A++ts):=by rw [hts,hV',ha];rfl
  have htm:∀ i,i∈ts↔i<c.ts.length∧Jip V' (clT c i)=true∧i∉A:=fun i=>by
   rw [hts];unfold Jd9;simp [List.mem_filter]
  have hVm:∀ v,v∈V'↔v∈V∨v∈Jaq (clA c a):=fun v=>by rw [hV',xT]
  obtain ⟨i1,i2,i3,i4,i5⟩:=mkR_spec hlead n (jo++[a]) V' (A++ts) (by simp;omega) (List.nodup_append.2 ⟨hn,by simp,fun x hx z hz=>by simp only [xI] at hz;subst hz;rintro rfl;exact hab.1 hx⟩)
   (fun i hi=>by
    rcases List.mem_append.1 hi with h | h
    ·exact hb i h
    ·simp only [xI] at h;rw [h];exact hab.2)
   (fun v=>by
    rw [hVm,hV];constructor
    ·rintro (⟨i,hi,h⟩ | h)
     ·exact ⟨i,by simp [hi],h⟩
     ·exact ⟨a,by simp,h⟩
    ·rintro ⟨i,hi,h⟩;rcases List.mem_append.1 hi with hh | hh
     ·exact Or.inl ⟨i,hh,h⟩
     ·simp only [xI] at hh;rw [hh] at h;exact Or.inr h)
   (fun i hi=>by
    rw [xT,htm];constructor
    ·intro h
     by_cases hh:i∈A
     ·exact Or.inl hh
     ·exact Or.inr ⟨hi,h,hh⟩
    ·rintro (h | h)
     ·have h2:=Jj7.1 ((hA i hi).2 h);exact Jj7.2 fun v hv=>(hVm v).2 (Or.inl (h2 v hv))
     ·exact h.2.1)
  rw [hm];refine ⟨by rw [xF] at i1;exact i1,fun j hj=>?_,by simp [i3],⟨fun i hi v hv=>?_,?_⟩,fun i hi hv=>?_⟩
  ·rcases List.mem_cons.1 hj with rfl | hj
   ·exact ⟨hab.2,fun i hi=>((htm i).1 hi).1⟩
   ·exact i2 j hj
  ·have h2:=Jj7.1 ((htm i).1 hi).2.1 v hv;exact (hVm v).1 h2
  ·have e:(fun v=>v∈V∨v∈Jaq (clA c a))=fun v=>v∈V':=funext fun v=>propext (hVm v).symm
   show tk c (fun v=>v∈V∨v∈Jaq (clA c a)) _;rw [e];exact i4
  ·rcases i5 i hi hv with h | ⟨j,hj,h⟩
   ·rcases List.mem_append.1 h with h | h
    ·exact Or.inl h
    ·exact Or.inr ⟨_,List.mem_cons_self,h⟩
   ·exact Or.inr ⟨j,yB _ hj,h⟩
theorem mem_aheadP {c:Cl}{i:Nat}:i∈Jbp c↔i<c.ts.length∧varsT (clT c i)=[]:=by
 unfold Jbp varsT;rw [List.mem_filter,List.mem_range];refine and_congr_right fun _=>?_
 cases h1:varB (clT c i).l <;> cases h2:varB (clT c i).r <;> simp [h1,h2]
theorem plan_ok {c:Cl}(hc:CVn c (nV c)){lead:Option Nat}(hlead:∀ l,lead=some l→l<c.bd.length):PlanOK c (Jbp c) (jnP (makeP c lead)):=by
 obtain ⟨h1,h2,h3,h4,h5⟩:=mkR_spec hlead c.bd.length [] [] (Jbp c) (by simp) List.nodup_nil (by simp) (by simp) (fun i hi=>by
  rw [mem_aheadP,Jj7];constructor
  ·intro h;refine ⟨hi,List.eq_nil_iff_forall_not_mem.2 fun v hv=>?_⟩;have:=h v hv;cases this
  ·rintro ⟨_,h⟩ v hv;rw [h] at hv;cases hv)
 refine ⟨?_,fun i hi=>(mem_aheadP.1 hi).1,fun j hj=>?_,fun i hi=>?_,fun i hi=>(mem_aheadP.1 hi).2,?_⟩
 ·have e:(jnP (makeP c lead)).map (·.1)=(makeP c lead).map (·.a):=by simp [jnP]
  rw [e];refine perm_range (by simpa [makeP] using h1) (fun i hi=>?_) (by rw [xE];exact h3);obtain ⟨j,hj,rfl⟩:=List.mem_map.1 hi;exact (h2 j hj).1
 ·obtain ⟨q,hq,rfl⟩:=List.mem_map.1 hj;exact (h2 q hq).2
 ·have hv:∀ v∈varsT (clT c i),∃ k,k<c.bd.length∧v∈Jaq (clA c k):=fun v hv=>by
   have e:=Jpa (xD hi);obtain ⟨a,ha,hva⟩:=(hc.body v).2 (hc.ts _ (List.getElem_mem hi) v (by rw [← e];exact hv));obtain ⟨k,hk⟩:=List.mem_iff_getElem?.1 ha;exact ⟨k,(List.getElem?_eq_some_iff.1 hk).1,by rw [Jnm hk];exact hva⟩
  rcases h5 i hi hv with h | ⟨j,hj,h⟩
  ·exact Or.inl h
  ·exact Or.inr ⟨_,List.mem_map.2 ⟨j,hj,rfl⟩,h⟩
 ·have e:(fun v:Int=>v∈([]:List Int))=fun _=>False:=funext fun v=>by simp
  rw [e] at h4;exact h4
def Jby (i:Nat)(lead:Option Nat):Int:=match lead with
 | none=>3
 | some l=>if l<i then 3 else if i=l then 2 else 1
abbrev FFs (F:List (At × Nat))(lead:Option Nat)(i:Nat)(x:At):Prop:=x∈selF F (Jby i lead)
theorem in21:inP 2 1=false:=by decide
theorem in22:inP 2 2=true:=by decide
theorem in24:inP 2 4=false:=by decide
theorem in11:inP 1 1=true:=by decide
theorem in12:inP 1 2=false:=by decide
theorem in14:inP 1 4=false:=by decide
theorem sel_old {O N X:List At}{x:At}:x∈selF (Jdh O N X) 1↔factB x=true∧x∈O:=by
 rw [Jom];constructor
 ·rintro ⟨n,h,hp⟩;obtain ⟨c,⟨rfl,b⟩ | ⟨rfl,_,b⟩ | ⟨rfl,_⟩⟩:=mem_filled.1 h
  ·exact ⟨c,b⟩
  ·rw [in12] at hp;cases hp
  ·rw [in14] at hp;cases hp
 ·rintro ⟨c,h⟩;exact ⟨1,mem_filled.2 ⟨c,Or.inl ⟨rfl,h⟩⟩,in11⟩
theorem sel_new {O N X:List At}{x:At}:x∈selF (Jdh O N X) 2↔factB x=true∧x∉O∧x∈N:=by
 rw [Jom];constructor
 ·rintro ⟨n,h,hp⟩;obtain ⟨c,⟨rfl,b⟩ | ⟨rfl,b⟩ | ⟨rfl,_⟩⟩:=mem_filled.1 h
  ·rw [in21] at hp;cases hp
  ·exact ⟨c,b⟩
  ·rw [in24] at hp;cases hp
 ·rintro ⟨c,h⟩;exact ⟨2,mem_filled.2 ⟨c,Or.inr (Or.inl ⟨rfl,h⟩)⟩,in22⟩
structure Parts3 (A B U:At→Prop):Prop where
 u:∀ x,U x↔A x∨B x
 d:∀ x,A x→¬ B x
def leadF (A B U:At→Prop)(l i:Nat)(x:At):Prop:=if l<i then U x else if i=l then B x else A x
theorem sol_lead {A B U:At→Prop}(h:Parts3 A B U){c:Cl}{n:Nat}{r:List Tm}(k:Sol (fun _=>U) c n r):Sol (fun _=>A) c n r∨∃ l,l<c.bd.length∧Sol (leadF A B U l) c n r:=by
 by_cases hA:∀ (i:Nat) (a:At),c.bd[i]?=some a→A (appD (bnV r) a)
 ·exact Or.inl ⟨k.len,k.ts,fun i a hi=>⟨hA i a hi,(k.bd i a hi).2⟩⟩
 ·right
  have key:∀ m:Nat,(∀ i:Nat,i<m→∀ a:At,c.bd[i]?=some a→A (appD (bnV r) a))∨∃ (l:Nat) (a:At),l<m∧c.bd[l]?=some a∧¬ A (appD (bnV r) a)∧∀ i:Nat,i<l→∀ b:At,c.bd[i]?=some b→A (appD (bnV r) b):=by
   intro m
   induction m with
   | zero=>exact Or.inl fun i hi=>by omega
   | succ m ih=>
    rcases ih with ih | ⟨l,a,h1,h2,h3,h4⟩
    ·by_cases hm:∀ a,c.bd[m]?=some a→A (appD (bnV r) a)
     ·refine Or.inl fun i hi a ha=>?_
      by_cases e:i=m
      ·subst e;exact hm a ha
      ·exact ih i (by omega) a ha
     ·obtain ⟨a,ha⟩:=Classical.not_forall.1 hm;obtain ⟨ha1,ha2⟩:=Classical.not_imp.1 ha;exact Or.inr ⟨m,a,by omega,ha1,ha2,ih⟩
    ·exact Or.inr ⟨l,a,by omega,h2,h3,h4⟩
  rcases key c.bd.length with hh | ⟨l,a,h1,h2,h3,h4⟩
  ·exact absurd (fun i a hi=>hh i (List.getElem?_eq_some_iff.1 hi).1 a hi) hA
  ·refine ⟨l,h1,k.len,k.ts,fun i b hi=>⟨?_,(k.bd i b hi).2⟩⟩;unfold leadF
   split
   ·exact (k.bd i b hi).1
   ·split
    ·rename_i e;subst e;rw [h2] at hi;rw [← xH hi];exact ((h.u _).1 (k.bd i a h2).1).resolve_left h3
    ·exact h4 i (by omega) b hi
theorem lead_all {A B U:At→Prop}(h:Parts3 A B U){c:Cl}{n l:Nat}{r:List Tm}(k:Sol (leadF A B U l) c n r):Sol (fun _=>U) c n r:=
 k.mono fun i x hx=>by
  unfold leadF at hx
  split at hx
  ·exact hx
  ·split at hx
   ·exact (h.u x).2 (Or.inr hx)
   ·exact (h.u x).2 (Or.inl hx)
theorem lead_not {A B U:At→Prop}(h:Parts3 A B U){c:Cl}{n l:Nat}(hl:l<c.bd.length){r:List Tm}(k:Sol (leadF A B U l) c n r):¬ Sol (fun _=>A) c n r:=fun k2=>by
 have e:=xD hl;have h1:=(k.bd l _ e).1;unfold leadF at h1;rw [if_neg (by omega),if_pos rfl] at h1;exact h.d _ (k2.bd l _ e).1 h1
theorem lead_one {A B U:At→Prop}(h:Parts3 A B U){c:Cl}{n l m:Nat}(hl:l<m)(hm:m<c.bd.length){r:List Tm}(k:Sol (leadF A B U l) c n r)(k2:Sol (leadF A B U m) c n r):False:=by
 have e:=xD (Nat.lt_trans hl hm);have h1:=(k.bd l _ e).1;have h2:=(k2.bd l _ e).1;unfold leadF at h1 h2;rw [if_neg (by omega),if_pos rfl] at h1;rw [if_neg (by omega),if_neg (by omega)] at h2;exact h.d _ h2 h1
theorem parts_count {A B U:At→Prop}(h:Parts3 A B U){c:Cl}{n:Nat}{La Lo:List (List Tm)}{Ls:Nat→List (List Tm)}(na:La.Nodup)(no:Lo.Nodup)(ns:∀ l,l<c.bd.length→(Ls l).Nodup) 
  (ma:∀ r,r∈La↔Sol (fun _=>U) c n r) (mo:∀ r,r∈Lo↔Sol (fun _=>A) c n r) (ms:∀ l,l<c.bd.length→∀ r,r∈Ls l↔Sol (leadF A B U l) c n r) :
  Lo.length+((List.range c.bd.length).map fun l=>(Ls l).length).sum=La.length:=by
 have key:∀ m,m≤c.bd.length→(Lo++(List.range m).flatMap Ls).Nodup:=by
  intro m
  induction m with
  | zero=>intro _;simpa using no
  | succ m ih=>
   intro hm;rw [List.range_succ,List.flatMap_append,← xF];refine List.nodup_append.2 ⟨ih (by omega),by simpa using ns m (by omega),fun x hx y hy=>?_⟩;simp only [List.flatMap_cons,List.flatMap_nil,xZ] at hy;rintro rfl;have k2:=(ms m (by omega) x).1 hy;rcases List.mem_append.1 hx with hh | hh
   ·exact lead_not h (by omega) k2 ((mo x).1 hh)
   ·obtain ⟨l,hl,hx2⟩:=List.mem_flatMap.1 hh;have hl2:=List.mem_range.1 hl;exact lead_one h hl2 (by omega) ((ms l (by omega) x).1 hx2) k2
 have hp:(Lo++(List.range c.bd.length).flatMap Ls).Perm La:=(List.perm_ext_iff_of_nodup (key _ (Nat.le_refl _)) na).2 fun r=>by
  rw [xT,ma];constructor
  ·rintro (hh | hh)
   ·exact ((mo r).1 hh).mono fun i x hx=>(h.u x).2 (Or.inl hx)
   ·obtain ⟨l,hl,hr⟩:=List.mem_flatMap.1 hh;exact lead_all h ((ms l (List.mem_range.1 hl) r).1 hr)
  ·intro k;rcases sol_lead h k with hh | ⟨l,hl,hh⟩
   ·exact Or.inl ((mo r).2 hh)
   ·exact Or.inr (List.mem_flatMap.2 ⟨l,List.mem_range.2 hl,(ms l hl r).2 hh⟩)
 rw [← hp.length_eq,xL,List.length_flatMap]
theorem filled_parts (O N X:List At):Parts3 (fun x=>x∈selF (Jdh O N X) 1) (fun x=>x∈selF (Jdh O N X) 2) (fun x=>x∈selF (Jdh O N X) 3):=by
 refine ⟨fun x=>?_,fun x h=>?_⟩
 ·rw [sel_filled,sel_old,sel_new];constructor
  ·rintro ⟨c,h⟩
   by_cases ho:x∈O
   ·exact Or.inl ⟨c,ho⟩
   ·exact Or.inr ⟨c,ho,h.resolve_left ho⟩
  ·rintro (⟨c,h⟩ | ⟨c,_,h⟩)
   ·exact ⟨c,Or.inl h⟩
   ·exact ⟨c,Or.inr h⟩
 ·rw [sel_new];exact fun k=>k.2.1 (sel_old.1 h).2
theorem leadF_eq {F:List (At × Nat)}{l:Nat}:leadF (fun x=>x∈selF F 1) (fun x=>x∈selF F 2) (fun x=>x∈selF F 3) l=FFs F (some l):=by
 funext i x;unfold leadF FFs Jby;simp only
 split
 ·rfl
 ·split <;> rfl
def Jk9:List (At × At)→Bn→Option Bn
 | [],s=>some s
 | q::l,s=>(Jct q.1 q.2 s).bind (Jk9 l)
theorem chainM_snoc (l:List (At × At))(q:At × At):∀ s,Jk9 (l++[q]) s=(Jk9 l s).bind (Jct q.1 q.2):=by
 induction l with
 | nil=>intro s;show (Jct q.1 q.2 s).bind some=Jct q.1 q.2 s;cases Jct q.1 q.2 s <;> rfl
 | cons x l ih=>
  intro s;show (Jct x.1 x.2 s).bind (Jk9 (l++[q]))=((Jct x.1 x.2 s).bind (Jk9 l)).bind _;cases h:Jct x.1 x.2 s with
  | none=>rfl
  | some s1=>exact ih s1
theorem chain_ok:∀ (l:List (At × At)) (s s':Bn),SB s→Jk9 l s=some s'→SB s'∧(∀ v z,gotT s v=some z→gotT s' v=some z)∧(∀ v,Dm s' v↔Dm s v∨∃ q∈l,v∈Jaq q.1)∧∀ q∈l,appD s' q.1=q.2∧(varB q.1.b=true→q.2.b.kind≠0)
 | [],s,s',hs,h=>by
  simp only [Jk9,Option.some.injEq] at h;subst h;exact ⟨hs,fun _ _ h=>h,fun v=>by simp,by simp⟩
 | q::l,s,s',hs,h=>by
  obtain ⟨s1,h1,h2⟩:=Option.bind_eq_some_iff.1 h;obtain ⟨k1,kf,k2,k3,k4⟩:=(Jft hs).1 h1;obtain ⟨i1,i2,i3,i4⟩:=chain_ok l s1 s' k1 h2;refine ⟨i1,fun v z hz=>i2 _ _ (k2 _ _ hz),fun v=>?_,fun p hp=>?_⟩
  ·rw [i3,show Dm s1 v↔_ from k3 v];constructor
   ·rintro ((hh | hh) | ⟨p,hp,hh⟩)
    ·exact Or.inl hh
    ·exact Or.inr ⟨q,by simp,hh⟩
    ·exact Or.inr ⟨p,yB _ hp,hh⟩
   ·rintro (hh | ⟨p,hp,hh⟩)
    ·exact Or.inl (Or.inl hh)
    ·rcases List.mem_cons.1 hp with e | hp
     ·rw [e] at hh;exact Or.inl (Or.inr hh)
     ·exact Or.inr ⟨p,hp,hh⟩
  ·rcases List.mem_cons.1 hp with e | hp
   ·rw [e];exact ⟨by rw [Jnq i2 (fun v hv=>(k3 v).2 (Or.inr hv)),k4],fun hv hk=>kf.2.2 ⟨hv,hk⟩⟩
   ·exact i4 p hp
theorem Jox:∀ (k:Nat) (r:List Tm),(bnG k r).map (·.2)=r
 | _,[]=>rfl
 | k,t::ts=>by show t::(bnG (k+1) ts).map (·.2)=_;rw [Jox (k+1) ts]
theorem finds_sol {U:At→Prop}{c:Cl}{n:Nat}(hc:CVn c n){fs:List At}(hl:fs.length=c.bd.length)(hf:∀ x∈fs,U x){s:Bn}(hs:Jk9 (c.bd.zip fs) []=some s)(ht:∀ t∈c.ts,okT s t=true):Sol (fun _=>U) c n (s.map (·.2)):=by
 obtain ⟨h1,_,h3,h4⟩:=chain_ok _ _ _ (List.Pairwise.nil) hs
 have hmem:∀ (i:Nat) (a:At),c.bd[i]?=some a→∃ x,fs[i]?=some x∧(a,x)∈c.bd.zip fs:=fun i a hi=>by
  have hi2:=(List.getElem?_eq_some_iff.1 hi).1;have hx:=xD (show i<fs.length by omega);refine ⟨_,hx,List.mem_iff_getElem?.2 ⟨i,?_⟩⟩;rw [List.getElem?_zip_eq_some];exact ⟨hi,hx⟩
 have hd:∀ v,Dm s v↔0≤v∧v<(n:Int):=fun v=>by
  rw [h3,← hc.body];constructor
  ·rintro (hh | ⟨q,hq,hh⟩)
   ·exact absurd hh (by show ¬ (none:Option Tm).isSome=true;simp)
   ·exact ⟨q.1,(List.of_mem_zip (show (q.1,q.2)∈_ from hq)).1,hh⟩
  ·rintro ⟨a,ha,hv⟩;obtain ⟨i,hi⟩:=List.mem_iff_getElem?.1 ha;obtain ⟨x,_,hx⟩:=hmem i a hi;exact Or.inr ⟨(a,x),hx,hv⟩
 have e:bnV (s.map (·.2))=s:=by
  have e1:=Jow h1 hd
  have e2:s.map (·.2)=valsB n s:=by
   have:=Jox 0 (valsB n s);rw [show bnG 0 (valsB n s)=s from e1] at this;exact this
  rw [e2];exact e1
 refine ⟨?_,by rw [e];exact ht,fun i a hi=>?_⟩
 ·have e1:=Jow h1 hd;have:=Jox 0 (valsB n s);rw [show bnG 0 (valsB n s)=s from e1] at this;rw [this,Jfh]
 ·obtain ⟨x,hx,hm⟩:=hmem i a hi;obtain ⟨k1,k2⟩:=h4 _ hm;rw [e];refine ⟨by rw [k1];exact hf _ (xC hx),fun hv=>?_⟩;have:=k2 hv;rw [← k1] at this;exact this
def instT (r:List Tm)(t:Tm):Tm:=if varB t=true∧t.n<(r.length:Int) then r.getD t.n.toNat T0 else t
theorem got_ups (a:Int)(u:Value)(b:Int):∀ l:List (Int × Value),got (ups l a u) b=if b=a then some u else got l b
 | []=>by
  unfold got ups spot
  by_cases h:b=a
  ·rw [if_pos h,if_pos h];rfl
  ·rw [if_neg h,if_neg h];rfl
 | q::l=>by
  have hc:∀ (q:Int × Value) (l:List (Int × Value)) (b:Int),got (q::l) b=if b=q.1 then some q.2 else got l b:=fun q l b=>by
   unfold got;rw [show spot (q::l) b 0=if b=q.1 then some (0,q.2) else spot l b 1 from rfl]
   split
   ·rfl
   ·rw [Jfs];cases spot l b 0 <;> rfl
  unfold ups
  by_cases h:a=q.1
  ·rw [if_pos h,hc,hc];show (if b=a then some u else got l b)=_
   by_cases h2:b=a
   ·rw [if_pos h2,if_pos h2]
   ·rw [if_neg h2,if_neg h2,if_neg (fun e=>h2 (e.trans h.symm))]
  ·rw [if_neg h,hc,hc,got_ups a u b l]
   by_cases h2:b=q.1
   ·rw [if_pos h2,if_neg (fun e=>h (e.symm.trans h2)),if_pos h2]
   ·rw [if_neg h2,if_neg h2]
def cval (m:List (Int × Value))(v:Int):Int:=match got m v with
 | some (.int _ k)=>k
 | _=>0
def cntM (l:List Int):List (Int × Value):=l.foldl (fun m v=>ups m v (.int .i64 (cval m v+1))) []
theorem Jkd (l:List Int)(v:Int):cntM (l++[v])=ups (cntM l) v (.int .i64 (cval (cntM l) v+1)):=by
 unfold cntM;rw [List.foldl_append];rfl
theorem Jnj (l:List Int):∀ v,got (cntM l) v=if v∈l then some (.int .i64 (l.count v:Nat)) else none:=by
 induction l using Je9 with
 | h0=>intro v;rfl
 | h1 l u ih=>
  intro v;rw [Jkd,got_ups,List.count_append]
  have hc:cval (cntM l) u=(l.count u:Nat):=by
   unfold cval;rw [ih]
   split
   ·rename_i h
    split at h
    ·simp only [Option.some.injEq,Value.int.injEq] at h;exact h.2.symm
    ·cases h
   ·rename_i h
    split at h
    ·exact absurd rfl (h _ _)
    ·rename_i h2;rw [List.count_eq_zero_of_not_mem h2];rfl
  by_cases h:v=u
  ·subst h;rw [if_pos rfl,if_pos (by simp),hc];simp
  ·have e:List.count v [u]=0:=List.count_eq_zero_of_not_mem (by simpa using h);rw [if_neg h,ih,e]
   by_cases h2:v∈l
   ·rw [if_pos h2,if_pos (by simp [h2])];rfl
   ·rw [if_neg h2,if_neg (by simp [h,h2])]
theorem cval_cntM (l:List Int)(v:Int):cval (cntM l) v=(l.count v:Nat):=by
 unfold cval;rw [Jnj]
 split
 ·rename_i h
  split at h
  ·simp only [Option.some.injEq,Value.int.injEq] at h;exact h.2.symm
  ·cases h
 ·rename_i h
  split at h
  ·exact absurd rfl (h _ _)
  ·rename_i h2;rw [List.count_eq_zero_of_not_mem h2];rfl
theorem Jkb (l:List Int)(v:Int):(got (cntM l) v).getD (.int .i64 0)=.int .i64 (l.count v:Nat):=by
 rw [Jnj]
 split
 ·rfl
 ·rename_i h;rw [List.count_eq_zero_of_not_mem h];rfl
theorem cnt_pos {l:List Int}{v:Int}:(0:Int)<(l.count v:Nat)↔v∈l:=by
 rw [show (0:Int)<(l.count v:Nat)↔0<l.count v by omega,List.count_pos_iff]
def dedI (l:List Int):List Int:=l.foldl (fun acc v=>if v∈acc then acc else acc++[v]) []
theorem Jii (l:List Int)(v:Int):dedI (l++[v])=if v∈dedI l then dedI l else dedI l++[v]:=by
 unfold dedI;rw [List.foldl_append];rfl
theorem Jku (l:List Int):∀ v,v∈dedI l↔v∈l:=by
 induction l using Je9 with
 | h0=>intro v;simp [dedI]
 | h1 l u ih=>
  intro v;rw [Jii,xT,xI]
  split
  ·rename_i h;rw [ih];exact ⟨Or.inl,fun hh=>hh.elim id (fun e=>by rw [e];exact (ih u).1 h)⟩
  ·rw [xT,xI,ih]
theorem dedI_len (l:List Int):(dedI l).length≤l.length:=by
 induction l using Je9 with
 | h0=>simp [dedI]
 | h1 l u ih=>rw [Jii];split <;> simp <;> omega
theorem ups_len (l:List (Int × Value))(a:Int)(u:Value):(ups l a u).length=if (got l a).isSome=true then l.length else l.length+1:=by
 cases hs:spot l a 0 with
 | none=>
  rw [Jkf (spot_none.1 hs)];unfold got;rw [hs];simp
 | some q=>
  rw [ups_old (i:=q.1) (u:=q.2) hs];unfold got;rw [hs];simp
theorem cntM_len (l:List Int):(cntM l).length=(dedI l).length:=by
 induction l using Je9 with
 | h0=>rfl
 | h1 l u ih=>
  rw [Jkd,ups_len,Jii,Jnj,ih]
  by_cases h:u∈l
  ·rw [if_pos h,if_pos ((Jku l u).2 h)];rfl
  ·rw [if_neg h,if_neg (fun hh=>h ((Jku l u).1 hh))];simp
def vnums (l:List Tm):List Int:=(l.filter varB).map (·.n)
theorem Jfr (l:List Tm)(t:Tm):vnums (l++[t])=vnums l++(if varB t=true then [t.n] else []):=by
 unfold vnums;rw [List.filter_append,xU]
 by_cases h:varB t=true
 ·rw [if_pos h,List.filter_cons_of_pos h];rfl
 ·rw [if_neg h,List.filter_cons_of_neg h];rfl
theorem Jlr (l:List Tm):(vnums l).length≤l.length:=by unfold vnums;rw [xE];exact List.length_filter_le _ _
theorem mem_vnums {l:List Tm}{v:Int}:v∈vnums l↔∃ t∈l,varB t=true∧t.n=v:=by
 unfold vnums;simp only [xS,List.mem_filter];exact ⟨fun ⟨t,⟨h1,h2⟩,h3⟩=>⟨t,h1,h2,h3⟩,fun ⟨t,h1,h2,h3⟩=>⟨t,⟨h1,h2⟩,h3⟩⟩
theorem dedV_nums (l:List Tm):dedI (vnums l)=(dedV l).map (·.n):=by
 induction l using Je9 with
 | h0=>rfl
 | h1 l t ih=>
  rw [Jfr,Jdu]
  by_cases h:varB t=true
  ·rw [if_pos h,Jii,ih]
   have e:t.n∈(dedV l).map (·.n)↔t∈dedV l:=by
    constructor
    ·intro hh;obtain ⟨u,hu,he⟩:=List.mem_map.1 hh;rw [← var_eq ((Jgt l u).1 hu).2 h he];exact hu
    ·exact fun hh=>List.mem_map.2 ⟨t,hh,rfl⟩
   by_cases h2:t∈dedV l
   ·rw [if_pos (e.2 h2),if_neg (fun hh=>hh.2 h2)]
   ·rw [if_neg (fun hh=>h2 (e.1 hh)),if_pos ⟨h,h2⟩,xU];rfl
  ·rw [if_neg h,if_neg (fun hh=>h hh.1),xZ,ih]
theorem nV_cnt (c:Cl):(cntM (vnums (Jbi c))).length=nV c:=by
 rw [cntM_len,dedV_nums,xE];rfl
def misS (s:Int × Bool)(t:Tm):Int × Bool:=if varB t=true then (if t.n=s.1 then s.1+1 else s.1,s.2 || decide (s.1<t.n)) else s
def misF (l:List Tm):Int × Bool:=l.foldl misS (0,false)
theorem Jjf (l:List Tm)(t:Tm):misF (l++[t])=misS (misF l) t:=by unfold misF;rw [List.foldl_append];rfl
theorem misF_ok (l:List Tm)(h:∀ (i:Nat) (t:Tm),(dedV l)[i]?=some t→t.n=(i:Int)):misF l=(((dedV l).length:Int),false):=by
 induction l using Je9 with
 | h0=>rfl
 | h1 l t ih=>
  have hpre:∀ (i:Nat) (u:Tm),(dedV l)[i]?=some u→u.n=(i:Int):=fun i u hu=>h i u (by
   rw [Jdu]
   split
   ·rw [List.getElem?_append_left (List.getElem?_eq_some_iff.1 hu).1];exact hu
   ·exact hu)
  rw [Jjf,ih hpre];unfold misS
  by_cases hv:varB t=true
  ·rw [if_pos hv]
   by_cases hm:t∈dedV l
   ·have e:dedV (l++[t])=dedV l:=by rw [Jdu,if_neg (fun hh=>hh.2 hm)]
    obtain ⟨i,hi⟩:=List.mem_iff_getElem?.1 hm;have h1:=hpre i t hi;have h2:=(List.getElem?_eq_some_iff.1 hi).1;rw [e,if_neg (by omega),xP (by omega)];rfl
   ·have e:dedV (l++[t])=dedV l++[t]:=by rw [Jdu,if_pos ⟨hv,hm⟩]
    have h1:=h (dedV l).length t (by rw [e];simp);rw [e,if_pos h1,xP (by omega)];simp
  ·rw [if_neg hv,Jdu,if_neg (fun hh=>hv hh.1)]
theorem misF_len (l:List Tm):0≤(misF l).1∧(misF l).1≤l.length:=by
 induction l using Je9 with
 | h0=>simp [misF]
 | h1 l t ih=>
  rw [Jjf,xL,xQ];unfold misS
  split
  ·dsimp only
   split <;> omega
  ·omega
end Go.Proofs.YtgebaodagaecmaaGreatDoor
namespace Go.Hw
set_option linter.unusedVariables false
set_option linter.unusedSimpArgs false
open Go Go.RowKit
section
variable {P:Program} {F:Fence} {m:Nat} {b:Frame} {a:Act} {k:List Go.Item} {cs:List Frame} {w:World} {Q:Exit→Act→World→Prop}
theorem Jie {c:Code}:step P (lone (b.atR a (.code (.scope c)::k)) cs w)=.next (lone (b.atR a (.code c::.inScope c::k)) cs w):=
 step_lone_go (by simp [stepG,stepG.exec,Frame.atR])
theorem stepInScope {c:Code}:step P (lone (b.atR a (.inScope c::k)) cs w)=.next (lone (b.atR a k) cs w):=
 step_lone_go (by simp [stepG,stepG.exec,Frame.atR])
def calmQ (Q:Exit→Act→World→Prop):Exit→Act→World→Prop
 | .goto _,_,_=>False
 | e,a,w=>Q e a w
theorem wpIn_scopeS {c:Code}(h:c.wpIn F m P (calmQ Q) a w):(Code.scope c).wpIn F m P Q a w:=by
 intro b k cs hro hb hr;have h0:(lone (b.atR a (.code (.scope c)::k)) cs w).fenced P F:=fenced_calm hb hr rfl;obtain ⟨e,a₁,w₁,hq,harr⟩:=h b (.inScope c::k) cs hro hb hr;cases e with
 | normal=>exact ⟨.normal,a₁,w₁,hq,.head h0 Jie (StepsIn.trans harr (.one (fenced_calm hb hr rfl) stepInScope))⟩
 | exit id'=>
  have hx:exitTo id' (.inScope c::k)=exitTo id' k:=by simp [exitTo]
  exact ⟨.exit id',a₁,w₁,hq,fun k' hk=>.head h0 Jie (harr.1 k' (by rw [hx];exact hk)),
   fun hr' hk=>let ⟨k₁,h1,h2⟩:=harr.2 hr' (by rw [hx];exact hk);⟨k₁,h1,.head h0 Jie h2⟩⟩
 | goto l=>exact hq.elim
 | ret=>exact ⟨_,a₁,w₁,hq,.of_steps (.one h0 Jie) harr⟩
 | panic ch=>exact ⟨_,a₁,w₁,hq,.of_steps (.one h0 Jie) harr⟩
 | outgrown=>exact ⟨_,a₁,w₁,hq,.of_steps (.one h0 Jie) harr⟩
end
section
variable {P:Program} {Q:Post} {n:Nat} {ds:DS} {e:Env} {S:World→Prop}
theorem WC.scope {c:Code}(h:WC P (calmQ Q) n ds e S c):WC P Q n ds e S (.scope c):=fun a w ha hw=>wpIn_scopeS (h a w ha hw)
theorem WC.label {l:Nat}(h:WX Q n ds e S .normal):WC P Q n ds e S (.label l):=fun a w ha hw=>wpIn_label (h a w ha hw)
theorem WX.f1 (h:WX Q n ds e S .ret):WX (calmQ Q) n ds e S .ret:=h
end
end Go.Hw
namespace Go.Hw
set_option linter.unusedVariables false
open Go Go.RowKit
section
variable {P:Program} {n:Nat} {ds:DS} {e:Env} {S:World→Prop} {x y:Operand} {lt t:TypeId} {p:String} {af:Array Edge} {dst:Option Tmp} {d:TypeDesc}
theorem OV.indexArrS {cs vs:List Value}{m:Nat}{k':IntKind}{ix:Int}{el:TypeId}{g:Option (Nat × Bool)}(hx:ev e x=some (.agg cs.toArray))(hy:ev e y=some (.int k' ix))(hu:P.underlying lt=some (.array m el))(hue:P.underlying el=some d)(hd:aggD d=true)(hz:P.sz el=some vs.length) 
  (hb:0≤ix∧ix<m) (hv:cs.toArray.extract (ix.toNat*vs.length) (ix.toNat*vs.length+vs.length)=vs.toArray):OV P n ds e S ⟨dst,.index lt x y,t,p,af,g⟩ (.agg vs.toArray):=fun _ w ha _=>by
 simp [execOp,ha.eval hx,ha.eval hy,Instr.index,run_underlying hu,asIntOf,hb,run_sizeOf hz,part,Jc1 hue,hd]
 simpa using hv
theorem OV.fieldS {cs vs:List Value}{fs:Array Field}{f:Nat}{ff:Field}{g:Option (Nat × Bool)}(hx:ev e x=some (.agg cs.toArray))(hu:P.underlying lt=some (.struct fs))(hf:fs[f]?=some ff)(hue:P.underlying ff.type=some d)(hd:aggD d=true)(hz:P.sz ff.type=some vs.length) 
  (hv:cs.toArray.extract ff.offset (ff.offset+vs.length)=vs.toArray):OV P n ds e S ⟨dst,.field lt x f,t,p,af,g⟩ (.agg vs.toArray):=fun _ w ha _=>by
 simp [execOp,ha.eval hx,Instr.field,run_underlying hu,hf,asAgg,run_sizeOf hz,part,Jc1 hue,hd]
 simpa using hv
end
end Go.Hw
set_option maxRecDepth 10000
namespace Go.Proofs.YtgebaodagaecmaaGreatDoor
open Go Go.Hw
set_option linter.unusedSimpArgs false
set_option linter.unusedVariables false
abbrev rowI (a:Option Addr)(c:Nat)(l:List Int):Hw.Item:=row 3 1 a l.length c (ints l)
theorem ne_stepI {l:List Int}{i:Nat}{t u:Int}(hn:∀ u∈l.take i,u≠t)(h:l[i]?=some u)(hne:u≠t):∀ u∈l.take (i+1),u≠t:=fun v hv=>by
 rw [Jb3 h] at hv;rcases List.mem_append.1 hv with h1 | h1
 ·exact hn v h1
 ·simp only [xI] at h1;rw [h1];exact hne
theorem not_mem_takeI {l:List Int}{i:Nat}{t:Int}(hn:∀ u∈l.take i,u≠t)(hi:l.length≤i):t∉l:=fun h=>hn t (by rw [xK hi];exact h) rfl
theorem ri_at {w:World}{q:Addr}{m:Nat}{l:List Int}(h:RI w (some q) m l){j:Nat}{v:Int}(hj:l[j]?=some v):w.cell? (q.add j)=some (.int .i64 v):=by
 have:=h.cell (j:=j) (List.getElem?_eq_some_iff.1 hj).1;rw [yF,hj] at this;exact this
theorem indexI_calls (l:List Int)(a:Option Addr)(c:Nat)(v:Int)(hl:l.length≤1099511627776)(w:World)(hr:RI w a l.length l):Calls Tryz.prog 268 #[.slice a l.length c,.int .i64 v] w fun e w'=>∃ k:Int,e=.returned (.int .i64 k)∧(0≤k↔v∈l)∧Fr0 w w':=by
 refine Jbo (args:=[.slice a l.length c,.int .i64 v]) (fun _=>False) Tryz.func268 rfl Tryz.ntmps268 rfl rfl ?_;refine Csr (Za rfl (Nn (Cs (Csr (Zm rfl (Zv (OV.ae rfl T.u51) (Zm rfl (Nn (Cb ?_)))))))))
 refine WC.cm (fun (i:Nat)=>[(0,.slice a l.length c),(1,.int .i64 v),(7,.int .i64 (l.length:Int)),(8,.int .i64 (i:Int))])
   (fun i w'=>(i≤l.length∧∀ u∈l.take i,u≠v)∧Sat0 w ([]) w')
   (fun i=>l.length - i) 0 Y4 (fun w' hw=>⟨⟨by omega,fun u hu=>by simp at hu⟩,hw⟩) ?_
 intro i;refine WC.pure (fun hi=>?_);obtain ⟨hi,hn⟩:=hi;refine Csr (Zv (OV.cq rfl rfl) (Nn (Cs ?_)));refine Cc rfl (fun c9=>?_) (fun c9=>?_)
 ·refine Ck (Xn (Cs (Cb (Csr (Zm rfl (Za rfl (Nn (Csr (Zm rfl (Zm rfl (Zm rfl ?_)))))))))));obtain ⟨q,hq⟩:=hr.some (by omega);obtain ⟨u,hu⟩:∃ u,l[i]?=some u:=⟨_,xD (by omega)⟩
  have hr2:RI w (some q) l.length l:=by rw [← hq];exact hr
  refine Zv ((OV.ad (show _=some (Value.slice (some q) l.length c) by rw [← hq];rfl) rfl T.u51 T.z3 (by omega)).cast (u:=.pointer (some (q.add i))) (by rw [xN,Nat.mul_one])) (Zv (OV.ah (v:=.int .i64 u) rfl T.u3 rfl (fun _ hw=>hw.keeps _ _ (ri_at hr2 hu))) (Zv (OV.eb rfl rfl) (Nn ?_)));refine Cc rfl (fun c16=>?_) (fun c16=>?_)
  ·refine Csr (Zm rfl (Za rfl (Nn (WC.az ?_))));refine Xq (Xr (Xr (Xq (Xr ?_))));exact WX.ret1 rfl rfl rfl (fun w' hw=>⟨(i:Int),rfl,⟨fun _=>by rw [c16];exact xC hu,fun _=>by omega⟩,hw.fr⟩)
  refine Ck (Xb (Xn (Cr (Zv (OV.bm (j:=1) rfl rfl (by omega)) (Zm rfl (Nl ?_))))));exact WX.bk (i+1) Y4 (fun w' hw=>⟨⟨by omega,ne_stepI hn hu (fun h=>c16 h.symm)⟩,hw⟩) (by show l.length - (i+1)<l.length - i;omega)
 refine Ce (Xe (Xe (Xh (Xn (Csr (Za rfl (Nn (WC.az ?_))))))));exact WX.ret1 rfl rfl rfl (fun w' hw=>⟨-1,rfl,⟨fun h=>absurd h (by omega),fun h=>absurd h (not_mem_takeI hn (by omega))⟩,hw.fr⟩)
theorem contI_calls (l:List Int)(a:Option Addr)(c:Nat)(v:Int)(hl:l.length≤1099511627776)(w:World)(hr:RI w a l.length l):Calls Tryz.prog 266 #[.slice a l.length c,.int .i64 v] w fun e w'=>e=.returned (.bool (decide (v∈l)))∧Fr0 w w':=by
 refine Jbo (args:=[.slice a l.length c,.int .i64 v]) (fun _=>False) Tryz.func266 rfl Tryz.ntmps266 rfl rfl ?_;refine Csr (Za rfl (Nn (Csr (Zm rfl (Zm rfl (WL.mp (ι:=Int) (vs:=[.slice a l.length c,.int .i64 v]) (vv:=fun k=>.int .i64 k) (SS:=fun k w'=>(0≤k↔v∈l)∧Sat0 w ([]) w') (by kernel_rfl) rfl rfl (fun w' hw'=>(indexI_calls l a c v hl w' (hr.keeps hw'.keeps)).mono (fun en w'' ⟨k,h1,h2,h3⟩=>⟨k,h1,h2,hw'.keep h3⟩)) ?_))))));intro k;refine WL.pure (fun hk=>?_);refine Zv (OV.jy rfl rfl) (Za rfl (Nn (WC.az ?_)));exact WX.ret1 rfl rfl rfl (fun w' hw=>⟨by congr 2;exact decide_eq_decide.2 hk,hw.fr⟩)
theorem tvars_calls (x:At)(a:Option Addr)(c:Nat)(hl:x.args.length≤1048575)(w:World)(hr:RT w a x.args):Calls Tryz.prog 87 #[atV x a c] w fun e w'=>∃ z:Option Addr × Nat,e=.returned (.slice z.1 (dedI (Jaq x)).length z.2)∧Turns [] [rowI z.1 z.2 (dedI (Jaq x))] w w':=by
 refine Jbo (args:=[atV x a c]) (fun _=>False) Tryz.func87 rfl Tryz.ntmps87 rfl rfl ?_;refine Csr (WL.box rfl rfl rfl ?_);intro b1;refine Za rfl (Nn (WC.scope ?_));refine Csr (Za rfl (Nn (Cs (WC.label ?_))));refine Xn (Cs (Csr (Zv (OV.lN (cs:=atC x a c) rfl T.u29 rfl T.z29 yH) (WL.cT (ι:=Nat × Nat) (vs:=[atV x a c]) (vv:=fun q=>.slice (some ⟨q.1,0,none⟩) (plc x).length q.2) (pp:=fun _=>True) [] (AA:=fun q=>[rowT (some ⟨q.1,0,none⟩) q.2 (plc x)]) rfl (fun w' hw' _=>(Jfb x a c (by omega) w' (hr.keeps hw'.keeps)).mono (fun en w'' ⟨b,lc,q1,q2⟩=>⟨(b,lc),q1,trivial,q2⟩)) ?_))));rintro ⟨pb,pc⟩ _;have hpl:(plc x).length=x.args.length+1:=by simp [plc]
 refine Zv (OV.ae rfl T.u27) (Zm rfl (Nn (Cb (WC.weak (S':=Sat0 w (row 3 1 none 0 0 []::rowT (some ⟨pb,0,none⟩) pc (plc x)::oQ b1 (atC x a c) 29::[])) (fun w' hw=>hw.rowNil 3 1) ?_))))
 refine WC.dd (fun (i:Nat) (la:Option Addr) (lc:Nat) (vs:List Int)=>[(1,yZ b1),(3,.slice la vs.length lc),(9,.slice (some ⟨pb,0,none⟩) (plc x).length pc),(10,.int .i64 ((plc x).length:Int)),(11,.int .i64 (i:Int))])
   (fun i la lc vs w'=>(i≤(plc x).length∧vs=dedI (vnums ((plc x).take i))∧vs.length≤i)∧Sat0 w (rowI la lc vs::rowT (some ⟨pb,0,none⟩) pc (plc x)::oQ b1 (atC x a c) 29::[]) w')
   (fun i _ _ _=>(plc x).length - i) 0 none 0 [] Y5 (fun w' hw=>⟨⟨by omega,rfl,by simp⟩,hw⟩) ?_
 intro i la lc vs;refine WC.pure (fun hi=>?_);obtain ⟨hi,hvs,hvl⟩:=hi;refine Csr (Zv (OV.cq rfl rfl) (Nn (Cs ?_)));refine Cc rfl (fun c12=>?_) (fun c12=>?_)
 ·refine Ck (Xn (Cs (Cb (Csr ?_))));obtain ⟨t,ht⟩:∃ t,(plc x)[i]?=some t:=⟨_,xD (by omega)⟩
  refine Zv ((OV.ad rfl rfl T.u27 T.z26 (by omega)).cast (u:=.pointer (some ((⟨pb,0,none⟩:Addr).add (i*3)))) (by rw [xN])) (Zv (OV.ai (cs:=tmC t) rfl T.u26 rfl T.z26 (fun _ hw j v hj=>(RT.of_row (c:=pc) rfl hw yI:RT _ (some ⟨pb,0,none⟩) (plc x)).at_ _ rfl i t ht j v hj)) (WL.alloc T.zr26 rfl ?_));intro b5;refine WL.ag (vs:=tmC t) rfl rfl rfl T.z26 rfl ?_;refine Nn (Cs (Csr (Zv (OV.lN (cs:=tmC t) rfl T.u26 rfl T.z26 yH) (WL.au (v:=.bool (varB t)) (by kernel_rfl) rfl rfl (fun w' hw'=>Jcs t w') ?_))));refine Zv (OV.not rfl) (Nn ?_);refine Cc rfl (fun c17=>?_) (fun c17=>?_)
  ·refine Ce (Xe (Xh (Xn (Cr (Zv (OV.bm (j:=1) rfl rfl (by omega)) (Zm rfl (Nl ?_)))))))
   exact WX.cg (i+1) la lc vs Y5 (fun w' hw=>⟨⟨by omega,by
    rw [Jb3 ht,Jfr,if_neg (by simpa using c17),xZ];exact hvs,by omega⟩,hw.drop⟩) (by show (plc x).length - (i+1)<(plc x).length - i;omega)
  refine Ck (Xn (Cs (Csr (Zm rfl (Zv (OV.ae rfl T.u51) (Zm rfl (Nn (Cb ?_))))))))
  refine WC.cm (fun (k:Nat)=>[(1,yZ b1),(3,.slice la vs.length lc),(5,yZ b5),(9,.slice (some ⟨pb,0,none⟩) (plc x).length pc),(10,.int .i64 ((plc x).length:Int)),(11,.int .i64 (i:Int)),(18,.slice la vs.length lc),(19,.int .i64 (vs.length:Int)),(20,.int .i64 (k:Int))])
    (fun k w'=>(k≤vs.length∧∀ u∈vs.take k,u≠t.n)∧Sat0 w (oQ b5 (tmC t) 26::rowI la lc vs::rowT (some ⟨pb,0,none⟩) pc (plc x)::oQ b1 (atC x a c) 29::[]) w')
    (fun k=>vs.length - k) 0 Y9 (fun w' hw=>⟨⟨by omega,fun u hu=>by simp at hu⟩,hw⟩) ?_
  intro k;refine WC.pure (fun hk=>?_);obtain ⟨hk,hn⟩:=hk;refine Csr (Zv (OV.cq rfl rfl) (Nn (Cs ?_)));refine Cc rfl (fun c21=>?_) (fun c21=>?_)
  ·refine Ck (Xn (Cs (Cb (Csr ?_))));refine WL.j2 (fun w2 hw2=>(RI.of_row (c:=lc) hw2 yI:RI w2 la vs.length vs).some (by omega)) (fun hqq=>?_);obtain ⟨q,hq⟩:=hqq;obtain ⟨u,hu⟩:∃ u,vs[k]?=some u:=⟨_,xD (by omega)⟩
   refine Zv ((OV.ad (show _=some (Value.slice (some q) vs.length lc) by rw [← hq];rfl) rfl T.u51 T.z3 (by omega)).cast (u:=.pointer (some (q.add k))) (by rw [xN,Nat.mul_one])) (Zv (OV.ah (v:=.int .i64 u) rfl T.u3 rfl (fun w2 hw=>ri_at (show RI w2 (some q) vs.length vs by rw [← hq];exact RI.of_row (c:=lc) hw yI) hu)) (Za rfl (Nn (Csr (Zm rfl (Zv (OV.f0 1 rfl T.u26 rfl) (Zv (OV.l1 (v:=.int .i64 t.n) rfl T.u3 rfl yH rfl) (Zv (OV.eb rfl rfl) (Nn ?_)))))))));refine Cc rfl (fun c27=>?_) (fun c27=>?_)
   ·refine Ce (Xi (Xe (Xe (Xi (Xe (Xh (Xn (Cr (Zv (OV.bm (j:=1) rfl rfl (by omega)) (Zm rfl (Nl ?_)))))))))));have hmm:t.n∈dedI (vnums ((plc x).take i)):=by rw [← hvs,← c27];exact xC hu
    exact WX.cg (i+1) la lc vs Y5 (fun w' hw=>⟨⟨by omega,by
     rw [Jb3 ht,Jfr,if_pos (by simpa using c17),Jii,if_pos hmm];exact hvs,by omega⟩,hw.drop⟩) (by show (plc x).length - (i+1)<(plc x).length - i;omega)
   refine Ck (Xb (Xn (Cr (Zv (OV.bm (j:=1) rfl rfl (by omega)) (Zm rfl (Nl ?_))))));exact WX.bk (k+1) Y9 (fun w' hw=>⟨⟨by omega,ne_stepI hn hu c27⟩,hw⟩) (by show vs.length - (k+1)<vs.length - k;omega)
  refine Ce (Xe (Xe (Xh (Xn (Cr (Zm rfl (Zv (OV.f0 1 rfl T.u26 rfl) (Zv (OV.l1 (v:=.int .i64 t.n) rfl T.u3 rfl yH rfl) (WL.br T.u51 T.z3 T.zr3 rfl rfl rfl ?_)))))))));intro bb32;refine WL.focus (ow':=rowI la lc vs::oQ bb32 [Value.int .i64 t.n] 3::oQ b5 (tmC t) 26::rowT (some ⟨pb,0,none⟩) pc (plc x)::oQ b1 (atC x a c) 29::[]) (pmP [_,_,_,_,_] [2,0,1,3,4]) ?_;refine WL.append (news:=ints [t.n]) rfl rfl T.apI (fun _ _=>Jeg yI rfl) (Jes [t.n]) ⟨by omega,by unfold maxLen;omega⟩ rfl ?_;intro a33 c33;refine Za rfl (Nl (Xb (Xn (Cr (Zv (OV.bm (j:=1) rfl rfl (by omega)) (Zm rfl (Nl ?_)))))));have hmm:t.n∉dedI (vnums ((plc x).take i)):=by rw [← hvs];exact not_mem_takeI hn (by omega)
  have el:vs.length+1=(vs++[t.n]).length:=by simp
  have ef:ints vs++ints [t.n]=ints (vs++[t.n]):=by simp [ints]
  rw [el,ef]
  exact WX.cg (i+1) a33 c33 (vs++[t.n]) Y5 (fun w' hw=>⟨⟨by omega,by
   rw [Jb3 ht,Jfr,if_pos (by simpa using c17),Jii,if_neg hmm,← hvs],by simp;omega⟩,by
   exact hw.pik [[rowI a33 c33 (vs++[t.n])],[oQ bb32 [Value.int .i64 t.n] 3],[oQ b5 (tmC t) 26],[rowT (some ⟨pb,0,none⟩) pc (plc x)],[oQ b1 (atC x a c) 29]] [0,3,4] 5⟩) (by show (plc x).length - (i+1)<(plc x).length - i;omega)
 refine Ce (Xe (Xe (Xh (Xn (Csr (Zm rfl (Za rfl (Nn (WC.az ?_)))))))));refine WX.f1 ?_;rw [xK (by omega)] at hvs;subst hvs;exact WX.ret1 rfl rfl rfl (fun w' hw=>⟨(la,lc),rfl,(hw.pik [[rowI la lc (dedI (vnums (plc x)))],[rowT (some ⟨pb,0,none⟩) pc (plc x)],[oQ b1 (atC x a c) 29]] [0] 3).turned0⟩)
structure UseOK (St:List Tm→List Hw.Item) (N:Nat) (g:Nat) (caps:List Value) (w0:World):Prop where
 bod:bodied Tryz.prog g=true
 blk:∀ pre b,DD (St pre) b→w0.heap.size≤b
 run:∀ pre t w1,pre.length<N→Holds (St pre) w1→Calls Tryz.prog g ([tmV t]++caps).toArray w1 fun e w2=>e=.returned (.tuple #[])∧Turns (St pre) (St (pre++[t])) w1 w2
theorem Jb2 {w0 w w':World}{A ow:List Hw.Item}(hk:Keeps w0 w)(hB:∀ b,DD A b→w0.heap.size≤b)(hw:Sat w (DD A) (fun b=>b<w.heap.size∧¬ DD A b) w ow w'):Keeps w0 w':=fun q v hq=>by
 have h1:=World.block_lt_of_cell? w0 _ hq;have h2:=hk q v hq;exact (hw.cell ⟨World.block_lt_of_cell? w _ h2,fun hd=>by have:=hB _ hd;omega⟩).trans h2
theorem Jfg (St:List Tm→List Hw.Item)(N g:Nat)(caps:List Value)(w0:World)(hU:UseOK St N g caps w0)(x:At)(a:Option Addr)(c:Nat)(pre:List Tm)(hN:pre.length+(plc x).length≤N)(hN2:N≤1099511627776)(w:World)(hr:RT w0 a x.args)(hk:Keeps w0 w)(hA:Holds (St pre) w):Calls Tryz.prog 82 #[atV x a c,.func (.func g) #[] caps.toArray] w fun e w'=>e=.returned (.tuple #[])∧Turns (St pre) (St (pre++plc x)) w w':=by
 refine Jdt hA (args:=[atV x a c,.func (.func g) #[] caps.toArray]) Tryz.func82 rfl Tryz.ntmps82 rfl rfl ?_;refine Csr (WL.box rfl rfl rfl ?_);intro b2;refine Nn (Csr (Zm rfl (Zv (OV.f0 0 rfl T.u29 rfl) (Zv (OV.ai (cs:=tmC x.b) rfl T.u26 rfl T.z26 (fun _ hw j v hj=>by rw [Jap];exact Jbv hw yH (o:=0) (cs':=tmC x.b) rfl j v hj)) ?_))));have hpl:(plc x).length=x.args.length+1:=by simp [plc]
 refine WL.focus (ow':=St (pre)++[oQ b2 (atC x a c) 29]) (pmC [[oQ b2 (atC x a c) 29],St pre] [1,0]) ?_;refine WL.gx (ι:=Unit) (f:=g) (caps:=caps) (vs:=[tmV x.b]) (vv:=fun _=>.tuple #[]) (SS:=fun _=>SatA w (St pre) (St (pre++[x.b])++[oQ b2 (atC x a c) 29])) hU.bod rfl rfl rfl (fun w' hw'=>(hU.run (pre) x.b w' (by (try simp only [xL,List.length_cons,List.length_nil,xJ]);omega) (Hw.Sat.holds hw')).mono (fun en w'' ⟨h1,h2⟩=>⟨(),h1,hw'.turns h2⟩)) ?_;intro _;refine Nn (Csr (Zv (OV.f0 4 rfl T.u29 rfl) (Zv (OV.ah (v:=.slice a x.args.length c) rfl T.u27 rfl (fun _ hw=>(Jax (hw.it (oQ b2 (atC x a c) 29) (by simp)) (o:=4) rfl).1)) (Zv (OV.ae rfl T.u27) (Zm rfl (Nn (Cb ?_)))))))
 refine WC.cm (fun (i:Nat)=>[(1,.func (.func g) #[] caps.toArray),(11,.slice a x.args.length c),(12,.int .i64 (x.args.length:Int)),(13,.int .i64 (i:Int))])
   (fun i w'=>i≤x.args.length∧SatA w (St pre) (St (pre++x.b::x.args.take i)++[oQ b2 (atC x a c) 29]) w')
   (fun i=>x.args.length - i) 0 Y4 (fun w' hw=>⟨by omega,hw⟩) ?_
 intro i;refine WC.pure (fun hi=>?_);refine Csr (Zv (OV.cq rfl rfl) (Nn (Cs ?_)));refine Cc rfl (fun c14=>?_) (fun c14=>?_)
 ·refine Ck (Xn (Cs (Cb (Csr ?_))));obtain ⟨q1,t,hq,ht,htm,_,hc⟩:=hr.get (i:=i) (by omega);refine Zv ((OV.ad (show _=some (Value.slice (some q1) x.args.length c) by rw [← hq];rfl) rfl T.u27 T.z26 (by omega)).cast (u:=.pointer (some (q1.add (i*3)))) (by rw [xN])) (Zv (OV.ai (cs:=tmC t) rfl T.u26 rfl T.z26 (fun _ hw j v hj=>Jb2 hk (hU.blk pre) hw _ _ (hc j v hj))) (WL.alloc T.zr26 rfl ?_));intro b5;refine WL.ag (vs:=tmC t) rfl rfl rfl T.z26 rfl ?_;refine Nn (Cr (Zm rfl (Zv (OV.lN (cs:=tmC t) rfl T.u26 rfl T.z26 yH) (WL.focus (ow':=St ((pre++x.b::x.args.take i))++[oQ b5 (tmC t) 26,oQ b2 (atC x a c) 29]) (pmC [[oQ b5 (tmC t) 26],St (pre++x.b::x.args.take i),[oQ b2 (atC x a c) 29]] [1,0,2]) ?_))));refine WL.gx (ι:=Unit) (f:=g) (caps:=caps) (vs:=[tmV t]) (vv:=fun _=>.tuple #[]) (SS:=fun _=>SatA w (St pre) (St ((pre++x.b::x.args.take i)++[t])++[oQ b5 (tmC t) 26,oQ b2 (atC x a c) 29])) hU.bod rfl rfl rfl (fun w' hw'=>(hU.run ((pre++x.b::x.args.take i)) t w' (by (try simp only [xL,List.length_cons,List.length_nil,xJ]);omega) (Hw.Sat.holds hw')).mono (fun en w'' ⟨h1,h2⟩=>⟨(),h1,hw'.turns h2⟩)) ?_;intro _;refine Nl (Xb (Xn (Cr (Zv (OV.bm (j:=1) rfl rfl (by omega)) (Zm rfl (Nl ?_))))))
  exact WX.bk (i+1) Y4 (fun w' hw=>⟨by omega,by
   rw [Jb3 ht,show pre++x.b::(x.args.take i++[t])=(pre++x.b::x.args.take i)++[t] by simp];exact hw.pik [St ((pre++x.b::x.args.take i)++[t]),[oQ b5 (tmC t) 26],[oQ b2 (atC x a c) 29]] [0,2] 3⟩) (by show x.args.length - (i+1)<x.args.length - i;omega)
 refine Ce (Xe (Xe (Xh ?_)));rw [xK (by omega)];exact WX.ret0 rfl rfl (fun w' hw=>⟨rfl,Hw.Sat.turnedL hw⟩)
theorem termsU_calls (St:List Tm→List Hw.Item)(N g:Nat)(caps:List Value)(w0:World)(hU:UseOK St N g caps w0)(q:CG)(pre:List Tm)(hN:pre.length+(Jbi q.cl).length≤N)(hN2:N≤1099511627776)(hbl:q.bd.length≤1048576)(htl:q.ts.length≤1048576)(w:World)(hr:RC w0 q)(hk:Keeps w0 w)(hA:Holds (St pre) w):Calls Tryz.prog 36 #[cgV q,.func (.func g) #[] caps.toArray] w fun e w'=>e=.returned (.tuple #[])∧Turns (St pre) (St (pre++Jbi q.cl)) w w':=by
 refine Jdt hA (args:=[cgV q,.func (.func g) #[] caps.toArray]) Tryz.func36 rfl Tryz.ntmps36 rfl rfl ?_;refine Csr (WL.box rfl rfl rfl ?_);intro b2;refine Nn (Csr (Zv (OV.f0 0 rfl T.u32 rfl) ?_));have hln:(Jbi q.cl).length=(plc q.hd.x).length+(Jck q.cl).length+2*q.ts.length:=Jgm q.cl;refine Zv (OV.ai (cs:=atC q.hd.x q.hd.a q.hd.c) rfl T.u29 rfl T.z29 (fun _ hw j v hj=>by rw [Jap];exact Jbv hw yH (o:=0) (cs':=atC q.hd.x q.hd.a q.hd.c) rfl j v hj)) (Zm rfl (WL.focus (ow':=St pre++[oQ b2 (cgC q) 32]) (pmC [[oQ b2 (cgC q) 32],St pre] [1,0]) ?_));refine WL.cT (ι:=Unit) (vs:=[atV q.hd.x q.hd.a q.hd.c,.func (.func g) #[] caps.toArray]) (vv:=fun _=>.tuple #[]) (pp:=fun _=>True) (St pre) (AA:=fun _=>St (pre++plc q.hd.x)) rfl (fun w' hw' hH=>(Jfg St N g caps w0 hU q.hd.x q.hd.a q.hd.c pre (by (try simp only [xL]);omega) hN2 w' hr.hd (Jb2 hk (hU.blk pre) hw') hH).mono (fun en w'' ⟨h1,h2⟩=>⟨(),h1,trivial,h2⟩)) ?_;rintro _ _;refine Nn (Cs (Csr (Zv (OV.f0 5 rfl T.u32 rfl) (Zv (OV.ah (v:=.slice q.ba q.bd.length q.bc) rfl T.u22 rfl (fun _ hw=>(Jax (hw.it (oQ b2 (cgC q) 32) (by simp)) (o:=5) rfl).1)) (Zv (OV.ae rfl T.u22) (Zm rfl (Nn (Cb ?_))))))))
 refine WC.cm (fun (i:Nat)=>[(1,.func (.func g) #[] caps.toArray),(2,yZ b2),(13,.slice q.ba q.bd.length q.bc),(14,.int .i64 (q.bd.length:Int)),(15,.int .i64 (i:Int))])
   (fun i w'=>i≤q.bd.length∧SatA w (St pre) (St (pre++plc q.hd.x++(q.bd.take i).flatMap fun y=>plc y.x)++[oQ b2 (cgC q) 32]) w')
   (fun i=>q.bd.length - i) 0 Y5 (fun w' hw=>⟨by omega,by simpa using hw⟩) ?_
 intro i;refine WC.pure (fun hi=>?_);refine Csr (Zv (OV.cq rfl rfl) (Nn (Cs ?_)));refine Cc rfl (fun c16=>?_) (fun c16=>?_)
 ·refine Ck (Xn (Cs (Cb (Csr ?_))));obtain ⟨q1,y,hq,ht,htm,hra,hc⟩:=hr.bd.get (i:=i) (by omega);refine Zv ((OV.ad (show _=some (Value.slice (some q1) q.bd.length q.bc) by rw [← hq];rfl) rfl T.u22 T.z29 (by omega)).cast (u:=.pointer (some (q1.add (i*5)))) (by rw [xN])) (Zv (OV.ai (cs:=agC y) rfl T.u29 rfl T.z29 (fun _ hw j v hj=>Jb2 hk (hU.blk pre) hw _ _ (hc j v hj))) (WL.alloc T.zr29 rfl ?_));intro b5;refine WL.ag (vs:=agC y) rfl rfl rfl T.z29 rfl ?_;refine Nn (Cr (Zv (OV.lN (cs:=agC y) rfl T.u29 rfl T.z29 yH) (Zm rfl ?_)));have hle:=Jgd (fun y:AG=>plc y.x) q.bd (i+1);rw [Jfy ht,← Jil,xL] at hle;refine WL.focus (ow':=St (pre++plc q.hd.x++(q.bd.take i).flatMap fun y=>plc y.x)++[oQ b5 (agC y) 29,oQ b2 (cgC q) 32]) (pmC [[oQ b5 (agC y) 29],St (pre++plc q.hd.x++(q.bd.take i).flatMap fun y=>plc y.x),[oQ b2 (cgC q) 32]] [1,0,2]) ?_;refine WL.cT (ι:=Unit) (vs:=[atV y.x y.a y.c,.func (.func g) #[] caps.toArray]) (vv:=fun _=>.tuple #[]) (pp:=fun _=>True) (St (pre++plc q.hd.x++(q.bd.take i).flatMap fun y=>plc y.x)) (AA:=fun _=>St ((pre++plc q.hd.x++(q.bd.take i).flatMap fun y=>plc y.x)++plc y.x)) rfl (fun w' hw' hH=>(Jfg St N g caps w0 hU y.x y.a y.c (pre++plc q.hd.x++(q.bd.take i).flatMap fun y=>plc y.x) (by (try simp only [xL]);omega) hN2 w' hra (Jb2 hk (hU.blk pre) hw') hH).mono (fun en w'' ⟨h1,h2⟩=>⟨(),h1,trivial,h2⟩)) ?_;rintro _ _;refine Nl (Xb (Xn (Cr (Zv (OV.bm (j:=1) rfl rfl (by omega)) (Zm rfl (Nl ?_))))))
  exact WX.bk (i+1) Y5 (fun w' hw=>⟨by omega,by
   rw [Jfy ht,← xF];exact hw.pik [St ((pre++plc q.hd.x++(q.bd.take i).flatMap fun y=>plc y.x)++plc y.x),[oQ b5 (agC y) 29],[oQ b2 (cgC q) 32]] [0,2] 3⟩) (by show q.bd.length - (i+1)<q.bd.length - i;omega)
 refine Ce (Xe (Xe (Xh (Xn (Csr (Zv (OV.f0 6 rfl T.u32 rfl) (Zv (OV.ah (v:=.slice q.ta q.ts.length q.tc) rfl T.u30 rfl (fun _ hw=>(Jax (hw.it (oQ b2 (cgC q) 32) (by simp)) (o:=6) rfl).1)) (Zv (OV.ae rfl T.u30) (Zm rfl (Nn (Cb ?_)))))))))));rw [xK (by omega),← Jil];clear hi
 refine WC.cm (fun (i:Nat)=>[(1,.func (.func g) #[] caps.toArray),(2,yZ b2),(24,.slice q.ta q.ts.length q.tc),(25,.int .i64 (q.ts.length:Int)),(26,.int .i64 (i:Int))])
   (fun i w'=>i≤q.ts.length∧SatA w (St pre) (St (pre++plc q.hd.x++Jck q.cl++(q.ts.take i).flatMap plT)++[oQ b2 (cgC q) 32]) w')
   (fun i=>q.ts.length - i) 0 Y5 (fun w' hw=>⟨by omega,by simpa using hw⟩) ?_
 intro i;refine WC.pure (fun hi=>?_);refine Csr (Zv (OV.cq rfl rfl) (Nn (Cs ?_)));refine Cc rfl (fun c27=>?_) (fun c27=>?_)
 ·refine Ck (Xn (Cs (Cb (Csr ?_))));obtain ⟨q1,t,hq,ht,htm,hc⟩:=hr.ts.get (i:=i) (by omega);refine Zv ((OV.ad (show _=some (Value.slice (some q1) q.ts.length q.tc) by rw [← hq];rfl) rfl T.u30 T.z61 (by omega)).cast (u:=.pointer (some (q1.add (i*7)))) (by rw [xN])) (Zv (OV.ai (cs:=tsC t) rfl T.u61 rfl T.z61 (fun _ hw j v hj=>Jb2 hk (hU.blk pre) hw _ _ (hc j v hj))) (WL.alloc T.zr61 rfl ?_));intro b7;refine WL.ag (vs:=tsC t) rfl rfl rfl T.z61 rfl ?_;refine Nn (Csr (Zm rfl (Zv (OV.f0 1 rfl T.u61 rfl) (Zv (OV.ai (cs:=tmC t.l) rfl T.u26 rfl T.z26 (fun _ hw j v hj=>by rw [Jap];exact Jbv hw yH (o:=1) (cs':=tmC t.l) rfl j v hj)) ?_))));have hle:=Jgd plT q.ts (i+1);rw [Jb3 ht,List.flatMap_append,xL,← Jls,Jkj] at hle;have hle2:2*q.cl.ts.length=2*q.ts.length:=rfl;have hpt:([t].flatMap plT).length=2:=rfl;refine WL.focus (ow':=St ((pre++plc q.hd.x++Jck q.cl++(q.ts.take i).flatMap plT))++[oQ b7 (tsC t) 61,oQ b2 (cgC q) 32]) (pmC [[oQ b7 (tsC t) 61],St (pre++plc q.hd.x++Jck q.cl++(q.ts.take i).flatMap plT),[oQ b2 (cgC q) 32]] [1,0,2]) ?_;refine WL.gx (ι:=Unit) (f:=g) (caps:=caps) (vs:=[tmV t.l]) (vv:=fun _=>.tuple #[]) (SS:=fun _=>SatA w (St pre) (St ((pre++plc q.hd.x++Jck q.cl++(q.ts.take i).flatMap plT)++[t.l])++[oQ b7 (tsC t) 61,oQ b2 (cgC q) 32])) hU.bod rfl rfl rfl (fun w' hw'=>(hU.run ((pre++plc q.hd.x++Jck q.cl++(q.ts.take i).flatMap plT)) t.l w' (by (try simp only [xL,List.length_cons,List.length_nil,xJ]);omega) (Hw.Sat.holds hw')).mono (fun en w'' ⟨h1,h2⟩=>⟨(),h1,hw'.turns h2⟩)) ?_;intro _;refine Nn (Cr (Zm rfl (Zv (OV.f0 4 rfl T.u61 rfl) (Zv (OV.ai (cs:=tmC t.r) rfl T.u26 rfl T.z26 (fun _ hw j v hj=>by rw [Jap];exact Jbv hw (show oQ b7 (tsC t) 61∈_ by simp) (o:=4) (cs':=tmC t.r) rfl j v hj)) (WL.focus (ow':=St (((pre++plc q.hd.x++Jck q.cl++(q.ts.take i).flatMap plT)++[t.l]))++[oQ b7 (tsC t) 61,oQ b2 (cgC q) 32]) (List.Perm.refl _) ?_)))));refine WL.gx (ι:=Unit) (f:=g) (caps:=caps) (vs:=[tmV t.r]) (vv:=fun _=>.tuple #[]) (SS:=fun _=>SatA w (St pre) (St (((pre++plc q.hd.x++Jck q.cl++(q.ts.take i).flatMap plT)++[t.l])++[t.r])++[oQ b7 (tsC t) 61,oQ b2 (cgC q) 32])) hU.bod rfl rfl rfl (fun w' hw'=>(hU.run (((pre++plc q.hd.x++Jck q.cl++(q.ts.take i).flatMap plT)++[t.l])) t.r w' (by (try simp only [xL,List.length_cons,List.length_nil,xJ,xQ]);omega) (Hw.Sat.holds hw')).mono (fun en w'' ⟨h1,h2⟩=>⟨(),h1,hw'.turns h2⟩)) ?_;intro _;refine Nl (Xb (Xn (Cr (Zv (OV.bm (j:=1) rfl rfl (by omega)) (Zm rfl (Nl ?_))))))
  exact WX.bk (i+1) Y5 (fun w' hw=>⟨by omega,by
   rw [Jb3 ht,List.flatMap_append,← xF,show [t].flatMap plT=[t.l]++[t.r] from rfl,← xF];exact hw.pik [St ((pre++plc q.hd.x++Jck q.cl++(q.ts.take i).flatMap plT)++[t.l]++[t.r]),[oQ b7 (tsC t) 61],[oQ b2 (cgC q) 32]] [0,2] 3⟩) (by show q.ts.length - (i+1)<q.ts.length - i;omega)
 refine Ce (Xe (Xe (Xh ?_)));rw [xK (by omega),← Jls,show pre++plc q.hd.x++Jck q.cl++Jd3 q.cl=pre++Jbi q.cl by unfold Jbi;simp only [xF];rfl];exact WX.ret0 rfl rfl (fun w' hw=>⟨rfl,Hw.Sat.turnedL hw⟩)
end Go.Proofs.YtgebaodagaecmaaGreatDoor
