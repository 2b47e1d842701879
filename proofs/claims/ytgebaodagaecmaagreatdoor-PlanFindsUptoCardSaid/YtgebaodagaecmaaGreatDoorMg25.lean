/- Contracts of functions of the program: what each returns and leaves in memory. Printed by gen.py and walk.py. -/
import Derived.Test.YtgebaodagaecmaaGreatDoorMg24
import Derived.Test.YtgebaodagaecmaaGreatDoorHxA
import Derived.Test.YtgebaodagaecmaaGreatDoorMg22
set_option maxRecDepth 10000
namespace Go.Proofs.YtgebaodagaecmaaGreatDoor
open Go Go.Hw
set_option linter.unusedSimpArgs false
set_option linter.unusedVariables false
set_option maxHeartbeats 1000000 in
theorem madeFact_calls (x:At)(a:Option Addr)(c:Nat)(hl:x.args.length≤1048576)(hs:x.name.size≤1099511627776)(w:World)(hr:RT w a x.args):Calls Tryz.prog 50 #[atV x a c] w fun e w'=>∃ z:Option Addr × Nat,e=.returned (atV (Jce x) z.1 z.2)∧Turns [] [rowT z.1 z.2 (Jce x).args] w w':=by
 refine Jbo (args:=[atV x a c]) (fun _=>False) Tryz.func50 rfl Tryz.ntmps50 rfl rfl ?_;refine Csr (WL.box rfl rfl rfl ?_);intro b1;refine WL.alloc (cs:=atC ⟨T0,E0,[]⟩ none 0) T.zr29 rfl ?_;intro b2;refine Nn (Csr (Zv (OV.lN (cs:=atC x a c) rfl T.u29 rfl T.z29 yI) (WL.cT (ι:=Option Addr × Nat) (vs:=[atV x a c]) (vv:=fun z=>atV (Jaf x) z.1 z.2) (pp:=fun _=>True) [] (AA:=fun z=>[rowT z.1 z.2 (Jaf x).args]) rfl (fun w' hw' _=>(Jgb x a c hl hs w' (hr.keeps hw'.keeps)).mono (fun en w'' ⟨z,h1,h2⟩=>⟨z,h1,trivial,h2⟩)) ?_)));rintro ⟨ha,hac⟩ _;refine WL.alloc T.zr29 rfl ?_;intro b3;refine WL.ag (vs:=atC (Jaf x) ha hac) rfl rfl rfl T.z29 rfl ?_;refine Nn (Cs (Csr (Zv (OV.f0 0 rfl T.u29 rfl) (Zv (OV.f0 0 rfl T.u26 rfl) (Zv (OV.l1 (v:=.int .i64 (Jaf x).b.kind) rfl T.u3 rfl yH rfl) (Zv (OV.eb rfl rfl) (Nn ?_)))))));refine WC.ir [(2,yZ b2),(3,yZ b3)] (Sat0 w (oQ b3 (atC ⟨nvB (Jaf x).b,(Jaf x).name,(Jaf x).args⟩ ha hac) 29::rowT ha hac (Jaf x).args::oQ b2 (atC ⟨T0,E0,[]⟩ none 0) 29::oQ b1 (atC x a c) 29::[])) ?_ ?_
 ·refine Cc rfl (fun c10=>?_) (fun c10=>?_)
  ·refine Cr (Zv (OV.ao (xs:=[]) (pl:=[(0,1),(1,1),(2,1)]) (cs:=tmC T0) T.u26 T.zr26 (by kernel_rfl) rfl rfl) (Zv (OV.f0 0 rfl T.u29 rfl) (WL.lg (o:=0) (vs:=tmC T0) rfl rfl rfl T.z26 yW ?_)));refine Nl ?_;have em:nvB (Jaf x).b=T0:=by unfold nvB;rw [if_pos (by simpa using c10)]
   exact WX.dz Y2 (fun w' hw=>by rw [em];exact hw)
  refine Ck ?_;have em:nvB (Jaf x).b=(Jaf x).b:=by unfold nvB;rw [if_neg (by simpa using c10)]
  exact WX.dz Y2 (fun w' hw=>by rw [em];exact hw)
 refine Cs (Csr (Za rfl (Nn (Cb ?_))));have hha:=Jji x;refine WC.mq (fun w' hw=>(fun hp=>Jed (hw.it (rowT ha hac (Jaf x).args) yI) hp:0<(Jaf x).args.length→∃ q,ha=some ⟨q,0,none⟩)) (fun hqa=>?_)
 refine WC.cm (fun (i:Nat)=>[(2,yZ b2),(3,yZ b3),(4,.int .i64 (i:Int))])
   (fun i w'=>i≤(Jaf x).args.length∧Sat0 w (oQ b3 (atC ⟨nvB (Jaf x).b,(Jaf x).name,(((Jaf x).args.take i).map Jci++(Jaf x).args.drop i)⟩ ha hac) 29::rowT ha hac (((Jaf x).args.take i).map Jci++(Jaf x).args.drop i)::oQ b2 (atC ⟨T0,E0,[]⟩ none 0) 29::oQ b1 (atC x a c) 29::[]) w')
   (fun i=>(Jaf x).args.length - i) 0 Y3 (fun w' hw=>⟨by omega,hw⟩) ?_
 intro i;refine WC.pure (fun hi=>?_);have hcl:=Jgu Jci (Jaf x).args i;refine Cs (Csr (Zm rfl (Zv (OV.f0 4 rfl T.u29 rfl) (Zv (OV.l1 (v:=.slice ha (((Jaf x).args.take i).map Jci++(Jaf x).args.drop i).length hac) rfl T.u27 rfl yH rfl) (Zv (OV.ae rfl T.u27) (Zv (OV.cq rfl rfl) (Nn ?_)))))));refine Cc rfl (fun c17=>?_) (fun c17=>?_)
 ·refine Ck (Xn (Cs (Cb (Hd (fun w'=>w'.heap[b3]?=some (.cells (atC ⟨nvB (Jaf x).b,(Jaf x).name,(((Jaf x).args.take i).map Jci++(Jaf x).args.drop i)⟩ ha hac).toArray 29 (0,0))∧(rowT ha hac (((Jaf x).args.take i).map Jci++(Jaf x).args.drop i)).φ w') [10] (fun _ hw=>⟨hw.it (oQ b3 (atC ⟨nvB (Jaf x).b,(Jaf x).name,(((Jaf x).args.take i).map Jci++(Jaf x).args.drop i)⟩ ha hac) 29) (by simp),hw.it (rowT ha hac (((Jaf x).args.take i).map Jci++(Jaf x).args.drop i)) (by simp)⟩) (m:=11) rfl ?_))));refine Hf 0 rfl (OV.f0 4 rfl T.u29 rfl) (Ht 1 rfl (OV.ah (v:=.slice ha (((Jaf x).args.take i).map Jci++(Jaf x).args.drop i).length hac) rfl T.u27 rfl (fun _ hw=>(Jax hw.1 (o:=4) rfl).1)) (Hf 2 rfl (OV.aw rfl) (Hf 3 rfl (OV.f0 4 rfl T.u29 rfl) (Ht 4 rfl (OV.ah (v:=.slice ha (((Jaf x).args.take i).map Jci++(Jaf x).args.drop i).length hac) rfl T.u27 rfl (fun _ hw=>(Jax hw.1 (o:=4) rfl).1)) (Hf 5 rfl (OV.aw rfl) ?_)))));obtain ⟨t,ht⟩:∃ t,(Jaf x).args[i]?=some t:=⟨_,xD (by omega)⟩
  obtain ⟨qh,hqh⟩:=hqa (by omega);refine Hf 6 rfl ((OV.ad (show _=some (Value.slice (some ⟨qh,0,none⟩) (((Jaf x).args.take i).map Jci++(Jaf x).args.drop i).length hac) by rw [← hqh];rfl) rfl T.u27 T.z26 (by rw [Jgu];omega)).cast (u:=.pointer (some ⟨qh,i*3,none⟩)) (by rw [xN,Jap,xM])) ?_;refine Ht 7 rfl (OV.ai (cs:=tmC t) rfl T.u26 rfl T.z26 (fun _ hw j v hj=>by have hj3:j<3:=(List.getElem?_eq_some_iff.1 hj).1;have h:=Jcr hqh hw.2 (i*3+j) v (by rw [Jcu Jc0 _ i j t (cur_get ht) (by omega)];exact hj);rwa [Jap,xM,← Jap] at h)) ?_;refine Ho 8 rfl (fl':=false) rfl ?_;refine WL.au (v:=tmV (Jci t)) (by kernel_rfl) rfl rfl (fun w' hw'=>ground_calls t w') ?_;refine Hc (fun _=>(fun _ hw=>⟨hw.it (oQ b3 (atC ⟨nvB (Jaf x).b,(Jaf x).name,(((Jaf x).args.take i).map Jci++(Jaf x).args.drop i)⟩ ha hac) 29) (by simp),hw.it (rowT ha hac (((Jaf x).args.take i).map Jci++(Jaf x).args.drop i)) (by simp)⟩)) ?_;refine Hf 9 rfl ((OV.ad (show _=some (Value.slice (some ⟨qh,0,none⟩) (((Jaf x).args.take i).map Jci++(Jaf x).args.drop i).length hac) by rw [← hqh];rfl) rfl T.u27 T.z26 (by rw [Jgu];omega)).cast (u:=.pointer (some ⟨qh,i*3,none⟩)) (by rw [xN,Jap,xM])) (Ho 10 rfl (fl':=true) rfl ?_);refine WL.focus perm1 (WL.io (vs:=tmC (Jci t)) (o:=i*3) rfl hqh rfl rfl T.z26 (by rw [cur_len3];show i*3+3≤_;omega) ?_);refine Hc (fun h=>by cases h) ?_;refine He (Xb (Xn (Cr (Zm rfl (Zv (OV.bm (j:=1) rfl rfl (by omega)) (Za rfl (Nl ?_)))))));have hfp:=Jmd (((Jaf x).args.take i).map Jci++(Jaf x).args.drop i) i (Jci t) (by omega);rw [hfp,cur_set ht]
  exact WX.bk (i+1) Y3 (fun w' hw=>⟨by omega,by
   have hl1:=Jgu Jci (Jaf x).args (i+1);rw [hcl,← hl1] at hw;have hce:atC ⟨nvB (Jaf x).b,(Jaf x).name,(((Jaf x).args.take i).map Jci++(Jaf x).args.drop i)⟩ ha hac=atC ⟨nvB (Jaf x).b,(Jaf x).name,(((Jaf x).args.take (i+1)).map Jci++(Jaf x).args.drop (i+1))⟩ ha hac:=by unfold atC;simp only [Jgu]
   rw [← hce];exact hw.perm perm1⟩) (by show (Jaf x).args.length - (i+1)<(Jaf x).args.length - i;omega)
 refine Ce (Xe (Xe (Xh (Xn (Csr (Zv (OV.lN (cs:=atC ⟨nvB (Jaf x).b,(Jaf x).name,(((Jaf x).args.take i).map Jci++(Jaf x).args.drop i)⟩ ha hac) rfl T.u29 rfl T.z29 yH) ?_))))));refine WL.focus perm2 (WL.ag (vs:=atC ⟨nvB (Jaf x).b,(Jaf x).name,(((Jaf x).args.take i).map Jci++(Jaf x).args.drop i)⟩ ha hac) rfl rfl rfl T.z29 rfl ?_);refine Nn (WC.az ?_)
 have hcm:(⟨nvB (Jaf x).b,(Jaf x).name,(((Jaf x).args.take i).map Jci++(Jaf x).args.drop i)⟩:At)=Jce x:=by
  have e1:(Jaf x).args.take i=(Jaf x).args:=xK (by omega);have e2:(Jaf x).args.drop i=[]:=xW (by omega);rw [e1,e2,xZ];rfl
 have hca:(((Jaf x).args.take i).map Jci++(Jaf x).args.drop i)=(Jce x).args:=congrArg At.args hcm;rw [hcm,hca];refine WX.retC (cs:=atC (Jce x) ha hac) rfl rfl rfl T.u29 rfl T.z29 (fun w' hw j v hj=>Jbh hw yH j v hj) (fun w' hw=>⟨(ha,hac),rfl,?_⟩);exact (hw.pik [[oQ b2 (atC (Jce x) ha hac) 29],[oQ b3 (atC (Jce x) ha hac) 29],[rowT ha hac (Jce x).args],[oQ b1 (atC x a c) 29]] [2] 4).turned0
theorem Jld (g:BaseG)(k:Nat)(F:List (At × Nat))(b:BS g k F)(ys:List AG)(a:Option Addr)(c n:Nat)(hkk:k+ys.length≤100000000000)(hsz:∀ y∈ys,y.x.args.length≤1048576∧y.x.name.size≤1099511627776)(hyl:ys.length≤1099511627776)(w0 w:World)(hk:Keeps w0 w)(hB:∀ b,DD (baseA g) b→w0.heap.size≤b)(hN:Jdb w0)(hr:RA w0 a ys)(hA:Holds (baseA g) w):
 Calls Tryz.prog 16 #[ptr g.p,.slice a ys.length c,.int .i64 (n:Int)] w fun e w'=>∃ g',e=.returned (.tuple #[])∧(BS g' (k+(ys.take n).length) (Jeu F ((ys.take n).map fun y=>Jce y.x))∧g'.p=g.p)∧Turns (baseA g) (baseA g') w w':=by
 refine Jdt hA (args:=[ptr g.p,.slice a ys.length c,.int .i64 (n:Int)]) Tryz.func16 rfl Tryz.ntmps16 rfl rfl ?_;refine Csr (Za rfl (Nn (Cb ?_)))
 refine WC.j1 (fun (i:Nat) (gk:BaseG)=>[(0,ptr g.p),(1,.slice a ys.length c),(2,.int .i64 (n:Int)),(6,.int .i64 (i:Int))])
   (fun i gk w'=>(i≤ys.length∧i≤n∧BS gk (k+i) (Jeu F ((ys.take i).map fun y=>Jce y.x))∧gk.p=g.p)∧SatA w (baseA g) (baseA gk) w')
   (fun i _=>ys.length - i) 0 g Y4 (fun w' hw=>⟨⟨by omega,by omega,b,rfl⟩,hw⟩) ?_
 intro i gk;refine WC.pure (fun hi=>?_);obtain ⟨hi,hin,bsk,hgp⟩:=hi;refine Cs (Csr (Zm rfl (Zm rfl (Zv (OV.ae rfl T.u22) (Zv (OV.cq rfl rfl) (Zm rfl ?_))))));refine Zp (t:=11) rfl (fun g11=>?_) (fun g11=>?_)
 ·refine yY (Zm rfl (yY (Zm rfl (yY (Zv (OV.cq rfl rfl) (Zv (OV.am rfl rfl) (Nn ?_)))))));refine Cc rfl (fun c15=>?_) (fun c15=>?_)
  ·refine Ck (Xn (Cs (Cb (Cr (Zm rfl (Zm rfl (Zm rfl ?_)))))));obtain ⟨q1,y,hq,ht,htm,hra,hc⟩:=hr.get (i:=i) (by omega);refine Zv ((OV.ad (show _=some (Value.slice (some q1) ys.length c) by rw [← hq];rfl) rfl T.u22 T.z29 (by omega)).cast (u:=.pointer (some (q1.add (i*5)))) (by rw [xN])) (Zv (OV.ai (cs:=atC y.x y.a y.c) rfl T.u29 rfl T.z29 (fun _ hw j v hj=>(Jb2 hk hB hw) _ _ (hc j v hj))) ?_);have hsy:=hsz y htm;refine WL.cT (ι:=Option Addr × Nat) (vs:=[atV y.x y.a y.c]) (vv:=fun z=>atV (Jce y.x) z.1 z.2) (pp:=fun _=>True) [] (AA:=fun z=>[rowT z.1 z.2 (Jce y.x).args]) rfl (fun w' hw' _=>(madeFact_calls y.x y.a y.c hsy.1 hsy.2 w' (hra.keeps (Jb2 hk hB hw'))).mono (fun en w'' ⟨z,h1,h2⟩=>⟨z,h1,trivial,h2⟩)) ?_;rintro ⟨za,zc⟩ _;have hfa:(Jce y.x).args.length≤8:=by show ((Jaf y.x).args.map Jci).length≤8;rw [xE];exact Jji _
   have hfn:(Jce y.x).name.size≤1099511627776:=by
    have h1:=(chkA_zero.1 (Jk7 y.x)).1;unfold nameB at h1;rw [decide_eq_true_eq] at h1;have:=h1.2.1;show (Jaf y.x).name.size≤_;omega
   refine WL.focus (ow':=baseA gk++[rowT za zc (Jce y.x).args]) (pmC [[rowT za zc (Jce y.x).args],baseA gk] [1,0]) ?_
   refine WL.cT (ι:=BaseG) (vs:=[ptr g.p,atV (Jce y.x) za zc]) (vv:=fun _=>.tuple #[.bool (factB (Jce y.x) && decide (Jce y.x∉(Jeu F ((ys.take i).map fun y=>Jce y.x)).map (·.1))),.int .i64 (if factB (Jce y.x)=true then 0 else 81)]) (pp:=fun g'=>BS g' (k+i+1) (addF (Jeu F ((ys.take i).map fun y=>Jce y.x)) (Jce y.x))∧g'.p=g.p) (baseA gk) (AA:=fun g'=>baseA g') rfl (fun w' hw' hH=>by
    have h9:=badd_bs gk (k+i) (Jeu F ((ys.take i).map fun y=>Jce y.x)) bsk (by omega) (Jce y.x) za zc (by omega) (by omega) w' (hN.keeps (Jb2 hk hB hw')) (fun h0=>by have h5:=newer hB (Nat.le_of_lt (Nat.lt_of_le_of_lt (hB _ (base_in g)) (base_lt hA))) (show Sat w _ _ w (baseA gk++[rowT za zc (Jce y.x).args]) w' from hw') 0 h0;have:=hN.lt;omega) (RT.of_row (c:=zc) rfl (show Sat w _ _ w (baseA gk++[rowT za zc (Jce y.x).args]) w' from hw') (xB _ yH)) (fun p hp _=>Sat.sepO (show Sat w _ _ w (baseA gk++[rowT za zc (Jce y.x).args]) w' from hw') (i:=rowT za zc (Jce y.x).args) yH ⟨p,hp,rfl⟩) hH;rw [hgp] at h9;exact h9) ?_
   rintro g2 ⟨bs2,hp2⟩;refine Nl (Xb (Xn (Cr (Zm rfl (Zv (OV.bm (j:=1) rfl rfl (by omega)) (Za rfl (Nl ?_)))))))
   exact WX.er (i+1) g2 Y4 (fun w' hw=>⟨⟨by omega,by omega,by
    rw [Jb3 ht,xU];show BS g2 (k+(i+1)) (Jeu F (((ys.take i).map fun y=>Jce y.x)++[Jce y.x]));rw [addAll_snoc];exact bs2,hp2⟩,by
    have h1:=hw.pik [baseA g2,[rowT za zc (Jce y.x).args]] [0] 2;exact h1⟩) (by show ys.length - (i+1)<ys.length - i;omega)
  refine Ce (Xe (Xe (Xh ?_)));obtain rfl:i=n:=by omega
  exact WX.ret0 rfl rfl (fun w' hw=>⟨gk,rfl,⟨by rw [xJ,Nat.min_eq_left (by omega)];exact bsk,hgp⟩,hw.turned⟩)
 refine yX (yX (yX (Zv (OV.aj rfl rfl) (Nn (WC.bu (show _=some (Value.bool false) from by rfl) ?_)))));refine Ce (Xe (Xe (Xh ?_)));obtain rfl:i=ys.length:=by omega
 have e1:ys.take n=ys:=xK (by omega);have e2:ys.take ys.length=ys:=List.take_length;rw [e2] at bsk;exact WX.ret0 rfl rfl (fun w' hw=>⟨gk,rfl,⟨by rw [e1];exact bsk,hgp⟩,hw.turned⟩)
structure RTG (w:World) (a:Option Addr) (ts:List TG):Prop where
 nil:a=none→ts.length=0
 at_:∀ q,a=some q→∀ i y,ts[i]?=some y→w.cell? (q.add i)=some (tgV y)
 args:∀ y∈ts,RT w y.a y.l
theorem RTG.keeps {w w':World}{a:Option Addr}{ts:List TG}(h:RTG w a ts)(k:Keeps w w'):RTG w' a ts:=⟨h.nil,fun q hq i y hy=>k _ _ (h.at_ q hq i y hy),fun y hy=>(h.args y hy).keeps k⟩
theorem RTG.get {w:World}{a:Option Addr}{ts:List TG}(h:RTG w a ts){i:Nat}(hi:i<ts.length):∃ q y,a=some q∧ts[i]?=some y∧y∈ts∧RT w y.a y.l∧w.cell? (q.add i)=some (tgV y):=by
 cases a with
 | none=>have:=h.nil rfl;omega
 | some q=>exact ⟨q,ts[i],rfl,xD hi,List.getElem_mem hi,h.args _ (List.getElem_mem hi),h.at_ q rfl i _ (xD hi)⟩
theorem RTG.of_items {w0 ws w:World}{M I:Nat→Prop}{ow:List Hw.Item}{a:Option Addr}{c:Nat}{ts:List TG}(hw:Sat w0 M I ws ow w)(hm:rowR a c ts∈ow)(ht:∀ y∈ts,tgA y∈ow):RTG w a ts:=by
 refine ⟨fun ha=>?_,fun q hq i y hy=>?_,fun y hy=>RT.of_row (c:=y.c) rfl hw (ht y hy)⟩
 ·rcases (Jd4 hw hm).2 with ⟨_,h,_⟩ | ⟨b,hb,_⟩
  ·exact h
  ·rw [ha] at hb;cases hb
 ·subst hq;exact Jdr hw hm i (tgV y) (by rw [xG,hy];rfl)
def mostL:List Int:=[60,60,16,7,4,3,2,1,1]
def mostN (n:Nat):Nat:=(mostL.getD n 0).toNat
theorem mostL_get {n:Nat}(h:n≤8):(mostL.map fun k:Int=>Value.int .i64 k)[n]?=some (.int .i64 ((mostN n:Nat):Int)):=by
 have h2:∀ m:Fin 9,mostL[m.1]?=some (((mostL.getD m.1 0).toNat:Nat):Int):=by decide
 rw [xG,h2 ⟨n,by omega⟩];rfl
theorem most_law (n:Nat)(hn:n≤8)(w:World):Calls Tryz.prog 8 #[.int .i64 (n:Int)] w fun e w'=>e=.returned (.int .i64 ((mostN n:Nat):Int))∧Fr0 w w':=by
 refine Jbo (args:=[.int .i64 (n:Int)]) (fun _=>False) Tryz.func8 rfl Tryz.ntmps8 rfl rfl ?_;refine Csr (Za rfl (Nn (Csr (Zv (OV.buildArr (xs:=[60,60,16,7,4,3,2,1,1].map fun k:Int=>Operand.const (.int .i64 k)) (vs:=mostL.map fun k:Int=>Value.int .i64 k) rfl T.u79 T.z3 T.zr79 rfl (Eq.refl 9) rfl) (WL.alloc T.zr79 rfl ?_)))));intro b3;refine WL.ag (vs:=mostL.map fun k:Int=>Value.int .i64 k) rfl rfl rfl T.z79 rfl ?_;refine Nn (Cs (Csr (Zm rfl (Zv ((OV.lj rfl rfl).cast (u:=.bool false) (congrArg Value.bool (xP (by omega)))) (Nn (WC.bu (show _=some (Value.bool false) from by rfl) ?_))))));refine Ck (Xn (Csr (Zm rfl (Zv (OV.jx rfl rfl T.u79 T.z3 (by omega)) (Zv (OV.ah (v:=.int .i64 ((mostN n:Nat):Int)) rfl T.u3 rfl (fun _ hw=>Jbh hw yH n _ (mostL_get hn))) (Za rfl (Nn (WC.az ?_))))))));exact WX.ret1 rfl rfl rfl (fun w' hw=>⟨rfl,hw.fr⟩)
theorem ahead_law (ls ms:List Tm)(hlm:ls.length=ms.length)(a1 a2:Option Addr)(c1 c2:Nat)(h1:ls.length≤1099511627776)(w:World)(hr1:RT w a1 ls)(hr2:RT w a2 ms):Calls Tryz.prog 47 #[.slice a1 ls.length c1,.slice a2 ms.length c2] w fun e w'=>e=.returned (.bool (decide (cmpR ls ms<0)))∧Fr0 w w':=by
 refine Jbo (args:=[.slice a1 ls.length c1,.slice a2 ms.length c2]) (fun _=>False) Tryz.func47 rfl Tryz.ntmps47 rfl rfl ?_;refine Csr (Za rfl (Nn (Cs (Csr (Za rfl (Nn (Cb ?_)))))))
 refine WC.cm (fun (i:Nat)=>[(0,.slice a1 ls.length c1),(1,.slice a2 ms.length c2),(5,.int .i64 (i:Int))])
   (fun i w'=>(i≤ls.length∧cmpR (ls.drop i) (ms.drop i)=cmpR ls ms)∧Sat0 w ([]) w')
   (fun i=>ls.length - i) 0 Y3 (fun w' hw=>⟨⟨by omega,rfl⟩,hw⟩) ?_
 intro i;refine WC.pure (fun hi=>?_);obtain ⟨hi,hcm⟩:=hi;refine Cs (Csr (Zm rfl (Zm rfl (Zv (OV.ae rfl T.u27) (Zv (OV.cq rfl rfl) (Zm rfl ?_))))));refine Zp (t:=11) rfl (fun g11=>?_) (fun g11=>?_)
 ·refine yY (Zm rfl (yY (Zm rfl (yY (Zv (OV.ae rfl T.u27) (yY (Zv ((OV.cq rfl rfl).cast (u:=.bool true) (congrArg Value.bool (xO (by omega)))) (Zv (OV.am rfl rfl) (Nn (WC.co (show _=some (Value.bool true) from by rfl) ?_))))))))));refine Ck (Xn (Cs (Cb (Cs ?_))));obtain ⟨q1,t1,hq1,ht1,_,_,hc1⟩:=hr1.get (i:=i) (by omega);obtain ⟨q2,t2,hq2,ht2,_,_,hc2⟩:=hr2.get (i:=i) (by omega);refine Hq [8] (m:=10) rfl ?_;refine Hf 0 rfl (OV.aw rfl) (Hf 1 rfl (OV.aw rfl) ?_);obtain ⟨q1,t1,hq1,ht1,_,_,hc1⟩:=hr1.get (i:=i) (by omega);obtain ⟨q2,t2,hq2,ht2,_,_,hc2⟩:=hr2.get (i:=i) (by omega);refine Hf 2 rfl ((OV.ad (show _=some (Value.slice (some q1) ls.length c1) by rw [← hq1];rfl) rfl T.u27 T.z26 (by omega)).cast (u:=.pointer (some (q1.add (i*3)))) (by rw [xN])) (Ht 3 rfl (OV.ai (cs:=tmC t1) rfl T.u26 rfl T.z26 (fun _ hw j v hj=>hw.keeps _ _ (hc1 j v hj))) (Hf 4 rfl (OV.aw rfl) (Hf 5 rfl (OV.aw rfl) (Hf 6 rfl ((OV.ad (show _=some (Value.slice (some q2) ms.length c2) by rw [← hq2];rfl) rfl T.u27 T.z26 (by omega)).cast (u:=.pointer (some (q2.add (i*3)))) (by rw [xN])) (Ht 7 rfl (OV.ai (cs:=tmC t2) rfl T.u26 rfl T.z26 (fun _ hw j v hj=>hw.keeps _ _ (hc2 j v hj))) (Ho 8 rfl (fl':=true) rfl ?_))))));refine WL.au (v:=.int .i64 (cmpT t1 t2)) (by kernel_rfl) rfl rfl (fun w' hw'=>Jjl t1 t2 w') ?_;refine Hc (fun h=>by cases h) ?_;refine Hf 9 rfl (OV.assign rfl) (He (Xn (Csr (Zm rfl (Zv (OV.iu rfl rfl) (Nn ?_))))));refine Cc rfl (fun c29=>?_) (fun c29=>?_)
  ·refine Csr (Zm rfl (Zv (OV.cq rfl rfl) (Za rfl (Nn (WC.az ?_)))));refine Xq (Xr (Xr (Xq (Xr ?_))));exact WX.ret1 rfl rfl rfl (fun w' hw=>⟨by rw [← hcm,show cmpR (ls.drop i) (ms.drop i)=cmpT t1 t2 from cmpList_hit ht1 ht2 (by omega)],hw.fr⟩)
  refine Ck (Xb (Xn (Cr (Zm rfl (Zv (OV.bm (j:=1) rfl rfl (by omega)) (Za rfl (Nl ?_)))))));exact WX.bk (i+1) Y3 (fun w' hw=>⟨⟨by omega,by rw [← hcm];exact (cmpList_drop ht1 ht2 (by omega)).symm⟩,hw⟩) (by show ls.length - (i+1)<ls.length - i;omega)
 refine yX (yX (yX (yX (Zv (OV.aj rfl rfl) (Nn (WC.bu (show _=some (Value.bool false) from by rfl) ?_))))));refine Ce (Xe (Xe (Xh (Xn (Csr (Za rfl (Nn (WC.az ?_))))))));exact WX.ret1 rfl rfl rfl (fun w' hw=>⟨by rw [← hcm,xW (by omega),xW (by omega)];rfl,hw.fr⟩)
theorem Jpe {ts:List TG}(hs:Str cmpR (ts.map TG.l)){i j:Nat}{x y:TG}(hx:ts[i]?=some x)(hy:ts[j]?=some y)(h:i<j):cmpR x.l y.l<0:=by
 have h1:=(List.getElem?_eq_some_iff.1 hx).1;have h2:=(List.getElem?_eq_some_iff.1 hy).1;have h3:=List.pairwise_iff_getElem.1 (show (ts.map TG.l).Pairwise _ from hs) i j (by rw [xE];exact h1) (by rw [xE];exact h2) h;rw [List.getElem_map,List.getElem_map] at h3;rw [xD h1] at hx;rw [xD h2] at hy;rw [← xH hx,← xH hy];exact h3
theorem str_not {ts:List TG}(hs:Str cmpR (ts.map TG.l)){i j:Nat}{x y:TG}(hx:ts[i]?=some x)(hy:ts[j]?=some y)(h:cmpR x.l y.l<0):i<j:=by
 rcases Nat.lt_or_ge i j with h1 | h1
 ·exact h1
 ·rcases Nat.eq_or_lt_of_le h1 with h2 | h2
  ·subst h2;rw [hx] at hy;rw [xH hy,Jn2.refl] at h;omega
  ·have h3:=Jpe hs hy hx h2;have h4:=Jn2.anti y.l x.l;have e1:cmpR x.l y.l=- cmpR y.l x.l:=h4;omega
theorem has_law (ts:List TG)(a:Option Addr)(c:Nat)(hst:Str cmpR (ts.map TG.l))(htl:ts.length≤1099511627776)(N:Nat)(hN:N≤1099511627776)(hlen:∀ y∈ts,y.l.length=N)(row:List Tm)(ra:Option Addr)(rc:Nat)(hrl:row.length=N)(hin:row∈ts.map TG.l)(w:World)(hr:RTG w a ts)(hrr:RT w ra row):Calls Tryz.prog 14 #[.slice a ts.length c,.slice ra row.length rc] w fun e w'=>e=.returned (.bool true)∧Fr0 w w':=by
 obtain ⟨py,hpm,hpr⟩:=List.mem_map.1 hin;obtain ⟨p,hp⟩:=List.mem_iff_getElem?.1 hpm;have hpl:=(List.getElem?_eq_some_iff.1 hp).1;refine Jbo (args:=[.slice a ts.length c,.slice ra row.length rc]) (fun _=>False) Tryz.func14 rfl Tryz.ntmps14 rfl rfl ?_;refine Csr (Za rfl (Nn (Csr (Za rfl (Nn (Csr (Zm rfl (Zv (OV.ae rfl T.u39) (Za rfl (Nn (Cs (Cb ?_))))))))))))
 refine WC.j1 (fun (lo hi:Nat)=>[(0,.slice a ts.length c),(1,.slice ra row.length rc),(5,.int .i64 (lo:Int)),(6,.int .i64 (hi:Int))])
   (fun lo hi w'=>(lo≤p∧p≤hi∧hi≤ts.length)∧Sat0 w ([]) w')
   (fun lo hi=>hi - lo) 0 ts.length Y4 (fun w' hw=>⟨⟨by omega,by omega,by omega⟩,hw⟩) ?_
 intro lo hi;refine WC.pure (fun hi2=>?_);obtain ⟨hlo,hhi,hhl⟩:=hi2;refine Cs (Csr (Zm rfl (Zm rfl (Zv (OV.cq rfl rfl) (Nn ?_)))));refine Cc rfl (fun c12=>?_) (fun c12=>?_)
 ·refine Ck (Xn (Cb (Csr (Zm rfl (Zm rfl (Zv (OV.bm rfl rfl (by omega)) (Zv (OV.quoN (j:=2) rfl rfl (by omega)) (Za rfl (Nn (Csr (Zm rfl (Zm rfl ?_))))))))))));obtain ⟨q,y,hq,hy,hym,hry,hcy⟩:=hr.get (i:=(lo+hi) / 2) (by omega);refine Zv ((OV.ad (show _=some (Value.slice (some q) ts.length c) by rw [← hq];rfl) rfl T.u39 T.z27 (by omega)).cast (u:=.pointer (some (q.add ((lo+hi) / 2)))) (by rw [xN,Nat.mul_one])) (Zv (OV.ah (v:=tgV y) rfl T.u27 rfl (fun _ hw=>hw.keeps _ _ hcy)) (Zm rfl (WL.c0 (v:=.bool (decide (cmpR y.l row<0))) (vs:=[tgV y,.slice ra row.length rc]) (fun w' hw'=>ahead_law y.l row (by rw [hlen y hym,hrl]) y.a ra y.c rc (by rw [hlen y hym];exact hN) w' (hry.keeps hw'.keeps) (hrr.keeps hw'.keeps)) ?_)));refine Nn ?_;refine Cc rfl (fun c22=>?_) (fun c22=>?_)
  ·refine Cr (Zm rfl (Zv (OV.bm (j:=1) rfl rfl (by omega)) (Za rfl (Nl (Xb ?_)))));have h9:=str_not hst hy hp (by rw [hpr];exact c22);exact WX.er ((lo+hi) / 2+1) hi Y4 (fun w' hw=>⟨⟨by omega,by omega,by omega⟩,hw⟩) (by show hi - ((lo+hi) / 2+1)<hi - lo;omega)
  refine Cr (Zm rfl (Za rfl (Nl (Xb ?_))));have h9:p≤(lo+hi) / 2:=Nat.le_of_not_lt fun h=>c22 (by rw [← hpr];exact Jpe hst hy hp h)
  exact WX.er lo ((lo+hi) / 2) Y4 (fun w' hw=>⟨⟨by omega,by omega,by omega⟩,hw⟩) (by show (lo+hi) / 2 - lo<hi - lo;omega)
 refine Ce (Xe (Xe (Xh (Xn (Csr (Zm rfl (Zm rfl (Zv (OV.ae rfl T.u39) (Zv ((OV.cq rfl rfl).cast (u:=.bool true) (congrArg Value.bool (xO (by omega)))) (Zm rfl (WL.known (t:=30) (b:=true) rfl (by rfl) ?_)))))))))));refine yY (Zm rfl (yY (Zm rfl (yY ?_))));obtain rfl:lo=p:=by omega
 obtain ⟨q,y,hq,hy,hym,hry,hcy⟩:=hr.get (i:=lo) (by omega);refine Zv ((OV.ad (show _=some (Value.slice (some q) ts.length c) by rw [← hq];rfl) rfl T.u39 T.z27 (by omega)).cast (u:=.pointer (some (q.add lo))) (by rw [xN,Nat.mul_one])) (yY (Zv (OV.ah (v:=tgV y) rfl T.u27 rfl (fun _ hw=>hw.keeps _ _ hcy)) (yY (Zm rfl (yY (WL.c0 (v:=.bool (decide (y.l=row))) (vs:=[tgV y,.slice ra row.length rc]) (fun w' hw'=>sameTerms_calls y.l row y.a ra y.c rc (by rw [hlen y hym];exact hN) (by rw [hrl];exact hN) w' (hry.keeps hw'.keeps) (hrr.keeps hw'.keeps)) ?_))))));refine Zv (OV.am rfl rfl) (Za rfl (Nn (WC.az ?_)))
 have hyp:y.l=row:=by
  rw [hp] at hy;rw [← xH hy];exact hpr
 exact WX.ret1 rfl rfl rfl (fun w' hw=>⟨by rw [xO hyp],hw.fr⟩)
theorem rises_law (ts:List TG)(a:Option Addr)(c:Nat)(hst:Str cmpR (ts.map TG.l))(htl:ts.length≤1099511627776)(N:Nat)(hN:N≤1099511627776)(hlen:∀ y∈ts,y.l.length=N)(hcs:∀ y∈ts,∀ t∈y.l,Jcy t=true)(w:World)(hr:RTG w a ts):Calls Tryz.prog 13 #[.slice a ts.length c,.int .i64 (N:Int)] w fun e w'=>e=.returned (.bool true)∧Fr0 w w':=by
 refine Jbo (args:=[.slice a ts.length c,.int .i64 (N:Int)]) (fun _=>False) Tryz.func13 rfl Tryz.ntmps13 rfl rfl ?_;refine Csr (Za rfl (Nn (Cs (Csr (Za rfl (Nn (Cb ?_)))))))
 refine WC.cm (fun (i:Nat)=>[(0,.slice a ts.length c),(1,.int .i64 (N:Int)),(5,.int .i64 (i:Int))])
   (fun i w'=>i≤ts.length∧Sat0 w ([]) w')
   (fun i=>ts.length - i) 0 Y3 (fun w' hw=>⟨by omega,hw⟩) ?_
 intro i;refine WC.pure (fun hi=>?_);refine Cs (Csr (Zm rfl (Zm rfl (Zv (OV.ae rfl T.u39) (Zv (OV.cq rfl rfl) (Nn ?_))))));refine Cc rfl (fun c10=>?_) (fun c10=>?_)
 ·refine Ck (Xn (Cs (Cb (Cs (Cs ?_)))));obtain ⟨q,y,hq,hy,hym,hry,hcy⟩:=hr.get (i:=i) (by omega);have hyN:=hlen y hym;refine Cr (Zm rfl (Zm rfl (Zv ((OV.ad (show _=some (Value.slice (some q) ts.length c) by rw [← hq];rfl) rfl T.u39 T.z27 (by omega)).cast (u:=.pointer (some (q.add i))) (by rw [xN,Nat.mul_one])) (Zv (OV.ah (v:=tgV y) rfl T.u27 rfl (fun _ hw=>hw.keeps _ _ hcy)) (Zv (OV.ae rfl T.u27) (Zm rfl (Zv ((OV.iu rfl rfl).cast (u:=.bool false) (by rw [hlen y hym];simp)) (Nn (WC.bu (show _=some (Value.bool false) from by rfl) ?_)))))))));refine Ck (Xn (Cs (Csr (Za rfl (Nn (Cb ?_))))))
  refine WC.cm (fun (k:Nat)=>[(0,.slice a ts.length c),(1,.int .i64 (N:Int)),(5,.int .i64 (i:Int)),(6,.int .i64 (k:Int))])
    (fun k w'=>k≤N∧Sat0 w ([]) w')
    (fun k=>N - k) 0 Y4 (fun w' hw=>⟨by omega,hw⟩) ?_
  intro k;refine WC.pure (fun hk=>?_);refine Cs (Csr (Zm rfl (Zm rfl (Zv (OV.cq rfl rfl) (Nn ?_)))));refine Cc rfl (fun c22=>?_) (fun c22=>?_)
  ·refine Ck (Xn (Cs (Cb (Csr (Zm rfl (Zm rfl (Zv ((OV.ad (show _=some (Value.slice (some q) ts.length c) by rw [← hq];rfl) rfl T.u39 T.z27 (by omega)).cast (u:=.pointer (some (q.add i))) (by rw [xN,Nat.mul_one])) (Zv (OV.ah (v:=tgV y) rfl T.u27 rfl (fun _ hw=>hw.keeps _ _ hcy)) (Zm rfl ?_)))))))));obtain ⟨q2,t,hq2,ht,htm,_,hct⟩:=hry.get (i:=k) (by omega);refine Zv ((OV.ad (show _=some (Value.slice (some q2) y.l.length y.c) by rw [← hq2];rfl) rfl T.u27 T.z26 (by omega)).cast (u:=.pointer (some (q2.add (k*3)))) (by rw [xN])) (Zv (OV.ai (cs:=tmC t) rfl T.u26 rfl T.z26 (fun _ hw j v hj=>hw.keeps _ _ (hct j v hj))) (WL.c0 (v:=.bool true) (vs:=[tmV t]) (fun w' hw'=>(Jd7 t w').mono (fun en w'' ⟨h8,h9⟩=>⟨by rw [h8,hcs y hym t htm],h9⟩)) ?_));refine Zv (OV.not rfl) (Nn (WC.bu (show _=some (Value.bool false) from by rfl) ?_));refine Ck (Xb (Xn (Cr (Zm rfl (Zv (OV.bm (j:=1) rfl rfl (by omega)) (Za rfl (Nl ?_)))))));exact WX.bk (k+1) Y4 (fun w' hw=>⟨by omega,hw⟩) (by show N - (k+1)<N - k;omega)
  refine Ce (Xe (Xe (Xh (Xn (Cs ?_)))));obtain ⟨x,hx⟩:∃ x,ts[i - 1]?=some x:=⟨_,xD (by omega)⟩
  have hxm:=xC hx;have hcx:=hr.at_ q hq (i - 1) x hx;refine Hq [12] (m:=15) rfl ?_;refine Hf 0 rfl (OV.aw rfl) (Hf 1 rfl (OV.lj rfl rfl) (Hf 2 rfl (OV.aw rfl) ?_));refine Hp (t:=36) rfl (fun g36=>?_) (fun g36=>?_)
  ·refine Hfg 3 rfl rfl rfl rfl (OV.aw rfl) (Hfg 4 rfl rfl rfl rfl (OV.aw rfl) (Hfg 5 rfl rfl rfl rfl ((OV.m3 rfl rfl (by omega)).cast (u:=.int .i64 ((i - 1:Nat):Int)) (by congr 1;omega)) (Hfg 6 rfl rfl rfl rfl ((OV.ad (show _=some (Value.slice (some q) ts.length c) by rw [← hq];rfl) rfl T.u39 T.z27 (by omega)).cast (u:=.pointer (some (q.add (i - 1)))) (by rw [xN,Nat.mul_one])) (Htg 7 rfl rfl rfl rfl (OV.ah (v:=tgV x) rfl T.u27 rfl (fun _ hw=>hw.keeps _ _ hcx)) (Hfg 8 rfl rfl rfl rfl (OV.aw rfl) (Hfg 9 rfl rfl rfl rfl (OV.aw rfl) (Hfg 10 rfl rfl rfl rfl ((OV.ad (show _=some (Value.slice (some q) ts.length c) by rw [← hq];rfl) rfl T.u39 T.z27 (by omega)).cast (u:=.pointer (some (q.add i))) (by rw [xN,Nat.mul_one])) (Htg 11 rfl rfl rfl rfl (OV.ah (v:=tgV y) rfl T.u27 rfl (fun _ hw=>hw.keeps _ _ hcy)) (Ho 12 rfl (fl':=true) rfl ?_)))))))));refine yY (WL.c0 (v:=.bool true) (vs:=[tgV x,tgV y]) (fun w' hw'=>(ahead_law x.l y.l (by rw [hlen x hxm,hyN]) x.a y.a x.c y.c (by rw [hlen x hxm];exact hN) w' ((hr.args x hxm).keeps hw'.keeps) (hry.keeps hw'.keeps)).mono (fun en w'' ⟨h8,h9⟩=>⟨by rw [h8,xO (Jpe hst hx hy (by omega))],h9⟩)) ?_);refine Hc (fun h=>by cases h) ?_;refine Hfg 13 rfl rfl rfl rfl (OV.not rfl) (Hf 14 rfl (OV.am rfl rfl) (He (Xn (WC.bu (show _=some (Value.bool false) from by rfl) ?_))));refine Ck (Xb (Xn (Cr (Zm rfl (Zv (OV.bm (j:=1) rfl rfl (by omega)) (Za rfl (Nl ?_)))))));exact WX.bk (i+1) Y3 (fun w' hw=>⟨by omega,hw⟩) (by show ts.length - (i+1)<ts.length - i;omega)
  refine Hs 3 rfl rfl rfl rfl (Hs 4 rfl rfl rfl rfl (Hs 5 rfl rfl rfl rfl (Hs 6 rfl rfl rfl rfl (Hs 7 rfl rfl rfl rfl (Hs 8 rfl rfl rfl rfl (Hs 9 rfl rfl rfl rfl (Hs 10 rfl rfl rfl rfl (Hs 11 rfl rfl rfl rfl (Ho 12 rfl (fl':=true) rfl ?_)))))))));refine yX (Hc (fun h=>by cases h) ?_);refine Hs 13 rfl rfl rfl rfl (Hf 14 rfl (OV.aj rfl rfl) (He (Xn (WC.bu (show _=some (Value.bool false) from by rfl) ?_))));refine Ck (Xb (Xn (Cr (Zm rfl (Zv (OV.bm (j:=1) rfl rfl (by omega)) (Za rfl (Nl ?_)))))));exact WX.bk (i+1) Y3 (fun w' hw=>⟨by omega,hw⟩) (by show ts.length - (i+1)<ts.length - i;omega)
 refine Ce (Xe (Xe (Xh (Xn (Csr (Za rfl (Nn (WC.az ?_))))))));exact WX.ret1 rfl rfl rfl (fun w' hw=>⟨rfl,hw.fr⟩)
theorem sol_const {c:Cl}(hv:VC c){FF:Nat→At→Prop}(hf:∀ i x,FF i x→factB x=true){r:List Tm}(h:Sol FF c (nV c) r):∀ t∈r,Jcy t=true:=fun t ht=>by
 obtain ⟨i,hi⟩:=List.mem_iff_getElem?.1 ht;have hil:=(List.getElem?_eq_some_iff.1 hi).1;rw [h.len] at hil;obtain ⟨a,ha,hva⟩:=(hv.cvn.body (i:Int)).2 ⟨by omega,by omega⟩;obtain ⟨j,hj⟩:=List.mem_iff_getElem?.1 ha;obtain ⟨hF,hk⟩:=h.bd j a hj;have hx:=hf _ _ hF;have hgr:=fact_ground hx;unfold factB at hx;simp only [yA,decide_eq_true_eq] at hx;obtain ⟨_,_,h3,h4⟩:=chkA_zero.1 hx.1.1;obtain ⟨u,hu,huv,hun⟩:=mem_varsOf.1 hva
 have hb:becD (bnV r) u=t:=by
  unfold becD;rw [if_pos huv,Jn3,hun,if_pos (by omega),xN,hi];rfl
 rcases List.mem_cons.1 hu with rfl | hu
 ·have hb2:(appD (bnV r) a).b=t:=hb;rw [hb2] at h3;have hk2:=hk huv;rw [hb] at hk2;rcases h3 with h3 | h3 | h3
  ·rw [h3] at hk2;exact absurd rfl hk2
  ·unfold prinB at h3;simp only [yA] at h3;exact h3.1.1
  ·have h5:=hgr t (by rw [← hb2];simp [plc]);rw [h5] at h3;cases h3
 ·have hta:t∈(appD (bnV r) a).args:=by
   show t∈a.args.map _;exact List.mem_map.2 ⟨u,hu,hb⟩
  have h5:=h4 t hta;have h6:=hgr t (yB _ hta);unfold badB at h5;rw [h6] at h5
  simpa using h5
structure FG where
 oa:Option Addr
 oc:Nat
 o:List AG
 na:Option Addr
 nc:Nat
 n:List AG
 xa:Option Addr
 xc:Nat
 x:List AG
def fgC (f:FG):List Value:=[.slice f.oa f.o.length f.oc,.slice f.na f.n.length f.nc,.slice f.xa f.x.length f.xc]
structure RF (w:World) (f:FG):Prop where
 o:RA w f.oa f.o
 n:RA w f.na f.n
 x:RA w f.xa f.x
structure FS (ys:List AG):Prop where
 l:ys.length≤1048576
 y:∀ y∈ys,y.x.args.length≤1048576∧y.x.name.size≤1099511627776
abbrev mfL (ys:List AG)(n:Nat):List At:=(ys.take n).map fun y=>Jce y.x
theorem newer0 {w w':World}{I:Nat→Prop}{ws:World}{B ow:List Hw.Item}(hw:Sat w (fun _=>False) I ws (B++ow) w'):∀ b,DD B b→w.heap.size≤b:=fun b ⟨i,hi,hb⟩=>(hw.lt i (xA _ hi) b hb).2.2.resolve_left (fun f=>f)
theorem filled_calls (f:FG)(n:Nat)(ho:FS f.o)(hn:FS f.n)(hx:FS f.x)(w:World)(hN:Jdb w)(hr:RF w f):Calls Tryz.prog 9 #[.agg (fgC f).toArray,.int .i64 (n:Int)] w fun e w'=>∃ g':BaseG,e=.returned (ptr g'.p)∧BS g' (0+(f.o.take n).length+(f.n.take n).length+(f.x.take n).length) (Jdh (mfL f.o n) (mfL f.n n) (mfL f.x n))∧Turns [] (baseA g') w w':=by
 refine Jbo (args:=[.agg (fgC f).toArray,.int .i64 (n:Int)]) (fun _=>False) Tryz.func9 rfl Tryz.ntmps9 rfl rfl ?_;refine Csr (WL.box rfl rfl rfl ?_);intro b2;refine Za rfl (Nn (Csr (WL.cT (ι:=BaseG) (vs:=[]) (vv:=fun g=>ptr g.p) (pp:=fun g=>BS g 0 []) [] (AA:=fun g=>baseA g) rfl (fun w' hw' _=>(bnew_calls w').mono (fun en w'' ⟨p,rb,h1,h2⟩=>⟨⟨p,none,none,0,[],rb,[]⟩,h1,new_bs p rb,h2⟩)) ?_)));rintro g1 bg1;obtain ⟨p,hpg1⟩:∃ p,g1.p=p:=⟨_,rfl⟩
 rw [hpg1];have hol:=ho.l;have hnl:=hn.l;have hxl:=hx.l;have hol2:(f.o.take n).length≤f.o.length:=by rw [xJ];omega
 have hnl2:(f.n.take n).length≤f.n.length:=by rw [xJ];omega
 have hxl2:(f.x.take n).length≤f.x.length:=by rw [xJ];omega
 refine Za rfl (Nn (Cs (Csr (Zm rfl (Zv (OV.lp T.u35 rfl rfl) (Nn (WC.bu (show _=some (Value.bool false) from by rfl) ?_)))))));refine Ck (Xn (Csr (Zm rfl (Zv (OV.f0 0 rfl T.u24 rfl) (Zv (OV.ah (v:=.slice f.oa f.o.length f.oc) rfl T.u22 rfl (fun _ hw=>Jbh hw (xB _ yH) 0 _ rfl)) (Zm rfl ?_))))))
 refine WL.cT (ι:=BaseG) (vs:=[ptr p,.slice f.oa f.o.length f.oc,.int .i64 (n:Int)]) (vv:=fun _=>.tuple #[]) (pp:=fun g'=>BS g' (0+(f.o.take n).length) (Jeu [] (mfL f.o n))∧g'.p=g1.p) (baseA g1) (AA:=fun g'=>baseA g') rfl (fun w' hw' hH=>by
  have h9:=Jld g1 _ _ bg1 f.o f.oa f.oc n (by omega) ho.y (by have:=ho.l;omega) w w' hw'.keeps (newer0 hw') hN hr.o hH;rw [hpg1] at h9 ⊢;exact h9) ?_
 rintro g2 ⟨bg2,hpg2⟩;rw [hpg1] at hpg2;refine Nn (Csr (Zm rfl ?_))
 refine WL.cT (ι:=BaseG) (vs:=[ptr p]) (vv:=fun _=>.int .i64 ((n4F _:Nat):Int)) (pp:=fun g'=>BS g' _ (turnF _)∧g'.p=p) (baseA g2) (AA:=fun g'=>baseA g') rfl (fun w' hw' hH=>by
  have h9:=Jno g2 _ _ bg2 w' hH;rw [hpg2] at h9;exact h9) ?_
 rintro g3 ⟨bg3,hpg3⟩;refine Nn (Csr (Zm rfl ?_))
 refine WL.cT (ι:=BaseG) (vs:=[ptr p]) (vv:=fun _=>.int .i64 ((n4F _:Nat):Int)) (pp:=fun g'=>BS g' _ (turnF _)∧g'.p=p) (baseA g3) (AA:=fun g'=>baseA g') rfl (fun w' hw' hH=>by
  have h9:=Jno g3 _ _ bg3 w' hH;rw [hpg3] at h9;exact h9) ?_
 rintro g4 ⟨bg4,hpg4⟩;refine Nn (Csr (Zm rfl (Zv (OV.f0 1 rfl T.u24 rfl) (Zv (OV.ah (v:=.slice f.na f.n.length f.nc) rfl T.u22 rfl (fun _ hw=>Jbh hw (xB _ yH) 1 _ rfl)) (Zm rfl ?_)))))
 refine WL.cT (ι:=BaseG) (vs:=[ptr p,.slice f.na f.n.length f.nc,.int .i64 (n:Int)]) (vv:=fun _=>.tuple #[]) (pp:=fun g'=>BS g' (_+(f.n.take n).length) (Jeu _ (mfL f.n n))∧g'.p=g4.p) (baseA g4) (AA:=fun g'=>baseA g') rfl (fun w' hw' hH=>by
  have h9:=Jld g4 _ _ bg4 f.n f.na f.nc n (by omega) hn.y (by have:=hn.l;omega) w w' hw'.keeps (newer0 hw') hN hr.n hH;rw [hpg4] at h9 ⊢;exact h9) ?_
 rintro g5 ⟨bg5,hpg5⟩;rw [hpg4] at hpg5;refine Nn (Csr (Zm rfl ?_))
 refine WL.cT (ι:=BaseG) (vs:=[ptr p]) (vv:=fun _=>.int .i64 ((n4F _:Nat):Int)) (pp:=fun g'=>BS g' _ (turnF _)∧g'.p=p) (baseA g5) (AA:=fun g'=>baseA g') rfl (fun w' hw' hH=>by
  have h9:=Jno g5 _ _ bg5 w' hH;rw [hpg5] at h9;exact h9) ?_
 rintro g6 ⟨bg6,hpg6⟩;refine Nn (Csr (Zm rfl (Zv (OV.f0 2 rfl T.u24 rfl) (Zv (OV.ah (v:=.slice f.xa f.x.length f.xc) rfl T.u22 rfl (fun _ hw=>Jbh hw (xB _ yH) 2 _ rfl)) (Zm rfl ?_)))))
 refine WL.cT (ι:=BaseG) (vs:=[ptr p,.slice f.xa f.x.length f.xc,.int .i64 (n:Int)]) (vv:=fun _=>.tuple #[]) (pp:=fun g'=>BS g' (_+(f.x.take n).length) (Jeu _ (mfL f.x n))∧g'.p=g6.p) (baseA g6) (AA:=fun g'=>baseA g') rfl (fun w' hw' hH=>by
  have h9:=Jld g6 _ _ bg6 f.x f.xa f.xc n (by omega) hx.y (by have:=hx.l;omega) w w' hw'.keeps (newer0 hw') hN hr.x hH;rw [hpg6] at h9 ⊢;exact h9) ?_
 rintro g7 ⟨bg7,hpg7⟩;rw [hpg6] at hpg7;refine Nn (Csr (Zm rfl (Za rfl (Nn (WC.az ?_)))));exact WX.ret1 rfl rfl rfl (fun w' hw=>⟨g7,by rw [hpg7],bg7,(hw.pik [baseA g7,[oQ b2 (fgC f) 24]] [0] 2).turned0⟩)
section
open Go.ChangeShapes Go.WideShapes Go.ChangeAt Go.RowKit
variable {H:Type} {enc:TypeId × Value→H} {w:World} {base:Nat} {spare:Nat→Bool} {held:Bool} {r:Reach} {b0:Nat}
def wtF (f:FG):Nat:=(f.o.map wtA).sum+(f.n.map wtA).sum+(f.x.map wtA).sum+4
set_option maxRecDepth 100000 in
theorem open_facts {v:Value}{d:DataW H}{p:List MemPlace}(hv:Value.okWide Tryz.prog w r b0 24 v)(h:DataW.Trod enc Tryz.prog w base spare held 24 v d p):
  ∃ f:FG,v=.agg (fgC f).toArray∧RF w f∧wtF f≤Rows.uptoBulk d:=by
 obtain ⟨fuel,hf0⟩:=h
 have ha:∃ cs,v=.agg cs:=by
  unfold Value.okWide at hv;rw [T.u24] at hv;cases v <;> simp_all
 obtain ⟨cs,rfl⟩:=ha;obtain ⟨cs⟩:=cs;have hf1:DataW.trod enc Tryz.prog w base spare held fuel 24 cs=some (d,p):=hf0;obtain ⟨xs,n,rfl,hx,hl,hxs,hf⟩:=DataW.trod_struct T.u24 hf1;have hl3:cs.length=3:=by rw [hl];kernel_rfl
 have cL:Program.cellsOf Tryz.prog 22=1:=by kernel_rfl
 match cs,hl3 with
 | [v0,v1,v2],_=>
  match xs,hxs with
  | [x0,x1,x2],_=>
   have k0:DataW.trod enc Tryz.prog w base spare held n 22 [v0]=some x0:=by
    have k:DataW.trod enc Tryz.prog w base spare held n 22 (List.take (Program.cellsOf Tryz.prog 22) (List.drop 0 [v0,v1,v2]))=some x0:=hf 0 _ rfl;rw [cL] at k;exact k
   have k1:DataW.trod enc Tryz.prog w base spare held n 22 [v1]=some x1:=by
    have k:DataW.trod enc Tryz.prog w base spare held n 22 (List.take (Program.cellsOf Tryz.prog 22) (List.drop 1 [v0,v1,v2]))=some x1:=hf 1 _ rfl;rw [cL] at k;exact k
   have k2:DataW.trod enc Tryz.prog w base spare held n 22 [v2]=some x2:=by
    have k:DataW.trod enc Tryz.prog w base spare held n 22 (List.take (Program.cellsOf Tryz.prog 22) (List.drop 2 [v0,v1,v2]))=some x2:=hf 2 _ rfl;rw [cL] at k;exact k
   obtain ⟨oa,oc,o,e0,r0,b0⟩:=Jjc k0;obtain ⟨na,nc,nn,e1,r1,b1⟩:=Jjc k1;obtain ⟨xa,xc,xx,e2,r2,b2⟩:=Jjc k2;simp only [List.cons.injEq,and_true] at e0 e1 e2;subst e0;subst e1;subst e2;simp only [yC,yD,Prod.mk.injEq] at hx;refine ⟨⟨oa,oc,o,na,nc,nn,xa,xc,xx⟩,rfl,⟨r0,r1,r2⟩,?_⟩;rw [hx.1];simp only [Rows.uptoBulk,Rows.uptoBulkAll,wtF];omega
theorem fs_ok {ys:List AG}(h:(ys.map wtA).sum≤1048576):FS ys:=by
 have h1:=Jon wtA (k:=1) (fun y=>by unfold wtA;omega) ys;refine ⟨by omega,fun y hy=>?_⟩;have h2:=le_sum wtA hy;have h3:wtA y=y.x.name.size+y.x.args.length+7:=rfl;omega
theorem facts_ok {f:FG}(h:wtF f≤1048576):FS f.o∧FS f.n∧FS f.x:=by
 unfold wtF at h;exact ⟨fs_ok (by omega),fs_ok (by omega),fs_ok (by omega)⟩
set_option maxRecDepth 100000 in
theorem open_ints {v:Value}{d:DataW H}{p:List MemPlace}(hv:Value.okWide Tryz.prog w r b0 51 v)(h:DataW.Trod enc Tryz.prog w base spare held 51 v d p):∃ a c l,v=.slice a l.length c∧RI w a l.length l∧i64s l∧l.length+1≤Rows.uptoBulk d:=by
 obtain ⟨fuel,hf⟩:=h;obtain ⟨a,c,l,hcs,h1,h2,h3⟩:=trod_ints hf;exact ⟨a,c,l,slice_of_ok (P:=Tryz.prog) T.u51 hv hcs,h1,h2,h3⟩
end
theorem snapK {w w1 w2:World}{ow:List Hw.Item}(hw:Sat w (fun _=>False) (fun b=>b<w1.heap.size∧∀ i∈([]:List Hw.Item),¬ i.D b) w1 ow w2):Keeps w1 w2:=fun a v h=>by
 have h1:=World.block_lt_of_cell? w1 _ h;have h2:=(hw.snap a.block ⟨h1,fun i hi=>by cases hi⟩).2;unfold World.cell? at h ⊢;rw [h2];exact h
theorem snapB {w w1 w2:World}{A ow:List Hw.Item}(hw:Sat w (fun _=>False) (fun b=>b<w1.heap.size∧∀ i∈([]:List Hw.Item),¬ i.D b) w1 (A++ow) w2):∀ b,DD A b→w1.heap.size≤b:=fun b ⟨i,hi,hb⟩=>by
 have h:=(hw.lt i (xA _ hi) b hb).2.1;rcases Nat.lt_or_ge b w1.heap.size with h1 | h1
 ·exact absurd ⟨h1,fun i hi=>by cases hi⟩ h
 ·exact h1
theorem facts_filled {O N X:List At}:∀ q∈Jdh O N X,factB q.1=true:=fun q hq=>(mem_filled.1 hq).1
theorem most_le {n:Nat}(h:n≤8):mostN n≤60:=by
 have h2:∀ m:Fin 9,mostN m.1≤60:=by decide
 exact h2 ⟨n,by omega⟩
theorem Jm6 {α:Type}(l:List α)(n:Nat):(l.take n).length≤n:=by rw [xJ];omega
def LdOK (F:List (At × Nat))(c:Cl)(n l:Nat)(L:List (List Tm)):Prop:=Str cmpR L∧∀ r,r∈L↔Sol (FFs F (some l)) c n r
def CntOK (F:List (At × Nat))(c:Cl)(n:Nat)(lo:List (List Tm))(lead cnt:Nat):Prop:=∃ Ls:Nat→List (List Tm),(∀ l,l<lead→LdOK F c n l (Ls l))∧cnt=lo.length+((List.range lead).map fun l=>(Ls l).length).sum
theorem CntOK.zero {F:List (At × Nat)}{c:Cl}{n:Nat}{lo:List (List Tm)}:CntOK F c n lo 0 lo.length:=⟨fun _=>[],fun l h=>absurd h (by omega),by simp⟩
theorem old_sols {O N X:List At}{c:Cl}{n:Nat}(r:List Tm):Sol (FFs (Jdh O [] []) none) c n r↔Sol (fun _ x=>x∈selF (Jdh O N X) 1) c n r:=Sol.congr fun i x=>by
 show x∈selF (Jdh O [] []) 3↔_;rw [sel_filled,sel_old];simp
theorem CntOK.done {O N X:List At}{c:Cl}{n cnt:Nat}{la lo:List (List Tm)}(sa:Str cmpR la)(so:Str cmpR lo)(ma:∀ r,r∈la↔Sol (FFs (Jdh O N X) none) c n r)(mo:∀ r,r∈lo↔Sol (FFs (Jdh O [] []) none) c n r)(h:CntOK (Jdh O N X) c n lo c.bd.length cnt):cnt=la.length:=by
 obtain ⟨Ls,h1,h2⟩:=h;rw [h2];exact parts_count (filled_parts O N X) (Str.nodup Jn2 sa) (Str.nodup Jn2 so) (fun l hl=>Str.nodup Jn2 (h1 l hl).1) ma (fun r=>(mo r).trans (old_sols r)) (fun l hl r=>by rw [leadF_eq];exact (h1 l hl).2 r)
theorem most_smallF {n:Nat}(h:n≤8):(3*mostN n) ^ n≤1048576:=by
 have h2:∀ m:Fin 9,(3*mostN m.1) ^ m.1≤1048576:=by decide +kernel
 exact h2 ⟨n,by omega⟩
theorem pow_smallF {a n m:Nat}(h:a≤3*m)(h2:(3*m) ^ n≤1048576):a ^ n≤1048576:=Nat.le_trans (Nat.pow_le_pow_left h n) h2
theorem FS.nil:FS [] where
 l:=by simp
 y:=fun y hy=>by cases hy
theorem RA.nil0 (w:World):RA w none []:=⟨fun _=>rfl,fun q h=>(by cases h),fun y hy=>(by cases hy)⟩
def pickV (l:List Int)(k:Nat):Int:=if l.length=0 then (k:Int) else if l.getD (k % l.length) 0<0 then -(l.getD (k % l.length) 0+1) else l.getD (k % l.length) 0
theorem getD_i64 {l:List Int}(h:i64s l)(k:Nat):-9223372036854775808≤l.getD k 0∧l.getD k 0≤9223372036854775807:=by
 rw [yF];cases e:l[k]? with
 | none=>simp
 | some v=>exact h v (xC e)
theorem pickV_nat {l:List Int}(h:i64s l){k:Nat}(hk:k≤1099511627776):∃ m:Nat,pickV l k=(m:Int)∧m≤9223372036854775807:=by
 have h1:=getD_i64 h (k % l.length);unfold pickV
 split
 ·exact ⟨k,rfl,by omega⟩
 ·split
  ·exact ⟨(-(l.getD (k % l.length) 0+1)).toNat,by omega,by omega⟩
  ·exact ⟨(l.getD (k % l.length) 0).toNat,by omega,by omega⟩
theorem Jkr (l:List Int)(hl:i64s l)(hll:l.length≤1099511627776)(a:Option Addr)(c k:Nat)(hk:k≤1099511627776)(w:World)(hr:RI w a l.length l):Calls Tryz.prog 21 #[.slice a l.length c,.int .i64 (k:Int)] w fun e w'=>e=.returned (.int .i64 (pickV l k))∧Fr0 w w':=by
 refine Jbo (args:=[.slice a l.length c,.int .i64 (k:Int)]) (fun _=>False) Tryz.func21 rfl Tryz.ntmps21 rfl rfl ?_;refine Csr (Za rfl (Nn (Cs (Csr (Zm rfl ?_)))))
 first
 | (refine WL.val (OV.ae rfl T.u51) rfl ?_;trace "ALT Jkr#0 c04edde8 0")
 | (refine WL.val (OV.da rfl T.u51) rfl ?_;trace "ALT Jkr#0 c04edde8 1")
 refine Zv (OV.eb rfl rfl) (Nn ?_);refine Cc rfl (fun c8=>?_) (fun c8=>?_)
 ·refine Csr (Zm rfl (Za rfl (Nn (WC.az ?_))));refine Xr ?_;exact WX.ret1 rfl rfl rfl (fun w' hw=>⟨by unfold pickV;rw [if_pos (by omega)],hw.fr⟩)
 refine Ck (Xn (Cs ?_));have hp:0<l.length:=by omega
 have hm:k % l.length<l.length:=Nat.mod_lt _ hp;obtain ⟨q,hq⟩:=hr.some hp;subst hq;obtain ⟨v,hv⟩:∃ v,v=l.getD (k % l.length) 0:=⟨_,rfl⟩
 have hv2:=getD_i64 hl (k % l.length);rw [← hv] at hv2;refine Cr (Zm rfl (Zm rfl (Zm rfl ?_)))
 first
 | (refine WL.val (OV.ae rfl T.u51) rfl ?_;trace "ALT Jkr#1 c04edde8 0")
 | (refine WL.val (OV.da rfl T.u51) rfl ?_;trace "ALT Jkr#1 c04edde8 1")
 refine Zv (OV.nu rfl rfl (by omega)) (Zv ((OV.ad rfl rfl T.u51 T.z3 (by omega)).cast (u:=.pointer (some (q.add (k % l.length)))) (by rw [xN,Nat.mul_one])) (Zv (OV.ah (v:=.int .i64 v) rfl T.u3 rfl (fun _ hw=>hw.keeps _ _ (by rw [hv];exact hr.cell hm))) (Za rfl (Nn (Cs (Csr (Zm rfl (Zv (OV.cq rfl rfl) (Nn ?_)))))))));refine Cc rfl (fun c18=>?_) (fun c18=>?_)
 ·refine Cr (Zm rfl (Zv (OV.fp rfl rfl (by omega)) (Zv ((OV.neg rfl).cast (u:=.int .i64 (-(v+1))) (by rw [Jf4 (by omega)])) (Za rfl (Nn (Csr (Zm rfl (Za rfl (Nn (WC.az ?_))))))))));exact WX.ret1 rfl rfl rfl (fun w' hw=>⟨by unfold pickV;rw [if_neg (by omega),← hv,if_pos (by omega)],hw.fr⟩)
 refine Ck (Xn (Csr (Zm rfl (Za rfl (Nn (WC.az ?_))))));exact WX.ret1 rfl rfl rfl (fun w' hw=>⟨by unfold pickV;rw [if_neg (by omega),← hv,if_neg (by omega)],hw.fr⟩)
structure NxG where
 a:Option Addr
 c:Nat
 ys:List Bd
 ok:Bool
def NxOK (p:At)(fs:List AG)(s:Bn)(z:NxG):Prop:=(z.ok=true→∃ y∈fs,Jct p y.x s=some (sb z.ys))∧(z.ok=false→z.ys=[])
theorem Jiw (p:At)(a1:Option Addr)(c1:Nat)(hp8:p.args.length≤8)(fs:List AG)(fa:Option Addr)(fc:Nat)(hf8:∀ y∈fs,y.x.args.length≤8)(hf0:0<fs.length)(hfl:fs.length≤1099511627776)(ys:List Bd)(sa:Option Addr)(sc:Nat)(hS:SB (sb ys))(hyl:ys.length≤72)(n:Nat)(hn:n≤9223372036854775807)(w:World)(hr1:RT w a1 p.args)(hr2:RA w fa fs)(hr3:RBd w sa ys):Calls Tryz.prog 20 #[atV p a1 c1,.slice fa fs.length fc,.slice sa ys.length sc,.int .i64 (n:Int)] w fun e w'=>∃ z:NxG,e=.returned (.tuple #[.slice z.a z.ys.length z.c,.bool z.ok])∧NxOK p fs (sb ys) z∧Turns [] [rowB z.a z.c z.ys] w w':=by
 refine Jbo (args:=[atV p a1 c1,.slice fa fs.length fc,.slice sa ys.length sc,.int .i64 (n:Int)]) (fun _=>False) Tryz.func20 rfl Tryz.ntmps20 rfl rfl ?_;refine Csr (WL.box rfl rfl rfl ?_);intro b4;refine Za rfl (Za rfl (Nn (Cs (Csr (Za rfl (Nn (Cb ?_)))))))
 refine WC.cm (fun (i:Nat)=>[(1,.slice fa fs.length fc),(2,.slice sa ys.length sc),(3,.int .i64 (n:Int)),(4,yZ b4),(10,.int .i64 (i:Int))])
   (fun i w'=>i≤fs.length∧Sat0 w (oQ b4 (atC p a1 c1) 29::[]) w')
   (fun i=>fs.length - i) 0 Y5 (fun w' hw=>⟨by omega,hw⟩) ?_
 intro i;refine WC.pure (fun hi=>?_);refine Cs (Csr (Zm rfl (Zm rfl ?_)))
 first
 | (refine WL.val (OV.ae rfl T.u22) rfl ?_;trace "ALT Jiw#0 c04edde8 0")
 | (refine WL.val (OV.da rfl T.u22) rfl ?_;trace "ALT Jiw#0 c04edde8 1")
 refine Zv (OV.cq rfl rfl) (Nn ?_);refine Cc rfl (fun c16=>?_) (fun c16=>?_)
 ·refine Ck (Xn (Cs (Cb (Cs ?_))));have hm1:=Nat.mod_lt n hf0;have hm:(n % fs.length+i) % fs.length<fs.length:=Nat.mod_lt _ hf0;obtain ⟨q,y,hq,hy,hym,hry,hcy⟩:=hr2.get hm;obtain ⟨k,hk⟩:∃ k,(n % fs.length+i) % fs.length=k:=⟨_,rfl⟩
  rw [hk] at hy hcy hm;have hy8:=hf8 y hym;refine Hq [14] (m:=20) rfl ?_;refine Ht 0 rfl (OV.lN (cs:=atC p a1 c1) rfl T.u29 rfl T.z29 yH) (Hf 1 rfl (OV.aw rfl) (Hf 2 rfl (OV.aw rfl) (Hf 3 rfl (OV.aw rfl) ?_)))
  first
  | (refine Hf 4 rfl (OV.ae rfl T.u22) ?_;trace "ALT Jiw#1 c04edde8 0")
  | (refine Hf 4 rfl (OV.da rfl T.u22) ?_;trace "ALT Jiw#1 c04edde8 1")
  refine Hf 5 rfl (OV.nu rfl rfl (by omega)) (Hf 6 rfl (OV.aw rfl) (Hf 7 rfl (OV.bm rfl rfl (by omega)) (Hf 8 rfl (OV.aw rfl) ?_)))
  first
  | (refine Hf 9 rfl (OV.ae rfl T.u22) ?_;trace "ALT Jiw#2 c04edde8 0")
  | (refine Hf 9 rfl (OV.da rfl T.u22) ?_;trace "ALT Jiw#2 c04edde8 1")
  refine Hf 10 rfl (OV.nu rfl rfl (by omega)) (Hf 11 rfl ((OV.ad (show _=some (Value.slice (some q) fs.length fc) by rw [← hq];rfl) rfl T.u22 T.z29 (by omega)).cast (u:=.pointer (some (q.add (k*5)))) (by rw [hk,xN])) (Ht 12 rfl (OV.ai (cs:=agC y) rfl T.u29 rfl T.z29 (fun _ hw j v hj=>hw.keeps _ _ (hcy j v hj))) (Hf 13 rfl (OV.aw rfl) (Ho 14 rfl (fl':=true) rfl ?_))));refine WL.cT (ι:=Option Addr × Nat × List Bd) (vs:=[atV p a1 c1,atV y.x y.a y.c,.slice sa ys.length sc]) (vv:=fun m=>.tuple #[.slice m.1 m.2.2.length m.2.1,.bool (Jct p y.x (sb ys)).isSome]) (pp:=fun m=>∀ s',Jct p y.x (sb ys)=some s'→sb m.2.2=s') [] (AA:=fun m=>[rowB m.1 m.2.1 m.2.2]) rfl (fun w' hw' _=>(Jix p y.x ys a1 y.a sa c1 y.c sc (by omega) (by omega) hS w' (hr1.keeps hw'.keeps) (hry.keeps hw'.keeps) (hr3.keeps hw'.keeps)).mono (fun en w'' ⟨ma,mc,zs,h1,h2,h3⟩=>⟨(ma,mc,zs),h1,h2,h3⟩)) ?_;rintro ⟨ma,mc,zs⟩ hms;refine Hc (fun h=>by cases h) ?_;refine Hf 15 rfl (OV.aw rfl) (Hf 16 rfl (OV.extract rfl rfl) (Hf 17 rfl (OV.extract rfl rfl) (Hf 18 rfl (OV.assign rfl) (Hf 19 rfl (OV.assign rfl) (He (Xn (Csr (Zm rfl (Nn ?_)))))))));refine Cc rfl (fun c37=>?_) (fun c37=>?_)
  ·refine Csr (Zm rfl (Za rfl (Za rfl (Nn (WC.az ?_)))));refine Xq (Xr (Xr (Xq (Xr ?_))))
   exact WX.ret2 rfl rfl rfl rfl (fun w' hw=>⟨⟨ma,mc,zs,true⟩,rfl,⟨fun _=>(by
    obtain ⟨s',hs'⟩:=Option.isSome_iff_exists.1 (show (Jct p y.x (sb ys)).isSome=true by simpa using c37);exact ⟨y,hym,by rw [hs',hms s' hs']⟩),fun h=>by cases h⟩,(hw.pik [[rowB ma mc zs],[oQ b4 (atC p a1 c1) 29]] [0] 2).turned0⟩)
  refine Ck (Xb (Xn (Cr (Zm rfl (Zv (OV.bm (j:=1) rfl rfl (by omega)) (Za rfl (Nl ?_)))))));exact WX.bk (i+1) Y5 (fun w' hw=>⟨by omega,hw.pik [[rowB ma mc zs],[oQ b4 (atC p a1 c1) 29]] [1] 2⟩) (by show fs.length - (i+1)<fs.length - i;omega)
 refine Ce (Xe (Xe (Xh (Xn (Csr (Za rfl (Za rfl (Nn (WC.az ?_)))))))));exact WX.ret2 rfl rfl rfl rfl (fun w' hw=>⟨⟨none,0,[],false⟩,rfl,⟨fun h=>(by cases h),fun _=>rfl⟩,((Sat.part (List.nil_sublist _) hw).rowNil 64 4).turned0⟩)
def BndOK (U:At→Prop)(c:Cl)(i:Nat)(z:NxG):Prop:=(SB (sb z.ys)∧∀ v,Dm (sb z.ys) v→0≤v∧v<72)∧(z.ok=true→∃ xs:List At,xs.length=i∧(∀ x∈xs,U x)∧Jk9 ((c.bd.take i).zip xs) []=some (sb z.ys))
theorem dm_nil {v:Int}(h:Dm ([]:Bn) v):False:=by
 have h2:(none:Option Tm).isSome=true:=h;cases h2
theorem BndOK.zero {U:At→Prop}{c:Cl}:BndOK U c 0 ⟨none,0,[],true⟩:=⟨⟨List.Pairwise.nil,fun v hv=>(dm_nil hv).elim⟩,fun _=>⟨[],rfl,fun x hx=>(by cases hx),rfl⟩⟩
theorem BndOK.next {U:At→Prop}{c:Cl}{i:Nat}{z z2:NxG}{a:At}{fs:List AG}(h:BndOK U c i z)(hok:z.ok=true)(ha:c.bd[i]?=some a)(hv:∀ v∈Jaq a,0≤v∧v<(72:Int))(hf:∀ y∈fs,U y.x)(h2:NxOK a fs (sb z.ys) z2):BndOK U c (i+1) z2:=by
 obtain ⟨⟨h3,h4⟩,h5⟩:=h;cases hz:z2.ok with
 | false=>
  have e:=h2.2 hz;refine ⟨?_,fun h=>?_⟩
  ·rw [e];exact ⟨List.Pairwise.nil,fun v hv=>(dm_nil hv).elim⟩
  ·rw [hz] at h;cases h
 | true=>
  obtain ⟨y,hy,hm⟩:=h2.1 hz;refine ⟨match_next h3 h4 hv hm,fun _=>?_⟩;obtain ⟨xs,e1,e2,e3⟩:=h5 hok;have hi:=(List.getElem?_eq_some_iff.1 ha).1;refine ⟨xs++[y.x],by simp [e1],fun x hx=>?_,?_⟩
  ·rcases List.mem_append.1 hx with h | h
   ·exact e2 x h
   ·simp only [xI] at h;rw [h];exact hf y hy
  ·rw [Jb3 ha,List.zip_append (by rw [xJ];omega)];show Jk9 (_++[(a,y.x)]) []=_;rw [chainM_snoc,e3];exact hm
theorem BndOK.s72 {U:At→Prop}{c:Cl}{i:Nat}{z:NxG}(h:BndOK U c i z):z.ys.length≤72:=Jlx h.1.1 h.1.2
def FinOK (U:At→Prop)(c:Cl)(z:NxG):Prop:=(SB (sb z.ys)∧∀ v,Dm (sb z.ys) v→0≤v∧v<72)∧(z.ok=true→∃ xs:List At,xs.length=c.bd.length∧(∀ x∈xs,U x)∧Jk9 (c.bd.zip xs) []=some (sb z.ys))
theorem FinOK.not {U:At→Prop}{c:Cl}{i:Nat}{z:NxG}(h:BndOK U c i z)(hn:¬ z.ok=true):FinOK U c z:=⟨h.1,fun h=>absurd h hn⟩
theorem FinOK.all {U:At→Prop}{c:Cl}{i:Nat}{z:NxG}(h:BndOK U c i z)(hi:i=c.bd.length):FinOK U c z:=by
 subst hi;refine ⟨h.1,fun hz=>?_⟩;have h2:=h.2 hz;rwa [List.take_length] at h2
theorem FinOK.sol {U:At→Prop}{c:Cl}{z:NxG}{n:Nat}(hc:CVn c n)(h:FinOK U c z)(hz:z.ok=true)(ht:∀ t∈c.ts,okT (sb z.ys) t=true):Sol (fun _=>U) c n (z.ys.map Bd.t):=by
 obtain ⟨xs,h1,h2,h3⟩:=h.2 hz;have h4:=finds_sol hc h1 h2 h3 ht;have e:(sb z.ys).map (·.2)=z.ys.map Bd.t:=by unfold sb;rw [List.map_map];rfl
 rwa [e] at h4
set_option maxHeartbeats 4000000 in
theorem Ja0 (f:FG)(ho:FS f.o)(hnn:FS f.n)(hx:FS f.x)(g:CG)(hs:∀ y,y=g.hd∨y∈g.bd→y.x.args.length≤1048576∧y.x.name.size≤1099511627776)(hbl:g.bd.length≤1048576)(htl:g.ts.length≤1048576)(pl:List Int)(pa:Option Addr)(pc:Nat)(hpl:i64s pl)(hpl2:pl.length≤1099511627776)(w:World)(hN:Jdb w)(hC:Jjz w)(hr:RF w f)(hrg:RC w g)(hrp:RI w pa pl.length pl):Calls Tryz.prog 5 #[.agg (fgC f).toArray,cgV g,.slice pa pl.length pc] w fun e w'=>e=.returned (.bool true)∧Fr0 w w':=by
 refine Jbo (args:=[.agg (fgC f).toArray,cgV g,.slice pa pl.length pc]) (fun _=>False) Tryz.func5 rfl Tryz.ntmps5 rfl rfl ?_;refine Csr (WL.box rfl rfl rfl ?_);intro b3;refine WL.box rfl rfl rfl ?_;intro b4;refine Za rfl (Nn (Csr (Zv (OV.lN (cs:=cgC g) rfl T.u32 rfl T.z32 yH) (WL.cT (ι:=CG) (vs:=[cgV g]) (vv:=fun q=>cgV q) (pp:=fun q=>q.cl=madeC g.cl) [] (AA:=fun q=>cgA q) rfl (fun w' hw' _=>made_calls g hs hbl htl w' (hrg.keeps hw'.keeps)) ?_))));rintro q hq;have hv:VC q.cl:=by rw [hq];exact madeC_ok _
 have hqb:q.cl.bd.length=q.bd.length:=xE _;refine WL.alloc T.zr32 rfl ?_;intro b7;refine WL.ag (vs:=cgC q) rfl rfl rfl T.z32 rfl ?_;refine Nn (Cs (WC.weak (S':=Sat w (fun _=>False) (fun b=>b<w.heap.size) w ((oQ b7 (cgC q) 32::(cgA q++[oQ b4 (cgC g) 32,oQ b3 (fgC f) 24]))++[])) (fun w' hw=>by rw [xZ];exact hw) ?_));refine WC.snap (fun w1 hw1=>?_);rw [xZ] at hw1;have hrq:RC w1 q:=RC.of_items hw1 (fun i hi=>show i∈oQ b7 (cgC q) 32::(cgA q++[oQ b4 (cgC g) 32,oQ b3 (fgC f) 24]) from .tail _ (xA _ hi));have hbq:∀ j v,(cgC q)[j]?=some v→w1.cell? ⟨b7,j,none⟩=some v:=Jbh hw1 yH;have hbf:∀ j v,(fgC f)[j]?=some v→w1.cell? ⟨b3,j,none⟩=some v:=Jbh hw1 (show oQ b3 (fgC f) 24∈_ by simp);have hk1:=hw1.keeps;replace hN:=hN.keeps hk1;replace hC:=hC.keeps hk1;replace hr:RF w1 f:=⟨hr.o.keeps hk1,hr.n.keeps hk1,hr.x.keeps hk1⟩
 have hb8:q.bd.length≤8:=by rw [← hqb];exact hv.bl
 have hm60:=most_le hb8;have hmsm:=most_smallF hb8;replace hrp:=hrp.keeps hk1;obtain ⟨n,hn⟩:∃ n,n=mostN q.bd.length:=⟨_,rfl⟩
 rw [← hn] at hmsm;have hn30:n≤60:=by omega
 have t1:=Jm6 f.o n;have t2:=Jm6 f.n n;have t3:=Jm6 f.x n;have hn72:=hv.nV72;have hq8:q.ts.length≤8:=hv.tl;refine Hd (fun w'=>Keeps w1 w') [] (fun _ hw=>snapK hw) (m:=7) rfl ?_;refine Ht 0 rfl (OV.ai (cs:=fgC f) rfl T.u24 rfl T.z24 (fun _ hw j v hj=>by rw [Jap,xM];exact hw _ _ (hbf j v hj))) ?_
 first
 | (refine Hf 1 rfl (OV.f0 5 rfl T.u32 rfl) ?_;trace "ALT Ja0#0 75ec517c 0")
 | (refine Hf 1 rfl (OV.cz (off:=5) rfl T.u32 rfl) ?_;trace "ALT Ja0#0 75ec517c 1")
 refine Ht 2 rfl (OV.ah (v:=.slice q.ba q.bd.length q.bc) rfl T.u22 rfl (fun _ hw=>hw _ _ (hbq 5 _ rfl))) ?_
 first
 | (refine Hf 3 rfl (OV.ae rfl T.u22) ?_;trace "ALT Ja0#1 c04edde8 0")
 | (refine Hf 3 rfl (OV.da rfl T.u22) ?_;trace "ALT Ja0#1 c04edde8 1")
 refine Ho 4 rfl (fl':=false) rfl ?_;refine WL.au (v:=.int .i64 (n:Int)) (by kernel_rfl) rfl rfl (fun w' hw'=>by rw [hn];exact most_law q.bd.length hb8 w') ?_;refine Hc (fun _=>(fun _ hw=>snapK hw)) ?_;refine Ho 5 rfl (fl':=false) rfl ?_;refine WL.cT (ι:=BaseG) (vs:=[.agg (fgC f).toArray,.int .i64 (n:Int)]) (vv:=fun g'=>ptr g'.p) (pp:=fun g'=>BS g' (0+(f.o.take n).length+(f.n.take n).length+(f.x.take n).length) (Jdh (mfL f.o n) (mfL f.n n) (mfL f.x n))) [] (AA:=fun g'=>baseA g') rfl (fun w' hw' _=>filled_calls f n ho hnn hx w' (hN.keeps (snapK hw')) ⟨hr.o.keeps (snapK hw'),hr.n.keeps (snapK hw'),hr.x.keeps (snapK hw')⟩) ?_;rintro h1 bh1;obtain ⟨ph1,hph1⟩:∃ p,h1.p=p:=⟨_,rfl⟩
 rw [hph1];refine Hc (fun _=>(fun _ hw=>snapK hw)) ?_;refine Hf 6 rfl (OV.assign rfl) (He (Xn (Cs (Csr (Zm rfl (Zv ((OV.lp T.u35 rfl rfl).cast (u:=.bool false) rfl) (Zm rfl (WL.known (t:=31) (b:=false) rfl (by rfl) ?_))))))));refine yY (WL.c0 (v:=.bool true) (vs:=[]) (fun w' hw'=>first_calls w' (hN.keeps (snapK hw')) (hC.keeps (snapK hw'))) ?_);refine yY (Zv (OV.not rfl) (Zv (OV.aj rfl rfl) (Nn (WC.bu (show _=some (Value.bool false) from by rfl) ?_))));refine Ck (Xn (Csr (Zm rfl (Zv (OV.ai (cs:=cgC q) rfl T.u32 rfl T.z32 (fun _ hw j v hj=>by rw [Jap,xM];exact snapK hw _ _ (hbq j v hj))) ?_))))
 refine WL.cT (ι:=BaseG × Option Addr × Nat × List TG) (vs:=[ptr ph1,cgV q,.int .i64 (-1)]) (vv:=fun z=>.tuple #[.slice z.2.1 z.2.2.2.length z.2.2.1,.int .i64 0]) (pp:=fun z=>(BS z.1 _ (Jdh (mfL f.o n) (mfL f.n n) (mfL f.x n))∧z.1.p=ph1)∧Str cmpR (z.2.2.2.map TG.l)∧(∀ r,r∈z.2.2.2.map TG.l↔Sol (FFs (Jdh (mfL f.o n) (mfL f.n n) (mfL f.x n)) none) q.cl (nV q.cl) r)∧z.2.2.2.length≤1048576) (baseA h1) (AA:=fun z=>baseA z.1++(rowR z.2.1 z.2.2.1 z.2.2.2::z.2.2.2.map tgA)) rfl (fun w' hw' hH=>by
  have h9:=solve_calls h1 _ _ bh1 (by omega) facts_filled q hv.cs hv none (fun l hl=>by cases hl) (pow_smallF (Nat.le_trans bh1.fk (by omega)) hmsm) w1 w' (snapK hw') (snapB hw') hN hC hrq hH;rw [hph1] at h9;exact h9) ?_
 rintro ⟨k1,laa,lac,la⟩ ⟨⟨bk1,pk1⟩,sla,ela,zla⟩;dsimp only at bk1 pk1 sla ela zla;refine Zm rfl (Zv (OV.extract rfl rfl) (Zv (OV.extract rfl rfl) (Za rfl (Za rfl (Nn (Cs (Cs ?_)))))));have hlal:∀ y∈la,y.l.length=nV q.cl:=fun y hy=>((ela _).1 (List.mem_map.2 ⟨y,hy,rfl⟩)).len
 have hlak:∀ y∈la,∀ t∈y.l,Jcy t=true:=fun y hy=>sol_const hv (fun i x hx=>by
  obtain ⟨m,hm,_⟩:=Jom.1 hx;exact facts_filled _ hm) ((ela _).1 (List.mem_map.2 ⟨y,hy,rfl⟩))
 have hlas:la.length≤1099511627776:=by omega
 refine Cr (Zm rfl (Zv ((OV.iu rfl rfl).cast (u:=.bool false) rfl) (Zm rfl (WL.known (t:=43) (b:=false) rfl (by rfl) ?_))));refine yY (Zm rfl (yY (Zv (OV.ai (cs:=cgC q) rfl T.u32 rfl T.z32 (fun _ hw j v hj=>by rw [Jap,xM];exact snapK hw _ _ (hbq j v hj))) (yY (WL.c0 (v:=.int .i64 (nV q.cl:Nat)) (vs:=[cgV q]) (fun w' hw'=>cvars_calls q hv.cs w' (hrq.keeps (snapK hw'))) ?_)))));refine yY (WL.c0 (v:=.bool true) (vs:=[.slice laa la.length lac,.int .i64 (nV q.cl:Nat)]) (fun w' hw'=>rises_law la laa lac sla hlas (nV q.cl) (by omega) hlal hlak w' (RTG.of_items (c:=lac) (show Sat w (fun _=>False) (fun b=>b<w1.heap.size∧∀ i∈([]:List Hw.Item),¬ i.D b) w1 ((baseA k1++(rowR laa lac la::la.map tgA))++[]) w' from hw') (xA _ (xB _ yH)) (fun y hy=>xA _ (xB _ (yV (List.mem_map.2 ⟨y,hy,rfl⟩)))))) ?_);refine yY (Zv (OV.not rfl) (Zv (OV.aj rfl rfl) (Nn (WC.bu (show _=some (Value.bool false) from by rfl) ?_))));refine Ck (Xn (Csr (Zm rfl (WL.focus (ow':=baseA k1++((rowR laa lac la::la.map tgA)++[])) (List.Perm.of_eq (by rw [xF])) ?_))))
 refine WL.cT (ι:=AnsA) (vs:=[ptr ph1,.int .i64 3]) (vv:=fun z=>.slice z.a z.ys.length z.c) (pp:=fun z=>z.ys.map AG.x=sortA (selF (Jdh (mfL f.o n) (mfL f.n n) (mfL f.x n)) 3)∧BS z.g _ (Jdh (mfL f.o n) (mfL f.n n) (mfL f.x n))∧z.g.p=ph1∧(∀ y∈z.ys,y.x.args.length≤8)∧z.ys.length≤_) (baseA k1) (AA:=fun z=>baseA z.g++atsA z.a z.c z.ys) rfl (fun w' hw' hH=>by
  have h9:=bfacts_bs k1 _ _ bk1 3 w' hH;rw [pk1] at h9;exact h9) ?_
 rintro ⟨gz,fa,fc,fs⟩ ⟨hfx,bz,hzp,hf8,hfk⟩;dsimp only at hfx bz hzp hf8 hfk;refine Za rfl (Nn (Cs (Cs ?_)));have hfU:∀ y∈fs,y.x∈selF (Jdh (mfL f.o n) (mfL f.n n) (mfL f.x n)) 3:=fun y hy=>(Jec _).mem_iff.1 (by rw [← hfx];exact List.mem_map.2 ⟨y,hy,rfl⟩)
 refine WC.weak (S':=Sat w (fun _=>False) (fun b=>b<w1.heap.size∧∀ i∈([]:List Hw.Item),¬ i.D b) w1 (atsA fa fc fs++(rowR laa lac la::la.map tgA))) (fun w' hw=>by
  rw [xZ] at hw;rw [xF] at hw;exact hw.pik [baseA gz,atsA fa fc fs,(rowR laa lac la::la.map tgA)] [1,2] 3) ?_
 refine Cr (Za rfl (Nn (Cb ?_)))
 refine WC.cm (fun (t:Nat)=>[(2,.slice pa pl.length pc),(7,yZ b7),(9,.slice laa la.length lac),(11,.slice fa fs.length fc),(12,.int .i64 (t:Int))])
   (fun t w'=>t≤12∧Sat w (fun _=>False) (fun b=>b<w1.heap.size∧∀ i∈([]:List Hw.Item),¬ i.D b) w1 (atsA fa fc fs++(rowR laa lac la::la.map tgA)) w')
   (fun t=>12 - t) 0 Y5 (fun w' hw=>⟨by omega,hw⟩) ?_
 intro t;refine WC.pure (fun ht=>?_);refine Cs (Csr (Zm rfl (Zv (OV.cq rfl rfl) (Zm rfl ?_))));refine Zp (t:=54) rfl (fun g54=>?_) (fun g54=>?_)
 ·refine yY (Zm rfl (yY ?_))
  first
  | (refine WL.val (OV.ae rfl T.u22) rfl ?_;trace "ALT Ja0#2 c04edde8 0")
  | (refine WL.val (OV.da rfl T.u22) rfl ?_;trace "ALT Ja0#2 c04edde8 1")
  refine yY (Zv (OV.lj rfl rfl) (Zv (OV.am rfl rfl) (Nn ?_)));refine Cc rfl (fun c58=>?_) (fun c58=>?_)
  ·refine Ck (Xn (Cs (Cb (Csr (Za rfl (Nn (Csr (Za rfl (Nn (Cs (Csr (Za rfl (Nn ?_)))))))))))));refine WC.lh (fun (z:NxG)=>[(2,.slice pa pl.length pc),(7,yZ b7),(9,.slice laa la.length lac),(11,.slice fa fs.length fc),(12,.int .i64 (t:Int)),(13,.slice z.a z.ys.length z.c),(14,.bool z.ok)]) (fun (z:NxG)=>fun w'=>FinOK (fun x=>x∈selF (Jdh (mfL f.o n) (mfL f.n n) (mfL f.x n)) 3) q.cl z∧Sat w (fun _=>False) (fun b=>b<w1.heap.size∧∀ i∈([]:List Hw.Item),¬ i.D b) w1 (rowB z.a z.c z.ys::(atsA fa fc fs++(rowR laa lac la::la.map tgA))) w') ?_ ?_
   ·refine Cb (WC.weak (S':=Sat w (fun _=>False) (fun b=>b<w1.heap.size∧∀ i∈([]:List Hw.Item),¬ i.D b) w1 (row 64 4 none 0 0 []::(atsA fa fc fs++(rowR laa lac la::la.map tgA)))) (fun w' hw=>hw.rowNil 64 4) ?_)
    refine WC.j1 (fun (i:Nat) (z:NxG)=>[(2,.slice pa pl.length pc),(7,yZ b7),(9,.slice laa la.length lac),(11,.slice fa fs.length fc),(12,.int .i64 (t:Int)),(13,.slice z.a z.ys.length z.c),(14,.bool z.ok),(15,.int .i64 (i:Int))])
      (fun i z w'=>(i≤q.bd.length∧BndOK (fun x=>x∈selF (Jdh (mfL f.o n) (mfL f.n n) (mfL f.x n)) 3) q.cl i z)∧Sat w (fun _=>False) (fun b=>b<w1.heap.size∧∀ i∈([]:List Hw.Item),¬ i.D b) w1 (rowB z.a z.c z.ys::(atsA fa fc fs++(rowR laa lac la::la.map tgA))) w')
      (fun i _=>q.bd.length - i) 0 ⟨none,0,[],true⟩ Y8 (fun w' hw=>⟨⟨by omega,BndOK.zero⟩,hw⟩) ?_
    intro i z;refine WC.pure (fun hi=>?_);obtain ⟨hi,hbn⟩:=hi;refine Cs (Csr (Zm rfl ?_))
    first
    | (refine WL.val (OV.f0 5 rfl T.u32 rfl) rfl ?_;trace "ALT Ja0#3 75ec517c 0")
    | (refine WL.val (OV.cz (off:=5) rfl T.u32 rfl) rfl ?_;trace "ALT Ja0#3 75ec517c 1")
    refine Zv (OV.ah (v:=.slice q.ba q.bd.length q.bc) rfl T.u22 rfl (fun _ hw=>snapK hw _ _ (hbq 5 _ rfl))) ?_
    first
    | (refine WL.val (OV.ae rfl T.u22) rfl ?_;trace "ALT Ja0#4 c04edde8 0")
    | (refine WL.val (OV.da rfl T.u22) rfl ?_;trace "ALT Ja0#4 c04edde8 1")
    refine Zv (OV.cq rfl rfl) (Zm rfl ?_);refine Zp (t:=66) rfl (fun g66=>?_) (fun g66=>?_)
    ·refine yY (Zm rfl (Zv (OV.am rfl rfl) (Nn ?_)));refine Cc rfl (fun c68=>?_) (fun c68=>?_)
     ·refine Ck (Xn (Cs (Cb ?_)));obtain ⟨qy,y,hqy,hy,hym,hry,hcy⟩:=hrq.bd.get (i:=i) (by omega);have htb:t*q.bd.length≤12*8:=Nat.mul_le_mul (by omega) hb8;obtain ⟨m,hm,hm2⟩:=pickV_nat hpl (k:=t*q.bd.length+i) (by omega);have hz72:=hbn.s72;have hyb:q.cl.bd[i]?=some y.x:=by show (q.bd.map AG.x)[i]?=_;rw [xG,hy];rfl
      refine Hd (fun w'=>Keeps w1 w') [] (fun _ hw=>snapK hw) (m:=22) rfl ?_
      first
      | (refine Hf 0 rfl (OV.f0 5 rfl T.u32 rfl) ?_;trace "ALT Ja0#5 75ec517c 0")
      | (refine Hf 0 rfl (OV.cz (off:=5) rfl T.u32 rfl) ?_;trace "ALT Ja0#5 75ec517c 1")
      refine Ht 1 rfl (OV.ah (v:=.slice q.ba q.bd.length q.bc) rfl T.u22 rfl (fun _ hw=>hw _ _ (hbq 5 _ rfl))) (Hf 2 rfl (OV.aw rfl) (Hf 3 rfl ((OV.ad (show _=some (Value.slice (some qy) q.bd.length q.bc) by rw [← hqy];rfl) rfl T.u22 T.z29 (by omega)).cast (u:=.pointer (some (qy.add (i*5)))) (by rw [xN])) (Ht 4 rfl (OV.ai (cs:=agC y) rfl T.u29 rfl T.z29 (fun _ hw j v hj=>hw _ _ (hcy j v hj))) (Hf 5 rfl (OV.aw rfl) (Hf 6 rfl (OV.aw rfl) (Hf 7 rfl (OV.aw rfl) (Hf 8 rfl (OV.aw rfl) ?_)))))))
      first
      | (refine Hf 9 rfl (OV.f0 5 rfl T.u32 rfl) ?_;trace "ALT Ja0#6 75ec517c 0")
      | (refine Hf 9 rfl (OV.cz (off:=5) rfl T.u32 rfl) ?_;trace "ALT Ja0#6 75ec517c 1")
      refine Ht 10 rfl (OV.ah (v:=.slice q.ba q.bd.length q.bc) rfl T.u22 rfl (fun _ hw=>hw _ _ (hbq 5 _ rfl))) ?_
      first
      | (refine Hf 11 rfl (OV.ae rfl T.u22) ?_;trace "ALT Ja0#7 c04edde8 0")
      | (refine Hf 11 rfl (OV.da rfl T.u22) ?_;trace "ALT Ja0#7 c04edde8 1")
      refine Hf 12 rfl (OV.mulN rfl rfl (by omega)) (Hf 13 rfl (OV.aw rfl) (Hf 14 rfl (OV.bm rfl rfl (by omega)) (Ho 15 rfl (fl':=false) rfl ?_)));refine WL.c0 (v:=.int .i64 (m:Int)) (vs:=[.slice pa pl.length pc,.int .i64 ((t*q.bd.length+i:Nat):Int)]) (fun w' hw'=>(Jkr pl hpl hpl2 pa pc (t*q.bd.length+i) (by omega) w' (hrp.keeps (snapK hw'))).mono (fun en w'' ⟨h8,h9⟩=>⟨by rw [h8,hm],h9⟩)) ?_;refine Hc (fun _=>(fun _ hw=>snapK hw)) ?_;refine Ho 16 rfl (fl':=false) rfl ?_;refine WL.cT (ι:=NxG) (vs:=[atV y.x y.a y.c,.slice fa fs.length fc,.slice z.a z.ys.length z.c,.int .i64 (m:Int)]) (vv:=fun z'=>.tuple #[.slice z'.a z'.ys.length z'.c,.bool z'.ok]) (pp:=fun z'=>NxOK y.x fs (sb z.ys) z') [] (AA:=fun z'=>[rowB z'.a z'.c z'.ys]) rfl (fun w' hw' _=>Jiw y.x y.a y.c (hv.args (List.mem_map.2 ⟨y,hym,rfl⟩)) fs fa fc hf8 (by omega) (by omega) z.ys z.a z.c hbn.1.1 hz72 m hm2 w' (hry.keeps (snapK hw')) (RA.of_row (show Sat w (fun _=>False) (fun b=>b<w1.heap.size∧∀ i∈([]:List Hw.Item),¬ i.D b) w1 (rowB z.a z.c z.ys::(atsA fa fc fs++(rowR laa lac la::la.map tgA))) w' from hw') (fun i hi=>.tail _ (xA _ hi))) (RBd.of_row (c:=z.c) (show Sat w (fun _=>False) (fun b=>b<w1.heap.size∧∀ i∈([]:List Hw.Item),¬ i.D b) w1 (rowB z.a z.c z.ys::(atsA fa fc fs++(rowR laa lac la::la.map tgA))) w' from hw') yH)) ?_;rintro z2 hz2;refine Hc (fun _=>(fun _ hw=>snapK hw)) ?_;refine Hf 17 rfl (OV.aw rfl) (Hf 18 rfl (OV.extract rfl rfl) (Hf 19 rfl (OV.extract rfl rfl) (Hf 20 rfl (OV.assign rfl) (Hf 21 rfl (OV.assign rfl) (He (Xb (Xn (Cr (Zm rfl (Zv (OV.bm (j:=1) rfl rfl (by omega)) (Za rfl (Nl ?_))))))))))));exact WX.er (i+1) z2 Y8 (fun w' hw=>⟨⟨by omega,hbn.next (by simpa using c68) hyb (by have h9:=hv.vars72 (i:=i) (by rw [hqb];omega);rwa [Jnm hyb] at h9) hfU hz2⟩,hw.pik [[rowB z2.a z2.c z2.ys],[rowB z.a z.c z.ys],atsA fa fc fs++(rowR laa lac la::la.map tgA)] [0,2] 3⟩) (by show q.bd.length - (i+1)<q.bd.length - i;omega)
     refine Ce (Xe (Xe (Xh ?_)));exact WX.e5 z Y7 (fun w' hw=>⟨FinOK.not hbn (by simpa using c68),hw⟩)
    refine yX (Zv (OV.aj rfl rfl) (Nn (WC.bu (show _=some (Value.bool false) from by rfl) ?_)));refine Ce (Xe (Xe (Xh ?_)));exact WX.e5 z Y7 (fun w' hw=>⟨FinOK.all hbn (by rw [hqb];omega),hw⟩)
   intro z;refine WC.pure (fun hfin=>?_);have hz72:z.ys.length≤72:=Jlx hfin.1.1 hfin.1.2;refine Cs (Csr (Za rfl (Nn ?_)));refine WC.lh (fun (ok:Bool)=>[(2,.slice pa pl.length pc),(7,yZ b7),(9,.slice laa la.length lac),(11,.slice fa fs.length fc),(12,.int .i64 (t:Int)),(13,.slice z.a z.ys.length z.c),(14,.bool ok)]) (fun (ok:Bool)=>fun w'=>(ok=true→z.ys.map Bd.t∈la.map TG.l)∧Sat w (fun _=>False) (fun b=>b<w1.heap.size∧∀ i∈([]:List Hw.Item),¬ i.D b) w1 (rowB z.a z.c z.ys::(atsA fa fc fs++(rowR laa lac la::la.map tgA))) w') ?_ ?_
   ·refine Cb ?_
    refine WC.j1 (fun (i:Nat) (ok:Bool)=>[(2,.slice pa pl.length pc),(7,yZ b7),(9,.slice laa la.length lac),(11,.slice fa fs.length fc),(12,.int .i64 (t:Int)),(13,.slice z.a z.ys.length z.c),(14,.bool ok),(16,.int .i64 (i:Int))])
      (fun i ok w'=>(i≤q.ts.length∧(ok=true→z.ok=true∧∀ u∈q.ts.take i,okT (sb z.ys) u=true))∧Sat w (fun _=>False) (fun b=>b<w1.heap.size∧∀ i∈([]:List Hw.Item),¬ i.D b) w1 (rowB z.a z.c z.ys::(atsA fa fc fs++(rowR laa lac la::la.map tgA))) w')
      (fun i _=>q.ts.length - i) 0 z.ok Y8 (fun w' hw=>⟨⟨by omega,fun h=>⟨h,fun u hu=>by simp at hu⟩⟩,hw⟩) ?_
    intro i ok;refine WC.pure (fun hi=>?_);obtain ⟨hi,hto⟩:=hi;refine Cs (Csr (Zm rfl ?_))
    first
    | (refine WL.val (OV.f0 6 rfl T.u32 rfl) rfl ?_;trace "ALT Ja0#8 13d2c21b 0")
    | (refine WL.val (OV.cz (off:=6) rfl T.u32 rfl) rfl ?_;trace "ALT Ja0#8 13d2c21b 1")
    refine Zv (OV.ah (v:=.slice q.ta q.ts.length q.tc) rfl T.u30 rfl (fun _ hw=>snapK hw _ _ (hbq 6 _ rfl))) ?_
    first
    | (refine WL.val (OV.ae rfl T.u30) rfl ?_;trace "ALT Ja0#9 c04edde8 0")
    | (refine WL.val (OV.da rfl T.u30) rfl ?_;trace "ALT Ja0#9 c04edde8 1")
    refine Zv (OV.cq rfl rfl) (Zm rfl ?_);refine Zp (t:=96) rfl (fun g96=>?_) (fun g96=>?_)
    ·refine yY (Zm rfl (Zv (OV.am rfl rfl) (Nn ?_)));refine Cc rfl (fun c98=>?_) (fun c98=>?_)
     ·refine Ck (Xn (Cs (Cb (Csr (Zm rfl ?_)))))
      first
      | (refine WL.val (OV.f0 6 rfl T.u32 rfl) rfl ?_;trace "ALT Ja0#10 13d2c21b 0")
      | (refine WL.val (OV.cz (off:=6) rfl T.u32 rfl) rfl ?_;trace "ALT Ja0#10 13d2c21b 1")
      refine Zv (OV.ah (v:=.slice q.ta q.ts.length q.tc) rfl T.u30 rfl (fun _ hw=>snapK hw _ _ (hbq 6 _ rfl))) (Zm rfl ?_);obtain ⟨q1,tt,hq9,ht9,htm9,hc9⟩:=hrq.ts.get (i:=i) (by omega);refine Zv ((OV.ad (show _=some (Value.slice (some q1) q.ts.length q.tc) by rw [← hq9];rfl) rfl T.u30 T.z61 (by omega)).cast (u:=.pointer (some (q1.add (i*7)))) (by rw [xN])) (Zv (OV.ai (cs:=tsC tt) rfl T.u61 rfl T.z61 (fun _ hw j v hj=>snapK hw _ _ (hc9 j v hj))) (WL.au (v:=tsV (appT (sb z.ys) tt)) (by kernel_rfl) rfl rfl (fun w' hw'=>applyTest_calls z.ys tt z.a z.c (by omega) w' (hN.keeps (snapK hw')) (RBd.of_row (c:=z.c) (show Sat w (fun _=>False) (fun b=>b<w1.heap.size∧∀ i∈([]:List Hw.Item),¬ i.D b) w1 (rowB z.a z.c z.ys::(atsA fa fc fs++(rowR laa lac la::la.map tgA))) w' from hw') yH)) ?_));refine WL.au (v:=.tuple #[.bool (decB (appT (sb z.ys) tt)).1,.bool (decB (appT (sb z.ys) tt)).2]) (by kernel_rfl) rfl rfl (fun w' hw'=>decide_calls (appT (sb z.ys) tt) w') ?_;refine Zm rfl (Zv (OV.extract rfl rfl) (Zv (OV.extract rfl rfl) (Za rfl (Za rfl (Nn (Cr (Zm rfl (Za rfl (Nl (Xb (Xn (Cr (Zm rfl (Zv (OV.bm (j:=1) rfl rfl (by omega)) (Za rfl (Nl ?_))))))))))))))))
      exact WX.er (i+1) (okT (sb z.ys) tt) Y8 (fun w' hw=>⟨⟨by omega,fun h=>⟨(hto (by simpa using c98)).1,fun u hu=>by
       rw [Jb3 ht9] at hu;rcases List.mem_append.1 hu with h1 | h1
       ·exact (hto (by simpa using c98)).2 u h1
       ·simp only [xI] at h1;rw [h1];exact h⟩⟩,hw⟩) (by show q.ts.length - (i+1)<q.ts.length - i;omega)
     refine Ce (Xe (Xe (Xh ?_)));exact WX.e5 ok Y7 (fun w' hw=>⟨fun h=>absurd h (by simpa using c98),hw⟩)
    refine yX (Zv (OV.aj rfl rfl) (Nn (WC.bu (show _=some (Value.bool false) from by rfl) ?_)));refine Ce (Xe (Xe (Xh ?_)));exact WX.e5 ok Y7 (fun w' hw=>⟨fun h=>(ela _).2 (hfin.sol hv.cvn (hto h).1 (fun u hu=>(hto h).2 u (by rw [xK (by omega)];exact hu))),hw⟩)
   intro ok;refine WC.pure (fun hin=>?_);refine Csr (Za rfl (Nn (Cs (Csr (Za rfl (Nn (Cb (WC.weak (S':=Sat w (fun _=>False) (fun b=>b<w1.heap.size∧∀ i∈([]:List Hw.Item),¬ i.D b) w1 (row 26 3 none 0 0 []::rowB z.a z.c z.ys::(atsA fa fc fs++(rowR laa lac la::la.map tgA)))) (fun w' hw=>hw.rowNil 26 3) ?_))))))))
   refine WC.ic (fun (i:Nat) (ra:Option Addr) (rc:Nat)=>[(2,.slice pa pl.length pc),(7,yZ b7),(9,.slice laa la.length lac),(11,.slice fa fs.length fc),(12,.int .i64 (t:Int)),(13,.slice z.a z.ys.length z.c),(14,.bool ok),(19,.slice ra ((z.ys.take i).map Bd.t).length rc),(20,.int .i64 (i:Int))])
     (fun i ra rc w'=>i≤z.ys.length∧Sat w (fun _=>False) (fun b=>b<w1.heap.size∧∀ i∈([]:List Hw.Item),¬ i.D b) w1 (rowT ra rc ((z.ys.take i).map Bd.t)::rowB z.a z.c z.ys::(atsA fa fc fs++(rowR laa lac la::la.map tgA))) w')
     (fun i _ _=>z.ys.length - i) 0 none 0 Y9 (fun w' hw=>⟨by omega,hw⟩) ?_
   intro i ra rc;refine WC.pure (fun hi=>?_);refine Cs (Csr (Zm rfl (Zm rfl ?_)))
   first
   | (refine WL.val (OV.ae rfl T.u54) rfl ?_;trace "ALT Ja0#11 c04edde8 0")
   | (refine WL.val (OV.da rfl T.u54) rfl ?_;trace "ALT Ja0#11 c04edde8 1")
   refine Zv (OV.cq rfl rfl) (Nn ?_);refine Cc rfl (fun c116=>?_) (fun c116=>?_)
   ·refine Ck (Xn (Cs (Cb (Cr (Zm rfl (Zm rfl (Zm rfl ?_)))))));refine WL.j2 (fun w' hw'=>((RBd.of_row (c:=z.c) (show Sat w (fun _=>False) (fun b=>b<w1.heap.size∧∀ i∈([]:List Hw.Item),¬ i.D b) w1 (rowT ra rc ((z.ys.take i).map Bd.t)::rowB z.a z.c z.ys::(atsA fa fc fs++(rowR laa lac la::la.map tgA))) w' from hw') yI).get (i:=i) (by omega)).imp (fun q8 h=>h.imp (fun y h2=>(⟨h2.1,h2.2.1,h2.2.2.1⟩:z.a=some q8∧z.ys[i]?=some y∧y∈z.ys)))) (fun hqq=>?_);obtain ⟨q8,y,hq,hy,hym⟩:=hqq;refine Zv ((OV.ad (show _=some (Value.slice (some q8) z.ys.length z.c) by rw [← hq];rfl) rfl T.u54 T.z64 (by omega)).cast (u:=.pointer (some (q8.add (i*4)))) (by rw [xN])) (Zv ((OV.fieldAddrA (off:=1) rfl T.u64 rfl).cast (u:=.pointer (some ((q8.add (i*4)).add 1))) (rfl)) (Zv (OV.ai (cs:=tmC y.t) rfl T.u26 rfl T.z26 (fun w' hw' j v hj=>Jot ((RBd.of_row (c:=z.c) (show Sat w (fun _=>False) (fun b=>b<w1.heap.size∧∀ i∈([]:List Hw.Item),¬ i.D b) w1 (rowT ra rc ((z.ys.take i).map Bd.t)::rowB z.a z.c z.ys::(atsA fa fc fs++(rowR laa lac la::la.map tgA))) w' from hw') yI).at_ _ hq i y hy) (o:=1) (cs':=tmC y.t) rfl j v hj)) (WL.bg (cs:=tmC y.t) T.u27 T.z26 T.zr26 rfl rfl (by omega) (by omega) rfl ?_)));intro b125;refine WL.focus (ow':=rowT ra rc ((z.ys.take i).map Bd.t)::oQ b125 (tmC y.t) 26::rowB z.a z.c z.ys::(atsA fa fc fs++(rowR laa lac la::la.map tgA))) (pmP [_,_] [1,0]) ?_;refine WL.append (news:=tmC y.t) rfl rfl T.apT (fun _ _=>Jcw yI rfl) (Jgi _) ⟨by rw [xE,xJ];omega,by unfold maxLen;rw [xE,xJ];omega⟩ rfl ?_;intro a126 c126;refine Za rfl (Nl (Xb (Xn (Cr (Zm rfl (Zv (OV.bm (j:=1) rfl rfl (by omega)) (Za rfl (Nl ?_))))))));have eR:(z.ys.take (i+1)).map Bd.t=(z.ys.take i).map Bd.t++[y.t]:=by rw [Jb3 hy,xU];rfl
    have el:((z.ys.take i).map Bd.t).length+1=((z.ys.take i).map Bd.t++[y.t]).length:=by simp
    have ef:((z.ys.take i).map Bd.t).flatMap tmC++tmC y.t=((z.ys.take i).map Bd.t++[y.t]).flatMap tmC:=by simp
    exact WX.eo (i+1) a126 c126 ⟨rfl,rfl,rfl,rfl,rfl,rfl,rfl,by rw [eR,← el];rfl,rfl,trivial⟩ (fun w' hw=>⟨by omega,by
     rw [eR];rw [el,ef] at hw;exact hw.pik [[rowT a126 c126 ((z.ys.take i).map Bd.t++[y.t])],[oQ b125 (tmC y.t) 26],[rowB z.a z.c z.ys],atsA fa fc fs++(rowR laa lac la::la.map tgA)] [0,2,3] 4⟩) (by show z.ys.length - (i+1)<z.ys.length - i;omega)
   refine Ce (Xe (Xe (Xh (Xn (Cs ?_)))));rw [xK (by omega)];refine Cr (Zm rfl (Zm rfl ?_));refine Zp (t:=128) rfl (fun g128=>?_) (fun g128=>?_)
   ·refine yY (Zm rfl (yY (Zm rfl (yY (WL.c0 (v:=.bool true) (vs:=[.slice laa la.length lac,.slice ra (z.ys.map Bd.t).length rc]) (fun w' hw'=>has_law la laa lac sla hlas (nV q.cl) (by omega) hlal (z.ys.map Bd.t) ra rc ((ela _).1 (hin (by simpa using g128))).len (hin (by simpa using g128)) w' (RTG.of_items (c:=lac) (show Sat w (fun _=>False) (fun b=>b<w1.heap.size∧∀ i∈([]:List Hw.Item),¬ i.D b) w1 (rowT ra rc (z.ys.map Bd.t)::rowB z.a z.c z.ys::(atsA fa fc fs++(rowR laa lac la::la.map tgA))) w' from hw') (yV (.tail _ (xB _ yH))) (fun y hy=>.tail _ (yV (xB _ (yV (List.mem_map.2 ⟨y,hy,rfl⟩)))))) (RT.of_row (c:=rc) rfl (show Sat w (fun _=>False) (fun b=>b<w1.heap.size∧∀ i∈([]:List Hw.Item),¬ i.D b) w1 (rowT ra rc (z.ys.map Bd.t)::rowB z.a z.c z.ys::(atsA fa fc fs++(rowR laa lac la::la.map tgA))) w' from hw') yH)) ?_)))));refine yY (Zv (OV.not rfl) (Zv (OV.am rfl rfl) (Nn (WC.bu (show _=some (Value.bool false) from by rfl) ?_))));refine Ck (Xb (Xn (Cr (Zm rfl (Zv (OV.bm (j:=1) rfl rfl (by omega)) (Za rfl (Nl ?_)))))));exact WX.bk (t+1) Y5 (fun w' hw=>⟨by omega,hw.pik [[rowT ra rc (z.ys.map Bd.t)],[rowB z.a z.c z.ys],atsA fa fc fs++(rowR laa lac la::la.map tgA)] [2] 3⟩) (by show 12 - (t+1)<12 - t;omega)
   refine yX (yX (yX (yX (Zv (OV.aj rfl rfl) (Nn (WC.bu (show _=some (Value.bool false) from by rfl) ?_))))));refine Ck (Xb (Xn (Cr (Zm rfl (Zv (OV.bm (j:=1) rfl rfl (by omega)) (Za rfl (Nl ?_)))))));exact WX.bk (t+1) Y5 (fun w' hw=>⟨by omega,hw.pik [[rowT ra rc (z.ys.map Bd.t)],[rowB z.a z.c z.ys],atsA fa fc fs++(rowR laa lac la::la.map tgA)] [2] 3⟩) (by show 12 - (t+1)<12 - t;omega)
  refine Ce (Xe (Xe (Xh (Xn (Csr (Za rfl (Nn (WC.az ?_))))))));exact WX.ret1 rfl rfl rfl (fun w' hw=>⟨rfl,hw.fr⟩)
 refine yX (yX (yX (Zv (OV.aj rfl rfl) (Nn (WC.bu (show _=some (Value.bool false) from by rfl) ?_)))));refine Ce (Xe (Xe (Xh (Xn (Csr (Za rfl (Nn (WC.az ?_))))))));exact WX.ret1 rfl rfl rfl (fun w' hw=>⟨rfl,hw.fr⟩)
end Go.Proofs.YtgebaodagaecmaaGreatDoor
