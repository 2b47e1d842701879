/- Contracts of functions of the program: what each returns and leaves in memory. Printed by gen.py and walk.py. -/
import Derived.Test.YtgebaodagaecmaaGreatDoorMg24
import Derived.Test.YtgebaodagaecmaaGreatDoorHxA
import Derived.Test.YtgebaodagaecmaaGreatDoorMg22
set_option maxRecDepth 10000
namespace Go.Proofs.YtgebaodagaecmaaGreatDoor
open Go Go.Hw
set_option linter.unusedSimpArgs false
set_option linter.unusedVariables false
set_option maxHeartbeats 1000000 in
theorem madeFact_calls (x:At)(a:Option Addr)(c:Nat)(hl:x.args.length≤1048576)(hs:x.name.size≤1099511627776)(w:World)(hr:RT w a x.args):Calls Tryz.prog 50 #[atV x a c] w fun e w'=>∃ z:Option Addr × Nat,e=.returned (atV (Jb6 x) z.1 z.2)∧Turns [] [rowT z.1 z.2 (Jb6 x).args] w w':=by
 refine Jbn (args:=[atV x a c]) (fun _=>False) Tryz.func50 rfl Tryz.ntmps50 rfl rfl ?_;refine Csr (WL.box rfl rfl rfl ?_);intro b1;refine WL.alloc (cs:=atC ⟨T0,E0,[]⟩ none 0) T.zr29 rfl ?_;intro b2;refine Nn (Csr (Zv (OV.lN (cs:=atC x a c) rfl T.u29 rfl T.z29 yI) (WL.cT (ι:=Option Addr × Nat) (vs:=[atV x a c]) (vv:=fun z=>atV (Jah x) z.1 z.2) (pp:=fun _=>True) [] (AA:=fun z=>[rowT z.1 z.2 (Jah x).args]) rfl (fun w' hw' _=>(Jf4 x a c hl hs w' (hr.keeps hw'.keeps)).mono (fun en w'' ⟨z,h1,h2⟩=>⟨z,h1,trivial,h2⟩)) ?_)));rintro ⟨ha,hac⟩ _;refine WL.alloc T.zr29 rfl ?_;intro b3;refine WL.ag (vs:=atC (Jah x) ha hac) rfl rfl rfl T.z29 rfl ?_;refine Nn (Cs (Csr (Zv (OV.f0 0 rfl T.u29 rfl) (Zv (OV.f0 0 rfl T.u26 rfl) (Zv (OV.l1 (v:=.int .i64 (Jah x).b.kind) rfl T.u3 rfl yH rfl) (Zv (OV.dp rfl rfl) (Nn ?_)))))));refine WC.gz [(2,yZ b2),(3,yZ b3)] (Sat0 w (oQ b3 (atC ⟨nvB (Jah x).b,(Jah x).name,(Jah x).args⟩ ha hac) 29::rowT ha hac (Jah x).args::oQ b2 (atC ⟨T0,E0,[]⟩ none 0) 29::oQ b1 (atC x a c) 29::[])) ?_ ?_
 ·refine Cc rfl (fun c10=>?_) (fun c10=>?_)
  ·refine Cr (Zv (OV.aq (xs:=[]) (pl:=[(0,1),(1,1),(2,1)]) (cs:=tmC T0) T.u26 T.zr26 (by kernel_rfl) rfl rfl) (Zv (OV.f0 0 rfl T.u29 rfl) (WL.kx (o:=0) (vs:=tmC T0) rfl rfl rfl T.z26 yW ?_)));refine Nl ?_;have em:nvB (Jah x).b=T0:=by unfold nvB;rw [if_pos (by simpa using c10)]
   exact WX.dw Y2 (fun w' hw=>by rw [em];exact hw)
  refine Ck ?_;have em:nvB (Jah x).b=(Jah x).b:=by unfold nvB;rw [if_neg (by simpa using c10)]
  exact WX.dw Y2 (fun w' hw=>by rw [em];exact hw)
 refine Cs (Csr (Za rfl (Nn (Cb ?_))));have hha:=Jiy x;refine WC.kz (fun w' hw=>(fun hp=>Jea (hw.it (rowT ha hac (Jah x).args) yI) hp:0<(Jah x).args.length→∃ q,ha=some ⟨q,0,none⟩)) (fun hqa=>?_)
 refine WC.cg (fun (i:Nat)=>[(2,yZ b2),(3,yZ b3),(4,.int .i64 (i:Int))])
   (fun i w'=>i≤(Jah x).args.length∧Sat0 w (oQ b3 (atC ⟨nvB (Jah x).b,(Jah x).name,(((Jah x).args.take i).map Jce++(Jah x).args.drop i)⟩ ha hac) 29::rowT ha hac (((Jah x).args.take i).map Jce++(Jah x).args.drop i)::oQ b2 (atC ⟨T0,E0,[]⟩ none 0) 29::oQ b1 (atC x a c) 29::[]) w')
   (fun i=>(Jah x).args.length - i) 0 Y3 (fun w' hw=>⟨by omega,hw⟩) ?_
 intro i;refine WC.pure (fun hi=>?_);have hcl:=Jgs Jce (Jah x).args i;refine Cs (Csr (Zm rfl (Zv (OV.f0 4 rfl T.u29 rfl) (Zv (OV.l1 (v:=.slice ha (((Jah x).args.take i).map Jce++(Jah x).args.drop i).length hac) rfl T.u27 rfl yH rfl) (Zv (OV.ae rfl T.u27) (Zv (OV.cq rfl rfl) (Nn ?_)))))));refine Cc rfl (fun c17=>?_) (fun c17=>?_)
 ·refine Ck (Xn (Cs (Cb (Hd (fun w'=>w'.heap[b3]?=some (.cells (atC ⟨nvB (Jah x).b,(Jah x).name,(((Jah x).args.take i).map Jce++(Jah x).args.drop i)⟩ ha hac).toArray 29 (0,0))∧(rowT ha hac (((Jah x).args.take i).map Jce++(Jah x).args.drop i)).φ w') [10] (fun _ hw=>⟨hw.it (oQ b3 (atC ⟨nvB (Jah x).b,(Jah x).name,(((Jah x).args.take i).map Jce++(Jah x).args.drop i)⟩ ha hac) 29) (by simp),hw.it (rowT ha hac (((Jah x).args.take i).map Jce++(Jah x).args.drop i)) (by simp)⟩) (m:=11) rfl ?_))));refine Hf 0 rfl (OV.f0 4 rfl T.u29 rfl) (Ht 1 rfl (OV.ai (v:=.slice ha (((Jah x).args.take i).map Jce++(Jah x).args.drop i).length hac) rfl T.u27 rfl (fun _ hw=>(Jay hw.1 (o:=4) rfl).1)) (Hf 2 rfl (OV.au rfl) (Hf 3 rfl (OV.f0 4 rfl T.u29 rfl) (Ht 4 rfl (OV.ai (v:=.slice ha (((Jah x).args.take i).map Jce++(Jah x).args.drop i).length hac) rfl T.u27 rfl (fun _ hw=>(Jay hw.1 (o:=4) rfl).1)) (Hf 5 rfl (OV.au rfl) ?_)))));obtain ⟨t,ht⟩:∃ t,(Jah x).args[i]?=some t:=⟨_,xD (by omega)⟩
  obtain ⟨qh,hqh⟩:=hqa (by omega);refine Hf 6 rfl ((OV.ad (show _=some (Value.slice (some ⟨qh,0,none⟩) (((Jah x).args.take i).map Jce++(Jah x).args.drop i).length hac) by rw [← hqh];rfl) rfl T.u27 T.z26 (by rw [Jgs];omega)).cast (u:=.pointer (some ⟨qh,i*3,none⟩)) (by rw [xN,Jan,xM])) ?_;refine Ht 7 rfl (OV.aj (cs:=tmC t) rfl T.u26 rfl T.z26 (fun _ hw j v hj=>by have hj3:j<3:=(List.getElem?_eq_some_iff.1 hj).1;have h:=Jcr hqh hw.2 (i*3+j) v (by rw [Jco Jc3 _ i j t (cur_get ht) (by omega)];exact hj);rwa [Jan,xM,← Jan] at h)) ?_;refine Ho 8 rfl (fl':=false) rfl ?_;refine WL.aw (v:=tmV (Jce t)) (by kernel_rfl) rfl rfl (fun w' hw'=>ground_calls t w') ?_;refine Hc (fun _=>(fun _ hw=>⟨hw.it (oQ b3 (atC ⟨nvB (Jah x).b,(Jah x).name,(((Jah x).args.take i).map Jce++(Jah x).args.drop i)⟩ ha hac) 29) (by simp),hw.it (rowT ha hac (((Jah x).args.take i).map Jce++(Jah x).args.drop i)) (by simp)⟩)) ?_;refine Hf 9 rfl ((OV.ad (show _=some (Value.slice (some ⟨qh,0,none⟩) (((Jah x).args.take i).map Jce++(Jah x).args.drop i).length hac) by rw [← hqh];rfl) rfl T.u27 T.z26 (by rw [Jgs];omega)).cast (u:=.pointer (some ⟨qh,i*3,none⟩)) (by rw [xN,Jan,xM])) (Ho 10 rfl (fl':=true) rfl ?_);refine WL.focus perm1 (WL.fq (vs:=tmC (Jce t)) (o:=i*3) rfl hqh rfl rfl T.z26 (by rw [cur_len3];show i*3+3≤_;omega) ?_);refine Hc (fun h=>by cases h) ?_;refine He (Xb (Xn (Cr (Zm rfl (Zv (OV.bm (j:=1) rfl rfl (by omega)) (Za rfl (Nl ?_)))))));have hfp:=Jl4 (((Jah x).args.take i).map Jce++(Jah x).args.drop i) i (Jce t) (by omega);rw [hfp,cur_set ht]
  exact WX.bi (i+1) Y3 (fun w' hw=>⟨by omega,by
   have hl1:=Jgs Jce (Jah x).args (i+1);rw [hcl,← hl1] at hw;have hce:atC ⟨nvB (Jah x).b,(Jah x).name,(((Jah x).args.take i).map Jce++(Jah x).args.drop i)⟩ ha hac=atC ⟨nvB (Jah x).b,(Jah x).name,(((Jah x).args.take (i+1)).map Jce++(Jah x).args.drop (i+1))⟩ ha hac:=by unfold atC;simp only [Jgs]
   rw [← hce];exact hw.perm perm1⟩) (by show (Jah x).args.length - (i+1)<(Jah x).args.length - i;omega)
 refine Ce (Xe (Xe (Xh (Xn (Csr (Zv (OV.lN (cs:=atC ⟨nvB (Jah x).b,(Jah x).name,(((Jah x).args.take i).map Jce++(Jah x).args.drop i)⟩ ha hac) rfl T.u29 rfl T.z29 yH) ?_))))));refine WL.focus perm2 (WL.ag (vs:=atC ⟨nvB (Jah x).b,(Jah x).name,(((Jah x).args.take i).map Jce++(Jah x).args.drop i)⟩ ha hac) rfl rfl rfl T.z29 rfl ?_);refine Nn (WC.bg ?_)
 have hcm:(⟨nvB (Jah x).b,(Jah x).name,(((Jah x).args.take i).map Jce++(Jah x).args.drop i)⟩:At)=Jb6 x:=by
  have e1:(Jah x).args.take i=(Jah x).args:=xK (by omega);have e2:(Jah x).args.drop i=[]:=xW (by omega);rw [e1,e2,xZ];rfl
 have hca:(((Jah x).args.take i).map Jce++(Jah x).args.drop i)=(Jb6 x).args:=congrArg At.args hcm;rw [hcm,hca];refine WX.retC (cs:=atC (Jb6 x) ha hac) rfl rfl rfl T.u29 rfl T.z29 (fun w' hw j v hj=>Jbh hw yH j v hj) (fun w' hw=>⟨(ha,hac),rfl,?_⟩);exact (hw.pik [[oQ b2 (atC (Jb6 x) ha hac) 29],[oQ b3 (atC (Jb6 x) ha hac) 29],[rowT ha hac (Jb6 x).args],[oQ b1 (atC x a c) 29]] [2] 4).turned0
theorem Jku (g:BaseG)(k:Nat)(F:List (At × Nat))(b:BS g k F)(ys:List AG)(a:Option Addr)(c n:Nat)(hkk:k+ys.length≤100000000000)(hsz:∀ y∈ys,y.x.args.length≤1048576∧y.x.name.size≤1099511627776)(hyl:ys.length≤1099511627776)(w0 w:World)(hk:Keeps w0 w)(hB:∀ b,DD (baseA g) b→w0.heap.size≤b)(hN:Jc2 w0)(hr:RA w0 a ys)(hA:Holds (baseA g) w):
 Calls Tryz.prog 16 #[ptr g.p,.slice a ys.length c,.int .i64 (n:Int)] w fun e w'=>∃ g',e=.returned (.tuple #[])∧(BS g' (k+(ys.take n).length) (Jel F ((ys.take n).map fun y=>Jb6 y.x))∧g'.p=g.p)∧Turns (baseA g) (baseA g') w w':=by
 refine Jdu hA (args:=[ptr g.p,.slice a ys.length c,.int .i64 (n:Int)]) Tryz.func16 rfl Tryz.ntmps16 rfl rfl ?_;refine Csr (Za rfl (Nn (Cb ?_)))
 refine WC.ky (fun (i:Nat) (gk:BaseG)=>[(0,ptr g.p),(1,.slice a ys.length c),(2,.int .i64 (n:Int)),(6,.int .i64 (i:Int))])
   (fun i gk w'=>(i≤ys.length∧i≤n∧BS gk (k+i) (Jel F ((ys.take i).map fun y=>Jb6 y.x))∧gk.p=g.p)∧SatA w (baseA g) (baseA gk) w')
   (fun i _=>ys.length - i) 0 g Y4 (fun w' hw=>⟨⟨by omega,by omega,b,rfl⟩,hw⟩) ?_
 intro i gk;refine WC.pure (fun hi=>?_);obtain ⟨hi,hin,bsk,hgp⟩:=hi;refine Cs (Csr (Zm rfl (Zm rfl (Zv (OV.ae rfl T.u22) (Zv (OV.cq rfl rfl) (Zm rfl ?_))))));refine Zp (t:=11) rfl (fun g11=>?_) (fun g11=>?_)
 ·refine yY (Zm rfl (yY (Zm rfl (yY (Zv (OV.cq rfl rfl) (Zv (OV.ao rfl rfl) (Nn ?_)))))));refine Cc rfl (fun c15=>?_) (fun c15=>?_)
  ·refine Ck (Xn (Cs (Cb (Cr (Zm rfl (Zm rfl (Zm rfl ?_)))))));obtain ⟨q1,y,hq,ht,htm,hra,hc⟩:=hr.get (i:=i) (by omega);refine Zv ((OV.ad (show _=some (Value.slice (some q1) ys.length c) by rw [← hq];rfl) rfl T.u22 T.z29 (by omega)).cast (u:=.pointer (some (q1.add (i*5)))) (by rw [xN])) (Zv (OV.aj (cs:=atC y.x y.a y.c) rfl T.u29 rfl T.z29 (fun _ hw j v hj=>(Jb3 hk hB hw) _ _ (hc j v hj))) ?_);have hsy:=hsz y htm;refine WL.cT (ι:=Option Addr × Nat) (vs:=[atV y.x y.a y.c]) (vv:=fun z=>atV (Jb6 y.x) z.1 z.2) (pp:=fun _=>True) [] (AA:=fun z=>[rowT z.1 z.2 (Jb6 y.x).args]) rfl (fun w' hw' _=>(madeFact_calls y.x y.a y.c hsy.1 hsy.2 w' (hra.keeps (Jb3 hk hB hw'))).mono (fun en w'' ⟨z,h1,h2⟩=>⟨z,h1,trivial,h2⟩)) ?_;rintro ⟨za,zc⟩ _;have hfa:(Jb6 y.x).args.length≤8:=by show ((Jah y.x).args.map Jce).length≤8;rw [xE];exact Jiy _
   have hfn:(Jb6 y.x).name.size≤1099511627776:=by
    have h1:=(chkA_zero.1 (Jkp y.x)).1;unfold nameB at h1;rw [decide_eq_true_eq] at h1;have:=h1.2.1;show (Jah y.x).name.size≤_;omega
   refine WL.focus (ow':=baseA gk++[rowT za zc (Jb6 y.x).args]) (pmC [[rowT za zc (Jb6 y.x).args],baseA gk] [1,0]) ?_
   refine WL.cT (ι:=BaseG) (vs:=[ptr g.p,atV (Jb6 y.x) za zc]) (vv:=fun _=>.tuple #[.bool (factB (Jb6 y.x) && decide (Jb6 y.x∉(Jel F ((ys.take i).map fun y=>Jb6 y.x)).map (·.1))),.int .i64 (if factB (Jb6 y.x)=true then 0 else 81)]) (pp:=fun g'=>BS g' (k+i+1) (addF (Jel F ((ys.take i).map fun y=>Jb6 y.x)) (Jb6 y.x))∧g'.p=g.p) (baseA gk) (AA:=fun g'=>baseA g') rfl (fun w' hw' hH=>by
    have h9:=badd_bs gk (k+i) (Jel F ((ys.take i).map fun y=>Jb6 y.x)) bsk (by omega) (Jb6 y.x) za zc (by omega) (by omega) w' (hN.keeps (Jb3 hk hB hw')) (fun h0=>by have h5:=newer hB (Nat.le_of_lt (Nat.lt_of_le_of_lt (hB _ (base_in g)) (base_lt hA))) (show Sat w _ _ w (baseA gk++[rowT za zc (Jb6 y.x).args]) w' from hw') 0 h0;have:=hN.lt;omega) (RT.of_row (c:=zc) rfl (show Sat w _ _ w (baseA gk++[rowT za zc (Jb6 y.x).args]) w' from hw') (xB _ yH)) (fun p hp _=>Sat.sepO (show Sat w _ _ w (baseA gk++[rowT za zc (Jb6 y.x).args]) w' from hw') (i:=rowT za zc (Jb6 y.x).args) yH ⟨p,hp,rfl⟩) hH;rw [hgp] at h9;exact h9) ?_
   rintro g2 ⟨bs2,hp2⟩;refine Nl (Xb (Xn (Cr (Zm rfl (Zv (OV.bm (j:=1) rfl rfl (by omega)) (Za rfl (Nl ?_)))))))
   exact WX.ei (i+1) g2 Y4 (fun w' hw=>⟨⟨by omega,by omega,by
    rw [Jb4 ht,xU];show BS g2 (k+(i+1)) (Jel F (((ys.take i).map fun y=>Jb6 y.x)++[Jb6 y.x]));rw [addAll_snoc];exact bs2,hp2⟩,by
    have h1:=hw.pik [baseA g2,[rowT za zc (Jb6 y.x).args]] [0] 2;exact h1⟩) (by show ys.length - (i+1)<ys.length - i;omega)
  refine Ce (Xe (Xe (Xh ?_)));obtain rfl:i=n:=by omega
  exact WX.ret0 rfl rfl (fun w' hw=>⟨gk,rfl,⟨by rw [xJ,Nat.min_eq_left (by omega)];exact bsk,hgp⟩,hw.turned⟩)
 refine yX (yX (yX (Zv (OV.ak rfl rfl) (Nn (WC.bu (show _=some (Value.bool false) from by rfl) ?_)))));refine Ce (Xe (Xe (Xh ?_)));obtain rfl:i=ys.length:=by omega
 have e1:ys.take n=ys:=xK (by omega);have e2:ys.take ys.length=ys:=List.take_length;rw [e2] at bsk;exact WX.ret0 rfl rfl (fun w' hw=>⟨gk,rfl,⟨by rw [e1];exact bsk,hgp⟩,hw.turned⟩)
structure RTG (w:World) (a:Option Addr) (ts:List TG):Prop where
 nil:a=none→ts.length=0
 at_:∀ q,a=some q→∀ i y,ts[i]?=some y→w.cell? (q.add i)=some (tgV y)
 args:∀ y∈ts,RT w y.a y.l
theorem RTG.keeps {w w':World}{a:Option Addr}{ts:List TG}(h:RTG w a ts)(k:Keeps w w'):RTG w' a ts:=⟨h.nil,fun q hq i y hy=>k _ _ (h.at_ q hq i y hy),fun y hy=>(h.args y hy).keeps k⟩
theorem RTG.get {w:World}{a:Option Addr}{ts:List TG}(h:RTG w a ts){i:Nat}(hi:i<ts.length):∃ q y,a=some q∧ts[i]?=some y∧y∈ts∧RT w y.a y.l∧w.cell? (q.add i)=some (tgV y):=by
 cases a with
 | none=>have:=h.nil rfl;omega
 | some q=>exact ⟨q,ts[i],rfl,xD hi,List.getElem_mem hi,h.args _ (List.getElem_mem hi),h.at_ q rfl i _ (xD hi)⟩
theorem RTG.of_items {w0 ws w:World}{M I:Nat→Prop}{ow:List Hw.Item}{a:Option Addr}{c:Nat}{ts:List TG}(hw:Sat w0 M I ws ow w)(hm:rowR a c ts∈ow)(ht:∀ y∈ts,tgA y∈ow):RTG w a ts:=by
 refine ⟨fun ha=>?_,fun q hq i y hy=>?_,fun y hy=>RT.of_row (c:=y.c) rfl hw (ht y hy)⟩
 ·rcases (Jdx hw hm).2 with ⟨_,h,_⟩ | ⟨b,hb,_⟩
  ·exact h
  ·rw [ha] at hb;cases hb
 ·subst hq;exact Jdr hw hm i (tgV y) (by rw [xG,hy];rfl)
def mostL:List Int:=[60,60,16,7,4,3,2,1,1]
def mostN (n:Nat):Nat:=(mostL.getD n 0).toNat
theorem mostL_get {n:Nat}(h:n≤8):(mostL.map fun k:Int=>Value.int .i64 k)[n]?=some (.int .i64 ((mostN n:Nat):Int)):=by
 have h2:∀ m:Fin 9,mostL[m.1]?=some (((mostL.getD m.1 0).toNat:Nat):Int):=by decide
 rw [xG,h2 ⟨n,by omega⟩];rfl
theorem most_law (n:Nat)(hn:n≤8)(w:World):Calls Tryz.prog 8 #[.int .i64 (n:Int)] w fun e w'=>e=.returned (.int .i64 ((mostN n:Nat):Int))∧Fr0 w w':=by
 refine Jbn (args:=[.int .i64 (n:Int)]) (fun _=>False) Tryz.func8 rfl Tryz.ntmps8 rfl rfl ?_;refine Csr (Za rfl (Nn (Csr (Zv (OV.buildArr (xs:=[60,60,16,7,4,3,2,1,1].map fun k:Int=>Operand.const (.int .i64 k)) (vs:=mostL.map fun k:Int=>Value.int .i64 k) rfl T.u79 T.z3 T.zr79 rfl (Eq.refl 9) rfl) (WL.alloc T.zr79 rfl ?_)))));intro b3;refine WL.ag (vs:=mostL.map fun k:Int=>Value.int .i64 k) rfl rfl rfl T.z79 rfl ?_;refine Nn (Cs (Csr (Zm rfl (Zv ((OV.jw rfl rfl).cast (u:=.bool false) (congrArg Value.bool (xP (by omega)))) (Nn (WC.bu (show _=some (Value.bool false) from by rfl) ?_))))));refine Ck (Xn (Csr (Zm rfl (Zv (OV.jh rfl rfl T.u79 T.z3 (by omega)) (Zv (OV.ai (v:=.int .i64 ((mostN n:Nat):Int)) rfl T.u3 rfl (fun _ hw=>Jbh hw yH n _ (mostL_get hn))) (Za rfl (Nn (WC.bg ?_))))))));exact WX.ret1 rfl rfl rfl (fun w' hw=>⟨rfl,hw.fr⟩)
theorem ahead_law (ls ms:List Tm)(hlm:ls.length=ms.length)(a1 a2:Option Addr)(c1 c2:Nat)(h1:ls.length≤1099511627776)(w:World)(hr1:RT w a1 ls)(hr2:RT w a2 ms):Calls Tryz.prog 47 #[.slice a1 ls.length c1,.slice a2 ms.length c2] w fun e w'=>e=.returned (.bool (decide (cmpR ls ms<0)))∧Fr0 w w':=by
 refine Jbn (args:=[.slice a1 ls.length c1,.slice a2 ms.length c2]) (fun _=>False) Tryz.func47 rfl Tryz.ntmps47 rfl rfl ?_;refine Csr (Za rfl (Nn (Cs (Csr (Za rfl (Nn (Cb ?_)))))))
 refine WC.cg (fun (i:Nat)=>[(0,.slice a1 ls.length c1),(1,.slice a2 ms.length c2),(5,.int .i64 (i:Int))])
   (fun i w'=>(i≤ls.length∧cmpR (ls.drop i) (ms.drop i)=cmpR ls ms)∧Sat0 w ([]) w')
   (fun i=>ls.length - i) 0 Y3 (fun w' hw=>⟨⟨by omega,rfl⟩,hw⟩) ?_
 intro i;refine WC.pure (fun hi=>?_);obtain ⟨hi,hcm⟩:=hi;refine Cs (Csr (Zm rfl (Zm rfl (Zv (OV.ae rfl T.u27) (Zv (OV.cq rfl rfl) (Zm rfl ?_))))));refine Zp (t:=11) rfl (fun g11=>?_) (fun g11=>?_)
 ·refine yY (Zm rfl (yY (Zm rfl (yY (Zv (OV.ae rfl T.u27) (yY (Zv ((OV.cq rfl rfl).cast (u:=.bool true) (congrArg Value.bool (xO (by omega)))) (Zv (OV.ao rfl rfl) (Nn (WC.cm (show _=some (Value.bool true) from by rfl) ?_))))))))));refine Ck (Xn (Cs (Cb (Cs ?_))));obtain ⟨q1,t1,hq1,ht1,_,_,hc1⟩:=hr1.get (i:=i) (by omega);obtain ⟨q2,t2,hq2,ht2,_,_,hc2⟩:=hr2.get (i:=i) (by omega);refine Hq [8] (m:=10) rfl ?_;refine Hf 0 rfl (OV.au rfl) (Hf 1 rfl (OV.au rfl) ?_);obtain ⟨q1,t1,hq1,ht1,_,_,hc1⟩:=hr1.get (i:=i) (by omega);obtain ⟨q2,t2,hq2,ht2,_,_,hc2⟩:=hr2.get (i:=i) (by omega);refine Hf 2 rfl ((OV.ad (show _=some (Value.slice (some q1) ls.length c1) by rw [← hq1];rfl) rfl T.u27 T.z26 (by omega)).cast (u:=.pointer (some (q1.add (i*3)))) (by rw [xN])) (Ht 3 rfl (OV.aj (cs:=tmC t1) rfl T.u26 rfl T.z26 (fun _ hw j v hj=>hw.keeps _ _ (hc1 j v hj))) (Hf 4 rfl (OV.au rfl) (Hf 5 rfl (OV.au rfl) (Hf 6 rfl ((OV.ad (show _=some (Value.slice (some q2) ms.length c2) by rw [← hq2];rfl) rfl T.u27 T.z26 (by omega)).cast (u:=.pointer (some (q2.add (i*3)))) (by rw [xN])) (Ht 7 rfl (OV.aj (cs:=tmC t2) rfl T.u26 rfl T.z26 (fun _ hw j v hj=>hw.keeps _ _ (hc2 j v hj))) (Ho 8 rfl (fl':=true) rfl ?_))))));refine WL.aw (v:=.int .i64 (cmpT t1 t2)) (by kernel_rfl) rfl rfl (fun w' hw'=>Ji2 t1 t2 w') ?_;refine Hc (fun h=>by cases h) ?_;refine Hf 9 rfl (OV.assign rfl) (He (Xn (Csr (Zm rfl (Zv (OV.gg rfl rfl) (Nn ?_))))));refine Cc rfl (fun c29=>?_) (fun c29=>?_)
  ·refine Csr (Zm rfl (Zv (OV.cq rfl rfl) (Za rfl (Nn (WC.bg ?_)))));refine Xq (Xr (Xr (Xq (Xr ?_))));exact WX.ret1 rfl rfl rfl (fun w' hw=>⟨by rw [← hcm,show cmpR (ls.drop i) (ms.drop i)=cmpT t1 t2 from cmpList_hit ht1 ht2 (by omega)],hw.fr⟩)
  refine Ck (Xb (Xn (Cr (Zm rfl (Zv (OV.bm (j:=1) rfl rfl (by omega)) (Za rfl (Nl ?_)))))));exact WX.bi (i+1) Y3 (fun w' hw=>⟨⟨by omega,by rw [← hcm];exact (cmpList_drop ht1 ht2 (by omega)).symm⟩,hw⟩) (by show ls.length - (i+1)<ls.length - i;omega)
 refine yX (yX (yX (yX (Zv (OV.ak rfl rfl) (Nn (WC.bu (show _=some (Value.bool false) from by rfl) ?_))))));refine Ce (Xe (Xe (Xh (Xn (Csr (Za rfl (Nn (WC.bg ?_))))))));exact WX.ret1 rfl rfl rfl (fun w' hw=>⟨by rw [← hcm,xW (by omega),xW (by omega)];rfl,hw.fr⟩)
theorem str_lt {ts:List TG}(hs:Str cmpR (ts.map TG.l)){i j:Nat}{x y:TG}(hx:ts[i]?=some x)(hy:ts[j]?=some y)(h:i<j):cmpR x.l y.l<0:=by
 have h1:=(List.getElem?_eq_some_iff.1 hx).1;have h2:=(List.getElem?_eq_some_iff.1 hy).1;have h3:=List.pairwise_iff_getElem.1 (show (ts.map TG.l).Pairwise _ from hs) i j (by rw [xE];exact h1) (by rw [xE];exact h2) h;rw [List.getElem_map,List.getElem_map] at h3;rw [xD h1] at hx;rw [xD h2] at hy;rw [← xH hx,← xH hy];exact h3
theorem rises_law (ts:List TG)(a:Option Addr)(c:Nat)(hst:Str cmpR (ts.map TG.l))(htl:ts.length≤1099511627776)(N:Nat)(hN:N≤1099511627776)(hlen:∀ y∈ts,y.l.length=N)(hcs:∀ y∈ts,∀ t∈y.l,Jc1 t=true)(w:World)(hr:RTG w a ts):Calls Tryz.prog 13 #[.slice a ts.length c,.int .i64 (N:Int)] w fun e w'=>e=.returned (.bool true)∧Fr0 w w':=by
 refine Jbn (args:=[.slice a ts.length c,.int .i64 (N:Int)]) (fun _=>False) Tryz.func13 rfl Tryz.ntmps13 rfl rfl ?_;refine Csr (Za rfl (Nn (Cs (Csr (Za rfl (Nn (Cb ?_)))))))
 refine WC.cg (fun (i:Nat)=>[(0,.slice a ts.length c),(1,.int .i64 (N:Int)),(5,.int .i64 (i:Int))])
   (fun i w'=>i≤ts.length∧Sat0 w ([]) w')
   (fun i=>ts.length - i) 0 Y3 (fun w' hw=>⟨by omega,hw⟩) ?_
 intro i;refine WC.pure (fun hi=>?_);refine Cs (Csr (Zm rfl (Zm rfl (Zv (OV.ae rfl T.u39) (Zv (OV.cq rfl rfl) (Nn ?_))))));refine Cc rfl (fun c10=>?_) (fun c10=>?_)
 ·refine Ck (Xn (Cs (Cb (Cs (Cs ?_)))));obtain ⟨q,y,hq,hy,hym,hry,hcy⟩:=hr.get (i:=i) (by omega);have hyN:=hlen y hym;refine Cr (Zm rfl (Zm rfl (Zv ((OV.ad (show _=some (Value.slice (some q) ts.length c) by rw [← hq];rfl) rfl T.u39 T.z27 (by omega)).cast (u:=.pointer (some (q.add i))) (by rw [xN,Nat.mul_one])) (Zv (OV.ai (v:=tgV y) rfl T.u27 rfl (fun _ hw=>hw.keeps _ _ hcy)) (Zv (OV.ae rfl T.u27) (Zm rfl (Zv ((OV.gg rfl rfl).cast (u:=.bool false) (by rw [hlen y hym];simp)) (Nn (WC.bu (show _=some (Value.bool false) from by rfl) ?_)))))))));refine Ck (Xn (Cs (Csr (Za rfl (Nn (Cb ?_))))))
  refine WC.cg (fun (k:Nat)=>[(0,.slice a ts.length c),(1,.int .i64 (N:Int)),(5,.int .i64 (i:Int)),(6,.int .i64 (k:Int))])
    (fun k w'=>k≤N∧Sat0 w ([]) w')
    (fun k=>N - k) 0 Y4 (fun w' hw=>⟨by omega,hw⟩) ?_
  intro k;refine WC.pure (fun hk=>?_);refine Cs (Csr (Zm rfl (Zm rfl (Zv (OV.cq rfl rfl) (Nn ?_)))));refine Cc rfl (fun c22=>?_) (fun c22=>?_)
  ·refine Ck (Xn (Cs (Cb (Csr (Zm rfl (Zm rfl (Zv ((OV.ad (show _=some (Value.slice (some q) ts.length c) by rw [← hq];rfl) rfl T.u39 T.z27 (by omega)).cast (u:=.pointer (some (q.add i))) (by rw [xN,Nat.mul_one])) (Zv (OV.ai (v:=tgV y) rfl T.u27 rfl (fun _ hw=>hw.keeps _ _ hcy)) (Zm rfl ?_)))))))));obtain ⟨q2,t,hq2,ht,htm,_,hct⟩:=hry.get (i:=k) (by omega);refine Zv ((OV.ad (show _=some (Value.slice (some q2) y.l.length y.c) by rw [← hq2];rfl) rfl T.u27 T.z26 (by omega)).cast (u:=.pointer (some (q2.add (k*3)))) (by rw [xN])) (Zv (OV.aj (cs:=tmC t) rfl T.u26 rfl T.z26 (fun _ hw j v hj=>hw.keeps _ _ (hct j v hj))) (WL.c0 (v:=.bool true) (vs:=[tmV t]) (fun w' hw'=>(Jd8 t w').mono (fun en w'' ⟨h8,h9⟩=>⟨by rw [h8,hcs y hym t htm],h9⟩)) ?_));refine Zv (OV.not rfl) (Nn (WC.bu (show _=some (Value.bool false) from by rfl) ?_));refine Ck (Xb (Xn (Cr (Zm rfl (Zv (OV.bm (j:=1) rfl rfl (by omega)) (Za rfl (Nl ?_)))))));exact WX.bi (k+1) Y4 (fun w' hw=>⟨by omega,hw⟩) (by show N - (k+1)<N - k;omega)
  refine Ce (Xe (Xe (Xh (Xn (Cs ?_)))));obtain ⟨x,hx⟩:∃ x,ts[i - 1]?=some x:=⟨_,xD (by omega)⟩
  have hxm:=xC hx;have hcx:=hr.at_ q hq (i - 1) x hx;refine Hq [12] (m:=15) rfl ?_;refine Hf 0 rfl (OV.au rfl) (Hf 1 rfl (OV.jw rfl rfl) (Hf 2 rfl (OV.au rfl) ?_));refine Hp (t:=36) rfl (fun g36=>?_) (fun g36=>?_)
  ·refine Hfg 3 rfl rfl rfl rfl (OV.au rfl) (Hfg 4 rfl rfl rfl rfl (OV.au rfl) (Hfg 5 rfl rfl rfl rfl ((OV.k7 rfl rfl (by omega)).cast (u:=.int .i64 ((i - 1:Nat):Int)) (by congr 1;omega)) (Hfg 6 rfl rfl rfl rfl ((OV.ad (show _=some (Value.slice (some q) ts.length c) by rw [← hq];rfl) rfl T.u39 T.z27 (by omega)).cast (u:=.pointer (some (q.add (i - 1)))) (by rw [xN,Nat.mul_one])) (Htg 7 rfl rfl rfl rfl (OV.ai (v:=tgV x) rfl T.u27 rfl (fun _ hw=>hw.keeps _ _ hcx)) (Hfg 8 rfl rfl rfl rfl (OV.au rfl) (Hfg 9 rfl rfl rfl rfl (OV.au rfl) (Hfg 10 rfl rfl rfl rfl ((OV.ad (show _=some (Value.slice (some q) ts.length c) by rw [← hq];rfl) rfl T.u39 T.z27 (by omega)).cast (u:=.pointer (some (q.add i))) (by rw [xN,Nat.mul_one])) (Htg 11 rfl rfl rfl rfl (OV.ai (v:=tgV y) rfl T.u27 rfl (fun _ hw=>hw.keeps _ _ hcy)) (Ho 12 rfl (fl':=true) rfl ?_)))))))));refine yY (WL.c0 (v:=.bool true) (vs:=[tgV x,tgV y]) (fun w' hw'=>(ahead_law x.l y.l (by rw [hlen x hxm,hyN]) x.a y.a x.c y.c (by rw [hlen x hxm];exact hN) w' ((hr.args x hxm).keeps hw'.keeps) (hry.keeps hw'.keeps)).mono (fun en w'' ⟨h8,h9⟩=>⟨by rw [h8,xO (str_lt hst hx hy (by omega))],h9⟩)) ?_);refine Hc (fun h=>by cases h) ?_;refine Hfg 13 rfl rfl rfl rfl (OV.not rfl) (Hf 14 rfl (OV.ao rfl rfl) (He (Xn (WC.bu (show _=some (Value.bool false) from by rfl) ?_))));refine Ck (Xb (Xn (Cr (Zm rfl (Zv (OV.bm (j:=1) rfl rfl (by omega)) (Za rfl (Nl ?_)))))));exact WX.bi (i+1) Y3 (fun w' hw=>⟨by omega,hw⟩) (by show ts.length - (i+1)<ts.length - i;omega)
  refine Hs 3 rfl rfl rfl rfl (Hs 4 rfl rfl rfl rfl (Hs 5 rfl rfl rfl rfl (Hs 6 rfl rfl rfl rfl (Hs 7 rfl rfl rfl rfl (Hs 8 rfl rfl rfl rfl (Hs 9 rfl rfl rfl rfl (Hs 10 rfl rfl rfl rfl (Hs 11 rfl rfl rfl rfl (Ho 12 rfl (fl':=true) rfl ?_)))))))));refine yX (Hc (fun h=>by cases h) ?_);refine Hs 13 rfl rfl rfl rfl (Hf 14 rfl (OV.ak rfl rfl) (He (Xn (WC.bu (show _=some (Value.bool false) from by rfl) ?_))));refine Ck (Xb (Xn (Cr (Zm rfl (Zv (OV.bm (j:=1) rfl rfl (by omega)) (Za rfl (Nl ?_)))))));exact WX.bi (i+1) Y3 (fun w' hw=>⟨by omega,hw⟩) (by show ts.length - (i+1)<ts.length - i;omega)
 refine Ce (Xe (Xe (Xh (Xn (Csr (Za rfl (Nn (WC.bg ?_))))))));exact WX.ret1 rfl rfl rfl (fun w' hw=>⟨rfl,hw.fr⟩)
theorem sol_const {c:Cl}(hv:VC c){FF:Nat→At→Prop}(hf:∀ i x,FF i x→factB x=true){r:List Tm}(h:Sol FF c (nV c) r):∀ t∈r,Jc1 t=true:=fun t ht=>by
 obtain ⟨i,hi⟩:=List.mem_iff_getElem?.1 ht;have hil:=(List.getElem?_eq_some_iff.1 hi).1;rw [h.len] at hil;obtain ⟨a,ha,hva⟩:=(hv.cvn.body (i:Int)).2 ⟨by omega,by omega⟩;obtain ⟨j,hj⟩:=List.mem_iff_getElem?.1 ha;obtain ⟨hF,hk⟩:=h.bd j a hj;have hx:=hf _ _ hF;have hgr:=fact_ground hx;unfold factB at hx;simp only [yA,decide_eq_true_eq] at hx;obtain ⟨_,_,h3,h4⟩:=chkA_zero.1 hx.1.1;obtain ⟨u,hu,huv,hun⟩:=mem_varsOf.1 hva
 have hb:becD (bnV r) u=t:=by
  unfold becD;rw [if_pos huv,Jmr,hun,if_pos (by omega),xN,hi];rfl
 rcases List.mem_cons.1 hu with rfl | hu
 ·have hb2:(appD (bnV r) a).b=t:=hb;rw [hb2] at h3;have hk2:=hk huv;rw [hb] at hk2;rcases h3 with h3 | h3 | h3
  ·rw [h3] at hk2;exact absurd rfl hk2
  ·unfold prinB at h3;simp only [yA] at h3;exact h3.1.1
  ·have h5:=hgr t (by rw [← hb2];simp [plc]);rw [h5] at h3;cases h3
 ·have hta:t∈(appD (bnV r) a).args:=by
   show t∈a.args.map _;exact List.mem_map.2 ⟨u,hu,hb⟩
  have h5:=h4 t hta;have h6:=hgr t (yB _ hta);unfold badB at h5;rw [h6] at h5
  simpa using h5
structure FG where
 oa:Option Addr
 oc:Nat
 o:List AG
 na:Option Addr
 nc:Nat
 n:List AG
 xa:Option Addr
 xc:Nat
 x:List AG
def fgC (f:FG):List Value:=[.slice f.oa f.o.length f.oc,.slice f.na f.n.length f.nc,.slice f.xa f.x.length f.xc]
structure RF (w:World) (f:FG):Prop where
 o:RA w f.oa f.o
 n:RA w f.na f.n
 x:RA w f.xa f.x
structure FS (ys:List AG):Prop where
 l:ys.length≤1048576
 y:∀ y∈ys,y.x.args.length≤1048576∧y.x.name.size≤1099511627776
abbrev mfL (ys:List AG)(n:Nat):List At:=(ys.take n).map fun y=>Jb6 y.x
theorem newer0 {w w':World}{I:Nat→Prop}{ws:World}{B ow:List Hw.Item}(hw:Sat w (fun _=>False) I ws (B++ow) w'):∀ b,DD B b→w.heap.size≤b:=fun b ⟨i,hi,hb⟩=>(hw.lt i (xA _ hi) b hb).2.2.resolve_left (fun f=>f)
theorem filled_calls (f:FG)(n:Nat)(ho:FS f.o)(hn:FS f.n)(hx:FS f.x)(w:World)(hN:Jc2 w)(hr:RF w f):Calls Tryz.prog 9 #[.agg (fgC f).toArray,.int .i64 (n:Int)] w fun e w'=>∃ g':BaseG,e=.returned (ptr g'.p)∧BS g' (0+(f.o.take n).length+(f.n.take n).length+(f.x.take n).length) (Jdd (mfL f.o n) (mfL f.n n) (mfL f.x n))∧Turns [] (baseA g') w w':=by
 refine Jbn (args:=[.agg (fgC f).toArray,.int .i64 (n:Int)]) (fun _=>False) Tryz.func9 rfl Tryz.ntmps9 rfl rfl ?_;refine Csr (WL.box rfl rfl rfl ?_);intro b2;refine Za rfl (Nn (Csr (WL.cT (ι:=BaseG) (vs:=[]) (vv:=fun g=>ptr g.p) (pp:=fun g=>BS g 0 []) [] (AA:=fun g=>baseA g) rfl (fun w' hw' _=>(bnew_calls w').mono (fun en w'' ⟨p,rb,h1,h2⟩=>⟨⟨p,none,none,0,[],rb,[]⟩,h1,new_bs p rb,h2⟩)) ?_)));rintro g1 bg1;obtain ⟨p,hpg1⟩:∃ p,g1.p=p:=⟨_,rfl⟩
 rw [hpg1];have hol:=ho.l;have hnl:=hn.l;have hxl:=hx.l;have hol2:(f.o.take n).length≤f.o.length:=by rw [xJ];omega
 have hnl2:(f.n.take n).length≤f.n.length:=by rw [xJ];omega
 have hxl2:(f.x.take n).length≤f.x.length:=by rw [xJ];omega
 refine Za rfl (Nn (Cs (Csr (Zm rfl (Zv (OV.i6 T.u35 rfl rfl) (Nn (WC.bu (show _=some (Value.bool false) from by rfl) ?_)))))));refine Ck (Xn (Csr (Zm rfl (Zv (OV.f0 0 rfl T.u24 rfl) (Zv (OV.ai (v:=.slice f.oa f.o.length f.oc) rfl T.u22 rfl (fun _ hw=>Jbh hw (xB _ yH) 0 _ rfl)) (Zm rfl ?_))))))
 refine WL.cT (ι:=BaseG) (vs:=[ptr p,.slice f.oa f.o.length f.oc,.int .i64 (n:Int)]) (vv:=fun _=>.tuple #[]) (pp:=fun g'=>BS g' (0+(f.o.take n).length) (Jel [] (mfL f.o n))∧g'.p=g1.p) (baseA g1) (AA:=fun g'=>baseA g') rfl (fun w' hw' hH=>by
  have h9:=Jku g1 _ _ bg1 f.o f.oa f.oc n (by omega) ho.y (by have:=ho.l;omega) w w' hw'.keeps (newer0 hw') hN hr.o hH;rw [hpg1] at h9 ⊢;exact h9) ?_
 rintro g2 ⟨bg2,hpg2⟩;rw [hpg1] at hpg2;refine Nn (Csr (Zm rfl ?_))
 refine WL.cT (ι:=BaseG) (vs:=[ptr p]) (vv:=fun _=>.int .i64 ((n4F _:Nat):Int)) (pp:=fun g'=>BS g' _ (turnF _)∧g'.p=p) (baseA g2) (AA:=fun g'=>baseA g') rfl (fun w' hw' hH=>by
  have h9:=Jnd g2 _ _ bg2 w' hH;rw [hpg2] at h9;exact h9) ?_
 rintro g3 ⟨bg3,hpg3⟩;refine Nn (Csr (Zm rfl ?_))
 refine WL.cT (ι:=BaseG) (vs:=[ptr p]) (vv:=fun _=>.int .i64 ((n4F _:Nat):Int)) (pp:=fun g'=>BS g' _ (turnF _)∧g'.p=p) (baseA g3) (AA:=fun g'=>baseA g') rfl (fun w' hw' hH=>by
  have h9:=Jnd g3 _ _ bg3 w' hH;rw [hpg3] at h9;exact h9) ?_
 rintro g4 ⟨bg4,hpg4⟩;refine Nn (Csr (Zm rfl (Zv (OV.f0 1 rfl T.u24 rfl) (Zv (OV.ai (v:=.slice f.na f.n.length f.nc) rfl T.u22 rfl (fun _ hw=>Jbh hw (xB _ yH) 1 _ rfl)) (Zm rfl ?_)))))
 refine WL.cT (ι:=BaseG) (vs:=[ptr p,.slice f.na f.n.length f.nc,.int .i64 (n:Int)]) (vv:=fun _=>.tuple #[]) (pp:=fun g'=>BS g' (_+(f.n.take n).length) (Jel _ (mfL f.n n))∧g'.p=g4.p) (baseA g4) (AA:=fun g'=>baseA g') rfl (fun w' hw' hH=>by
  have h9:=Jku g4 _ _ bg4 f.n f.na f.nc n (by omega) hn.y (by have:=hn.l;omega) w w' hw'.keeps (newer0 hw') hN hr.n hH;rw [hpg4] at h9 ⊢;exact h9) ?_
 rintro g5 ⟨bg5,hpg5⟩;rw [hpg4] at hpg5;refine Nn (Csr (Zm rfl ?_))
 refine WL.cT (ι:=BaseG) (vs:=[ptr p]) (vv:=fun _=>.int .i64 ((n4F _:Nat):Int)) (pp:=fun g'=>BS g' _ (turnF _)∧g'.p=p) (baseA g5) (AA:=fun g'=>baseA g') rfl (fun w' hw' hH=>by
  have h9:=Jnd g5 _ _ bg5 w' hH;rw [hpg5] at h9;exact h9) ?_
 rintro g6 ⟨bg6,hpg6⟩;refine Nn (Csr (Zm rfl (Zv (OV.f0 2 rfl T.u24 rfl) (Zv (OV.ai (v:=.slice f.xa f.x.length f.xc) rfl T.u22 rfl (fun _ hw=>Jbh hw (xB _ yH) 2 _ rfl)) (Zm rfl ?_)))))
 refine WL.cT (ι:=BaseG) (vs:=[ptr p,.slice f.xa f.x.length f.xc,.int .i64 (n:Int)]) (vv:=fun _=>.tuple #[]) (pp:=fun g'=>BS g' (_+(f.x.take n).length) (Jel _ (mfL f.x n))∧g'.p=g6.p) (baseA g6) (AA:=fun g'=>baseA g') rfl (fun w' hw' hH=>by
  have h9:=Jku g6 _ _ bg6 f.x f.xa f.xc n (by omega) hx.y (by have:=hx.l;omega) w w' hw'.keeps (newer0 hw') hN hr.x hH;rw [hpg6] at h9 ⊢;exact h9) ?_
 rintro g7 ⟨bg7,hpg7⟩;rw [hpg6] at hpg7;refine Nn (Csr (Zm rfl (Za rfl (Nn (WC.bg ?_)))));exact WX.ret1 rfl rfl rfl (fun w' hw=>⟨g7,by rw [hpg7],bg7,(hw.pik [baseA g7,[oQ b2 (fgC f) 24]] [0] 2).turned0⟩)
section
open Go.ChangeShapes Go.WideShapes Go.ChangeAt Go.RowKit
variable {H:Type} {enc:TypeId × Value→H} {w:World} {base:Nat} {spare:Nat→Bool} {held:Bool} {r:Reach} {b0:Nat}
def wtF (f:FG):Nat:=(f.o.map wtA).sum+(f.n.map wtA).sum+(f.x.map wtA).sum+4
set_option maxRecDepth 100000 in
theorem open_facts {v:Value}{d:DataW H}{p:List MemPlace}(hv:Value.okWide Tryz.prog w r b0 24 v)(h:DataW.Trod enc Tryz.prog w base spare held 24 v d p):
  ∃ f:FG,v=.agg (fgC f).toArray∧RF w f∧wtF f≤Rows.uptoBulk d:=by
 obtain ⟨fuel,hf0⟩:=h
 have ha:∃ cs,v=.agg cs:=by
  unfold Value.okWide at hv;rw [T.u24] at hv;cases v <;> simp_all
 obtain ⟨cs,rfl⟩:=ha;obtain ⟨cs⟩:=cs;have hf1:DataW.trod enc Tryz.prog w base spare held fuel 24 cs=some (d,p):=hf0;obtain ⟨xs,n,rfl,hx,hl,hxs,hf⟩:=DataW.trod_struct T.u24 hf1;have hl3:cs.length=3:=by rw [hl];kernel_rfl
 have cL:Program.cellsOf Tryz.prog 22=1:=by kernel_rfl
 match cs,hl3 with
 | [v0,v1,v2],_=>
  match xs,hxs with
  | [x0,x1,x2],_=>
   have k0:DataW.trod enc Tryz.prog w base spare held n 22 [v0]=some x0:=by
    have k:DataW.trod enc Tryz.prog w base spare held n 22 (List.take (Program.cellsOf Tryz.prog 22) (List.drop 0 [v0,v1,v2]))=some x0:=hf 0 _ rfl;rw [cL] at k;exact k
   have k1:DataW.trod enc Tryz.prog w base spare held n 22 [v1]=some x1:=by
    have k:DataW.trod enc Tryz.prog w base spare held n 22 (List.take (Program.cellsOf Tryz.prog 22) (List.drop 1 [v0,v1,v2]))=some x1:=hf 1 _ rfl;rw [cL] at k;exact k
   have k2:DataW.trod enc Tryz.prog w base spare held n 22 [v2]=some x2:=by
    have k:DataW.trod enc Tryz.prog w base spare held n 22 (List.take (Program.cellsOf Tryz.prog 22) (List.drop 2 [v0,v1,v2]))=some x2:=hf 2 _ rfl;rw [cL] at k;exact k
   obtain ⟨oa,oc,o,e0,r0,b0⟩:=Jim k0;obtain ⟨na,nc,nn,e1,r1,b1⟩:=Jim k1;obtain ⟨xa,xc,xx,e2,r2,b2⟩:=Jim k2;simp only [List.cons.injEq,and_true] at e0 e1 e2;subst e0;subst e1;subst e2;simp only [yC,yD,Prod.mk.injEq] at hx;refine ⟨⟨oa,oc,o,na,nc,nn,xa,xc,xx⟩,rfl,⟨r0,r1,r2⟩,?_⟩;rw [hx.1];simp only [Rows.uptoBulk,Rows.uptoBulkAll,wtF];omega
theorem fs_ok {ys:List AG}(h:(ys.map wtA).sum≤1048576):FS ys:=by
 have h1:=Jot wtA (k:=1) (fun y=>by unfold wtA;omega) ys;refine ⟨by omega,fun y hy=>?_⟩;have h2:=le_sum wtA hy;have h3:wtA y=y.x.name.size+y.x.args.length+7:=rfl;omega
theorem facts_ok {f:FG}(h:wtF f≤1048576):FS f.o∧FS f.n∧FS f.x:=by
 unfold wtF at h;exact ⟨fs_ok (by omega),fs_ok (by omega),fs_ok (by omega)⟩
end
theorem snapK {w w1 w2:World}{ow:List Hw.Item}(hw:Sat w (fun _=>False) (fun b=>b<w1.heap.size∧∀ i∈([]:List Hw.Item),¬ i.D b) w1 ow w2):Keeps w1 w2:=fun a v h=>by
 have h1:=World.block_lt_of_cell? w1 _ h;have h2:=(hw.snap a.block ⟨h1,fun i hi=>by cases hi⟩).2;unfold World.cell? at h ⊢;rw [h2];exact h
theorem snapB {w w1 w2:World}{A ow:List Hw.Item}(hw:Sat w (fun _=>False) (fun b=>b<w1.heap.size∧∀ i∈([]:List Hw.Item),¬ i.D b) w1 (A++ow) w2):∀ b,DD A b→w1.heap.size≤b:=fun b ⟨i,hi,hb⟩=>by
 have h:=(hw.lt i (xA _ hi) b hb).2.1;rcases Nat.lt_or_ge b w1.heap.size with h1 | h1
 ·exact absurd ⟨h1,fun i hi=>by cases hi⟩ h
 ·exact h1
theorem Jf8 {O N X:List At}:∀ q∈Jdd O N X,factB q.1=true:=fun q hq=>(mem_filled.1 hq).1
theorem most_le {n:Nat}(h:n≤8):mostN n≤60:=by
 have h2:∀ m:Fin 9,mostN m.1≤60:=by decide
 exact h2 ⟨n,by omega⟩
theorem Ji7 {α:Type}(l:List α)(n:Nat):(l.take n).length≤n:=by rw [xJ];omega
def LdOK (F:List (At × Nat))(c:Cl)(n l:Nat)(L:List (List Tm)):Prop:=Str cmpR L∧∀ r,r∈L↔Sol (FFs F (some l)) c n r
def CntOK (F:List (At × Nat))(c:Cl)(n:Nat)(lo:List (List Tm))(lead cnt:Nat):Prop:=∃ Ls:Nat→List (List Tm),(∀ l,l<lead→LdOK F c n l (Ls l))∧cnt=lo.length+((List.range lead).map fun l=>(Ls l).length).sum
theorem CntOK.zero {F:List (At × Nat)}{c:Cl}{n:Nat}{lo:List (List Tm)}:CntOK F c n lo 0 lo.length:=⟨fun _=>[],fun l h=>absurd h (by omega),by simp⟩
theorem old_sols {O N X:List At}{c:Cl}{n:Nat}(r:List Tm):Sol (FFs (Jdd O [] []) none) c n r↔Sol (fun _ x=>x∈selF (Jdd O N X) 1) c n r:=Sol.congr fun i x=>by
 show x∈selF (Jdd O [] []) 3↔_;rw [sel_filled,sel_old];simp
theorem CntOK.done {O N X:List At}{c:Cl}{n cnt:Nat}{la lo:List (List Tm)}(sa:Str cmpR la)(so:Str cmpR lo)(ma:∀ r,r∈la↔Sol (FFs (Jdd O N X) none) c n r)(mo:∀ r,r∈lo↔Sol (FFs (Jdd O [] []) none) c n r)(h:CntOK (Jdd O N X) c n lo c.bd.length cnt):cnt=la.length:=by
 obtain ⟨Ls,h1,h2⟩:=h;rw [h2];exact parts_count (filled_parts O N X) (Str.nodup Jnn sa) (Str.nodup Jnn so) (fun l hl=>Str.nodup Jnn (h1 l hl).1) ma (fun r=>(mo r).trans (old_sols r)) (fun l hl r=>by rw [leadF_eq];exact (h1 l hl).2 r)
theorem most_smallF {n:Nat}(h:n≤8):(3*mostN n) ^ n≤1048576:=by
 have h2:∀ m:Fin 9,(3*mostN m.1) ^ m.1≤1048576:=by decide +kernel
 exact h2 ⟨n,by omega⟩
theorem pow_smallF {a n m:Nat}(h:a≤3*m)(h2:(3*m) ^ n≤1048576):a ^ n≤1048576:=Nat.le_trans (Nat.pow_le_pow_left h n) h2
theorem FS.nil:FS [] where
 l:=by simp
 y:=fun y hy=>by cases hy
theorem RA.nil0 (w:World):RA w none []:=⟨fun _=>rfl,fun q h=>(by cases h),fun y hy=>(by cases hy)⟩
structure NxG where
 a:Option Addr
 c:Nat
 ys:List Bd
 ok:Bool
def NxOK (p:At)(fs:List AG)(s:Bn)(z:NxG):Prop:=(z.ok=true→∃ y∈fs,Jcx p y.x s=some (sb z.ys))∧(z.ok=false→z.ys=[])
def BndOK (U:At→Prop)(c:Cl)(i:Nat)(z:NxG):Prop:=(SB (sb z.ys)∧∀ v,Dm (sb z.ys) v→0≤v∧v<72)∧(z.ok=true→∃ xs:List At,xs.length=i∧(∀ x∈xs,U x)∧Jmq ((c.bd.take i).zip xs) []=some (sb z.ys))
theorem dm_nil {v:Int}(h:Dm ([]:Bn) v):False:=by
 have h2:(none:Option Tm).isSome=true:=h;cases h2
theorem BndOK.zero {U:At→Prop}{c:Cl}:BndOK U c 0 ⟨none,0,[],true⟩:=⟨⟨List.Pairwise.nil,fun v hv=>(dm_nil hv).elim⟩,fun _=>⟨[],rfl,fun x hx=>(by cases hx),rfl⟩⟩
theorem BndOK.next {U:At→Prop}{c:Cl}{i:Nat}{z z2:NxG}{a:At}{fs:List AG}(h:BndOK U c i z)(hok:z.ok=true)(ha:c.bd[i]?=some a)(hv:∀ v∈Jax a,0≤v∧v<(72:Int))(hf:∀ y∈fs,U y.x)(h2:NxOK a fs (sb z.ys) z2):BndOK U c (i+1) z2:=by
 obtain ⟨⟨h3,h4⟩,h5⟩:=h;cases hz:z2.ok with
 | false=>
  have e:=h2.2 hz;refine ⟨?_,fun h=>?_⟩
  ·rw [e];exact ⟨List.Pairwise.nil,fun v hv=>(dm_nil hv).elim⟩
  ·rw [hz] at h;cases h
 | true=>
  obtain ⟨y,hy,hm⟩:=h2.1 hz;refine ⟨match_next h3 h4 hv hm,fun _=>?_⟩;obtain ⟨xs,e1,e2,e3⟩:=h5 hok;have hi:=(List.getElem?_eq_some_iff.1 ha).1;refine ⟨xs++[y.x],by simp [e1],fun x hx=>?_,?_⟩
  ·rcases List.mem_append.1 hx with h | h
   ·exact e2 x h
   ·simp only [xI] at h;rw [h];exact hf y hy
  ·rw [Jb4 ha,List.zip_append (by rw [xJ];omega)];show Jmq (_++[(a,y.x)]) []=_;rw [chainM_snoc,e3];exact hm
theorem BndOK.s72 {U:At→Prop}{c:Cl}{i:Nat}{z:NxG}(h:BndOK U c i z):z.ys.length≤72:=Jmz h.1.1 h.1.2
def FinOK (U:At→Prop)(c:Cl)(z:NxG):Prop:=(SB (sb z.ys)∧∀ v,Dm (sb z.ys) v→0≤v∧v<72)∧(z.ok=true→∃ xs:List At,xs.length=c.bd.length∧(∀ x∈xs,U x)∧Jmq (c.bd.zip xs) []=some (sb z.ys))
theorem FinOK.not {U:At→Prop}{c:Cl}{i:Nat}{z:NxG}(h:BndOK U c i z)(hn:¬ z.ok=true):FinOK U c z:=⟨h.1,fun h=>absurd h hn⟩
theorem FinOK.all {U:At→Prop}{c:Cl}{i:Nat}{z:NxG}(h:BndOK U c i z)(hi:i=c.bd.length):FinOK U c z:=by
 subst hi;refine ⟨h.1,fun hz=>?_⟩;have h2:=h.2 hz;rwa [List.take_length] at h2
instance:Inhabited AG:=⟨⟨default,none,0⟩⟩
section
variable {α:Type} (f:α→α→Int) (d:α)
def kgB (ts:List α)(p:Nat):Bool:=decide (p=0) || !decide (f (ts.getD p d) (ts.getD (p - 1) d)=0)
def kgL (ts:List α)(j:Nat):List Nat:=(List.range j).filter (kgB f d ts)
def kgT (ts:List α)(j:Nat):List α:=(kgL f d ts j).map fun p=>ts.getD p d
def dupG (ts:List α):List α:=kgT f d ts ts.length
theorem kgT_le (ts:List α)(j:Nat):(kgT f d ts j).length≤j:=by unfold kgT;rw [xE];exact Jej _ _
theorem Jkg (ts:List α)(j:Nat):kgT f d ts (j+1)=kgT f d ts j++if kgB f d ts j=true then [ts.getD j d] else []:=by
 unfold kgT kgL;rw [Jev,xU]
 split <;> rfl
theorem Joa {ts:List α}:∀ {j:Nat},j≤ts.length→(∀ p,p<j→kgB f d ts p=true)→kgT f d ts j=ts.take j
 | 0,_,_=>rfl
 | j+1,hj,h=>by
  rw [Jkg,if_pos (h j (by omega)),Joa (by omega) fun p hp=>h p (by omega)];obtain ⟨x,hx⟩:∃ x,ts[j]?=some x:=⟨_,xD (by omega)⟩
  rw [Jb4 hx,yF,hx];rfl
theorem dupG_sub (ts:List α):(dupG f d ts).Sublist ts:=by
 unfold dupG kgT kgL
 conv=>rhs;rw [← getD_range d ts]
 exact List.filter_sublist.map _
theorem dupG_le (ts:List α):(dupG f d ts).length≤ts.length:=(dupG_sub f d ts).length_le
end
theorem kg_ok {α β:Type}{g:β→β→Int}(hg:CmpOK g)(m:α→β)(d:α){ts:List α}(hs:ts.Pairwise fun x y=>¬ g (m y) (m x)<0):∀ j,j≤ts.length→Str g ((kgT (fun x y=>g (m x) (m y)) d ts j).map m)∧(0<j→∃ l,(kgT (fun x y=>g (m x) (m y)) d ts j).map m=l++[m (ts.getD (j - 1) d)])∧∀ r,r∈(kgT (fun x y=>g (m x) (m y)) d ts j).map m↔r∈(ts.take j).map m
 | 0,_=>⟨List.Pairwise.nil,fun h=>absurd h (by omega),fun r=>by simp [kgT,kgL]⟩
 | j+1,hj=>by
  obtain ⟨h1,h2,h3⟩:=kg_ok hg m d hs j (by omega);obtain ⟨x,hx⟩:∃ x,ts[j]?=some x:=⟨_,xD (by omega)⟩
  have hgx:ts.getD j d=x:=by rw [yF,hx];rfl
  rw [Jkg,hgx,Jb4 hx]
  by_cases hk:kgB (fun x y=>g (m x) (m y)) d ts j=true
  ·rw [if_pos hk,xU,xU];refine ⟨List.pairwise_append.2 ⟨h1,by simp,fun a ha b hb=>?_⟩,fun _=>⟨_,by rw [Nat.add_sub_cancel,hgx];rfl⟩,fun r=>by rw [xT,xT,h3]⟩;simp only [yC,yD,xI] at hb;subst hb;rcases Nat.eq_zero_or_pos j with rfl | h0
   ·simp [kgT,kgL] at ha
   obtain ⟨l,hm⟩:=h2 h0;obtain ⟨z,hz⟩:∃ z,ts[j - 1]?=some z:=⟨_,xD (by omega)⟩
   have hgz:ts.getD (j - 1) d=z:=by rw [yF,hz];rfl
   have hzx:g (m z) (m x)<0:=by
    unfold kgB at hk;rw [hgx,hgz,xR,decide_eq_true_eq] at hk
    have hne:g (m x) (m z)≠0:=by
     rcases hk with h | h
     ·omega
     ·simpa using h
    have hnl:¬ g (m x) (m z)<0:=by
     have h5:=List.pairwise_iff_getElem.1 hs (j - 1) j (by omega) (by omega) (by omega);rw [xD (by omega)] at hx hz;rw [← xH hx,← xH hz];exact h5
    have h7:g (m z) (m x)=- g (m x) (m z):=hg.anti (m x) (m z);omega
   rw [hm,hgz] at ha h1;rcases List.mem_append.1 ha with h | h
   ·exact hg.tr _ _ _ ((List.pairwise_append.1 h1).2.2 a h _ (by simp)) hzx
   ·simp only [xI] at h;rw [h];exact hzx
  ·rw [if_neg hk,xZ];have hk2:kgB (fun x y=>g (m x) (m y)) d ts j=false:=by simpa using hk
   unfold kgB at hk2;rw [Bool.or_eq_false_iff] at hk2;have h0:0<j:=by have:=hk2.1;simp at this;omega
   have he:m x=m (ts.getD (j - 1) d):=by
    have h5:=hk2.2;rw [hgx] at h5;exact hg.eq _ _ (by simpa using h5)
   obtain ⟨l,hm⟩:=h2 h0;refine ⟨h1,fun _=>⟨l,by rw [Nat.add_sub_cancel,hgx,he];exact hm⟩,fun r=>?_⟩;rw [h3,xU,xT];refine ⟨Or.inl,fun h=>h.elim id fun h=>?_⟩;simp only [yC,yD,xI] at h;rw [h,he,← h3,hm];simp
theorem dupG_ok {α β:Type}{g:β→β→Int}(hg:CmpOK g)(m:α→β)(d:α){ts:List α}(hs:ts.Pairwise fun x y=>¬ g (m y) (m x)<0):Str g ((dupG (fun x y=>g (m x) (m y)) d ts).map m)∧∀ r,r∈(dupG (fun x y=>g (m x) (m y)) d ts).map m↔r∈ts.map m:=by
 obtain ⟨h1,_,h3⟩:=kg_ok hg m d hs ts.length (Nat.le_refl _);rw [List.take_length] at h3;exact ⟨h1,h3⟩
abbrev fAG (x y:AG):Int:=cmpA x.x y.x
abbrev kaT (ts:List AG)(j:Nat):List AG:=kgT fAG default ts j
abbrev kaB (ts:List AG)(p:Nat):Bool:=kgB fAG default ts p
abbrev dupA (ts:List AG):List AG:=dupG fAG default ts
theorem flat_setA {xs:List AG}{j:Nat}{y:AG}(hj:j<xs.length):(xs.flatMap agC).take (j*5)++agC y++(xs.flatMap agC).drop (j*5+(agC y).length)=(xs.set j y).flatMap agC:=by
 induction xs generalizing j with
 | nil=>simp at hj
 | cons x xs ih=>
  cases j with
  | zero=>
   simp only [Nat.zero_mul,List.take_zero,xY,xM,List.set_cons_zero,List.flatMap_cons];rw [show (agC y).length=(agC x).length by rw [Jfb,Jfb],List.drop_left]
  | succ j=>
   have h1:=ih (j:=j) (by simpa using hj);have hl:(agC x).length=5:=Jfb x;rw [List.set_cons_succ,List.flatMap_cons,List.flatMap_cons,← h1];rw [show (j+1)*5=(agC x).length+j*5 by omega,List.take_length_add_append,yE,List.drop_length_add_append,xF,xF,xF]
theorem fireE_calls (x y:At)(a1 a2:Option Addr)(c1 c2:Nat)(h1:x.args.length≤1099511627776)(h2:y.args.length≤1099511627776)(w:World)(hr1:RT w a1 x.args)(hr2:RT w a2 y.args):Calls Tryz.prog 60 #[atV x a1 c1,atV y a2 c2] w fun e w'=>e=.returned (.bool (decide (cmpA x y=0)))∧Fr0 w w':=by
 refine Jbn (args:=[atV x a1 c1,atV y a2 c2]) (fun _=>False) Tryz.func60 rfl Tryz.ntmps60 rfl rfl ?_;refine Csr (WL.box rfl rfl rfl ?_);intro b2;refine WL.box rfl rfl rfl ?_;intro b3;refine Za rfl (Nn (Csr (Zv (OV.lN (cs:=atC x a1 c1) rfl T.u29 rfl T.z29 yI) (Zv (OV.lN (cs:=atC y a2 c2) rfl T.u29 rfl T.z29 yH) (WL.aw (v:=.int .i64 (cmpA x y)) (by kernel_rfl) rfl rfl (fun w' hw'=>Jgv x y a1 a2 c1 c2 h1 h2 w' (hr1.keeps hw'.keeps) (hr2.keeps hw'.keeps)) ?_)))));refine Zv (OV.dp rfl rfl) (Za rfl (Nn (WC.bg ?_)));exact WX.ret1 rfl rfl rfl (fun w' hw=>⟨rfl,hw.fr⟩)
theorem flat_take {α:Type}{en:α→List Value}{k:Nat}(hk:∀ x,(en x).length=k):∀ (l:List α) (n:Nat),(l.flatMap en).take (n*k)=(l.take n).flatMap en
 | [],n=>by simp
 | x::l,0=>by simp
 | x::l,n+1=>by
  rw [List.flatMap_cons,List.take_succ_cons,List.flatMap_cons,Nat.succ_mul,Nat.add_comm,← hk x,List.take_length_add_append,hk x,flat_take hk l n]
set_option maxHeartbeats 1000000 in
theorem Jd4 (ts:List AG)(hsz:∀ y∈ts,y.x.args.length≤1099511627776)(b c:Nat)(h2:2≤ts.length)(hc:ts.length≤c)(hm:ts.length≤1099511627776)(w:World)(hA:Holds (rowAt (some ⟨b,0,none⟩) c ts::argsA ts) w):Calls Tryz.prog 59 #[.slice (some ⟨b,0,none⟩) ts.length c,(.func (.func 60) #[] #[])] w fun e w'=>e=.returned (.slice (some ⟨b,0,none⟩) (dupA ts).length c)∧Turns (rowAt (some ⟨b,0,none⟩) c ts::argsA ts) (rowAt (some ⟨b,0,none⟩) c (dupA ts)::argsA (dupA ts)) w w':=by
 refine Jdu hA (args:=[.slice (some ⟨b,0,none⟩) ts.length c,(.func (.func 60) #[] #[])]) Tryz.func59 rfl Tryz.ntmps59 rfl rfl ?_;refine Csr (Za rfl (Nn (Cs (Csr (Zm rfl ?_)))))
 first
 | (refine WL.val (OV.ae rfl T.u22) rfl ?_;trace "ALT Jd4#0 c04edde8 0")
 | (refine WL.val (OV.cy rfl T.u22) rfl ?_;trace "ALT Jd4#0 c04edde8 1")
 refine Zv ((OV.cq rfl rfl).cast (u:=.bool false) (congrArg Value.bool (xP (by omega)))) (Nn (WC.bu (show _=some (Value.bool false) from by rfl) ?_));refine Ck (Xn (Cs (Csr (Za rfl (Nn (Cb ?_))))))
 refine WC.cg (fun (i:Nat)=>[(0,.slice (some ⟨b,0,none⟩) ts.length c),(1,(.func (.func 60) #[] #[])),(5,.int .i64 (i:Int))])
   (fun i w'=>(1≤i∧i≤ts.length∧∀ p,p<i→kaB ts p=true)∧SatA w (rowAt (some ⟨b,0,none⟩) c ts::argsA ts) (row 29 5 (some ⟨b,0,none⟩) ts.length c (ts.flatMap agC)::argsA ts) w')
   (fun i=>ts.length - i) 1 Y3 (fun w' hw=>⟨⟨by omega,by omega,fun p hp=>by (obtain rfl:p=0:=(by omega));rfl⟩,hw⟩) ?_
 intro i;refine WC.pure (fun hi=>?_);obtain ⟨hi1,hi,hK⟩:=hi;refine Cs (Csr (Zm rfl (Zm rfl ?_)))
 first
 | (refine WL.val (OV.ae rfl T.u22) rfl ?_;trace "ALT Jd4#1 c04edde8 0")
 | (refine WL.val (OV.cy rfl T.u22) rfl ?_;trace "ALT Jd4#1 c04edde8 1")
 refine Zv (OV.cq rfl rfl) (Nn ?_);refine Cc rfl (fun c15=>?_) (fun c15=>?_)
 ·refine Ck (Xn (Cs (Cb (Cs ?_))));obtain ⟨y,hy⟩:∃ y,ts[i]?=some y:=⟨_,xD (by omega)⟩
  obtain ⟨z,hz⟩:∃ y,ts[i - 1]?=some y:=⟨_,xD (by omega)⟩
  have hgy:ts.getD i default=y:=by rw [yF,hy];rfl
  have hgz:ts.getD (i - 1) default=z:=by rw [yF,hz];rfl
  refine Hq [10] (m:=11) rfl ?_;refine Hf 0 rfl (OV.au rfl) (Hf 1 rfl (OV.au rfl) (Hf 2 rfl (OV.au rfl) (Hf 3 rfl ((OV.ad rfl rfl T.u22 T.z29 (by omega)).cast (u:=.pointer (some ⟨b,(i)*5,none⟩)) (by rw [Jan];congr 3;omega)) ?_)));refine Ht 4 rfl (OV.aj (cs:=agC y) rfl T.u29 rfl T.z29 (fun _ hw j v hj=>by have h:=Jc5 hw rfl yH ((i)*5+j) v (by rw [Jco Jfb ts (i) j y (hy) (by have:=(List.getElem?_eq_some_iff.1 hj).1;exact this),hj]);rw [Jan,xM] at h;rw [Jan];exact h)) ?_;refine Hf 5 rfl (OV.au rfl) (Hf 6 rfl (OV.au rfl) (Hf 7 rfl ((OV.k7 rfl rfl (by omega)).cast (u:=.int .i64 ((i - 1:Nat):Int)) (by congr 1;omega)) (Hf 8 rfl ((OV.ad rfl rfl T.u22 T.z29 (by omega)).cast (u:=.pointer (some ⟨b,(i - 1)*5,none⟩)) (by rw [Jan];congr 3;omega)) ?_)));refine Ht 9 rfl (OV.aj (cs:=agC z) rfl T.u29 rfl T.z29 (fun _ hw j v hj=>by have h:=Jc5 hw rfl yH ((i - 1)*5+j) v (by rw [Jco Jfb ts (i - 1) j z (hz) (by have:=(List.getElem?_eq_some_iff.1 hj).1;exact this),hj]);rw [Jan,xM] at h;rw [Jan];exact h)) ?_;refine Ho 10 rfl (fl':=true) rfl ?_;refine WL.ez (f:=60) (caps:=[]) (vs:=[atV y.x y.a y.c,atV z.x z.a z.c]) (v:=.bool (decide (cmpA y.x z.x=0))) (by kernel_rfl) rfl rfl rfl (fun w' hw'=>fireE_calls y.x z.x y.a z.a y.c z.c (hsz y (xC hy)) (hsz z (xC hz)) w' (RT.of_row (c:=y.c) rfl hw' (yV (List.mem_map.2 ⟨y,xC hy,rfl⟩))) (RT.of_row (c:=z.c) rfl hw' (yV (List.mem_map.2 ⟨z,xC hz,rfl⟩)))) ?_;refine Hc (fun h=>by cases h) ?_;refine He (Xn ?_);refine Cc rfl (fun c28=>?_) (fun c28=>?_)
  ·refine Csr (Zm rfl (Zm rfl (Zv (OV.sliceFromN rfl T.u22 T.z29 rfl (by omega) (by omega)) (Za rfl (Nn (Cs (Csr (Za rfl (Nn (Cb ?_))))))))))
   have hnk:kaB ts i=false:=by
    unfold kaB kgB;rw [hgy,hgz,Bool.or_eq_false_iff];exact ⟨xP (by omega),by simpa using c28⟩
   have hall:kaT ts i=ts.take i:=Joa fAG default hi hK;have hi1n:kaT ts (i+1)=ts.take i:=by unfold kaT;rw [Jkg,if_neg (by rw [show kgB fAG default ts i=false from hnk];simp),xZ];exact hall
   clear hgy hgz c28 hy hz;obtain ⟨i0,rfl⟩:∃ j,j=i:=⟨i,rfl⟩
   refine WC.ky (fun (k:Nat) (C:List AG)=>[(0,.slice (some ⟨b,0,none⟩) ts.length c),(1,(.func (.func 60) #[] #[])),(5,.int .i64 ((kaT ts (i0+k)).length:Nat)),(6,.slice (some ⟨b,i0*5,none⟩) (ts.length - i0) (c - i0)),(7,.int .i64 (k:Int))])
     (fun k C w'=>((1≤k∧k≤ts.length - i0∧(kaT ts (i0+k)).length<i0+k∧C.length=ts.length)∧C.take (kaT ts (i0+k)).length=kaT ts (i0+k)∧∀ p,i0+k≤p+1→C[p]?=ts[p]?)∧SatA w (rowAt (some ⟨b,0,none⟩) c ts::argsA ts) (row 29 5 (some ⟨b,0,none⟩) ts.length c (C.flatMap agC)::argsA ts) w')
     (fun k _=>ts.length - i0 - k) 1 ts ⟨rfl,rfl,by rw [hi1n,xJ,Nat.min_eq_left hi];rfl,rfl,rfl,trivial⟩ (fun w' hw=>⟨⟨⟨by omega,by omega,by rw [hi1n,xJ];omega,rfl⟩,by rw [hi1n,xJ,Nat.min_eq_left hi],fun p _=>rfl⟩,hw⟩) ?_
   intro k C;refine WC.pure (fun hk=>?_);clear hK;obtain ⟨⟨hk1,hk,hK,hCl⟩,hC1,hC2⟩:=hk;refine Cs (Csr (Zm rfl (Zm rfl ?_)))
   first
   | (refine WL.val (OV.ae rfl T.u22) rfl ?_;trace "ALT Jd4#2 c04edde8 0")
   | (refine WL.val (OV.cy rfl T.u22) rfl ?_;trace "ALT Jd4#2 c04edde8 1")
   refine Zv (OV.cq rfl rfl) (Nn ?_);refine Cc rfl (fun c35=>?_) (fun c35=>?_)
   ·refine Ck (Xn (Cs (Cb (Cs ?_))));obtain ⟨y,hy⟩:∃ y,ts[i0+k]?=some y:=⟨_,xD (by omega)⟩
    obtain ⟨z,hz⟩:∃ y,ts[i0+k - 1]?=some y:=⟨_,xD (by omega)⟩
    have hgy:ts.getD (i0+k) default=y:=by rw [yF,hy];rfl
    have hgz:ts.getD (i0+k - 1) default=z:=by rw [yF,hz];rfl
    have hkle:=kgT_le fAG default ts (i0+k);refine Hq [10] (m:=12) rfl ?_;refine Hf 0 rfl (OV.au rfl) (Hf 1 rfl (OV.au rfl) (Hf 2 rfl (OV.au rfl) (Hf 3 rfl ((OV.ad rfl rfl T.u22 T.z29 (by omega)).cast (u:=.pointer (some ⟨b,(i0+k)*5,none⟩)) (by rw [Jan];congr 3;omega)) ?_)));refine Ht 4 rfl (OV.aj (cs:=agC y) rfl T.u29 rfl T.z29 (fun _ hw j v hj=>by have h:=Jc5 hw rfl yH ((i0+k)*5+j) v (by rw [Jco Jfb C (i0+k) j y (by rw [hC2 (i0+k) (by omega),hy]) (by have:=(List.getElem?_eq_some_iff.1 hj).1;exact this),hj]);rw [Jan,xM] at h;rw [Jan];exact h)) ?_;refine Hf 5 rfl (OV.au rfl) (Hf 6 rfl (OV.au rfl) (Hf 7 rfl ((OV.k7 rfl rfl (by omega)).cast (u:=.int .i64 ((k - 1:Nat):Int)) (by congr 1;omega)) (Hf 8 rfl ((OV.ad rfl rfl T.u22 T.z29 (by omega)).cast (u:=.pointer (some ⟨b,(i0+k - 1)*5,none⟩)) (by rw [Jan];congr 3;omega)) ?_)));refine Ht 9 rfl (OV.aj (cs:=agC z) rfl T.u29 rfl T.z29 (fun _ hw j v hj=>by have h:=Jc5 hw rfl yH ((i0+k - 1)*5+j) v (by rw [Jco Jfb C (i0+k - 1) j z (by rw [hC2 (i0+k - 1) (by omega),hz]) (by have:=(List.getElem?_eq_some_iff.1 hj).1;exact this),hj]);rw [Jan,xM] at h;rw [Jan];exact h)) ?_;refine Ho 10 rfl (fl':=true) rfl ?_;refine WL.ez (f:=60) (caps:=[]) (vs:=[atV y.x y.a y.c,atV z.x z.a z.c]) (v:=.bool (decide (cmpA y.x z.x=0))) (by kernel_rfl) rfl rfl rfl (fun w' hw'=>fireE_calls y.x z.x y.a z.a y.c z.c (hsz y (xC hy)) (hsz z (xC hz)) w' (RT.of_row (c:=y.c) rfl hw' (yV (List.mem_map.2 ⟨y,xC hy,rfl⟩))) (RT.of_row (c:=z.c) rfl hw' (yV (List.mem_map.2 ⟨z,xC hz,rfl⟩)))) ?_;refine Hc (fun h=>by cases h) ?_;refine Hf 11 rfl (OV.not rfl) (He (Xn ?_));refine Cc rfl (fun c49=>?_) (fun c49=>?_)
    ·refine Csr (Zm rfl (Zm rfl (Zm rfl (Zm rfl (Zv ((OV.ad rfl rfl T.u22 T.z29 (by omega)).cast (u:=.pointer (some ⟨b,(i0+k)*5,none⟩)) (by rw [Jan];congr 3;omega)) ?_)))));refine WL.val (OV.aj (cs:=agC y) rfl T.u29 rfl T.z29 (fun _ hw j v hj=>by have h:=Jc5 hw rfl yH ((i0+k)*5+j) v (by rw [Jco Jfb C (i0+k) j y (by rw [hC2 (i0+k) (by omega),hy]) (by have:=(List.getElem?_eq_some_iff.1 hj).1;exact this),hj]);rw [Jan,xM] at h;rw [Jan];exact h)) rfl ?_;refine Zv ((OV.ad rfl rfl T.u22 T.z29 (by omega)).cast (u:=.pointer (some ⟨b,((kaT ts (i0+k)).length)*5,none⟩)) (by rw [Jan];congr 3;omega)) (WL.fq (vs:=agC y) (o:=(kaT ts (i0+k)).length*5) rfl rfl rfl rfl T.z29 (by rw [Jdc Jfb,hCl];show _+5≤_;omega) ?_);rw [flat_setA (by omega)];refine Nn (Cr (Zm rfl (Zv (OV.bm (j:=1) rfl rfl (by omega)) (Za rfl (Nl (Xb (Xn (Cr (Zm rfl (Zv (OV.bm (j:=1) rfl rfl (by omega)) (Za rfl (Nl ?_))))))))))))
     have hkp:kgB fAG default ts (i0+k)=true:=by
      unfold kgB;rw [hgy,hgz,xR];exact Or.inr (by simpa using c49)
     have hsn:kaT ts (i0+k+1)=kaT ts (i0+k)++[y]:=by unfold kaT;rw [Jkg,if_pos hkp,hgy]
     have hsl:(kaT ts (i0+(k+1))).length=(kaT ts (i0+k)).length+1:=by rw [show i0+(k+1)=i0+k+1 by omega,hsn,xL];rfl
     exact WX.ei (k+1) (C.set (kaT ts (i0+k)).length y) ⟨rfl,rfl,by rw [hsl];rfl,rfl,rfl,trivial⟩ (fun w' hw=>⟨⟨⟨by omega,by omega,by omega,by rw [List.length_set];exact hCl⟩,by
      rw [hsl,show i0+(k+1)=i0+k+1 by omega,hsn,Jb4 (t:=y) (by rw [List.getElem?_set_self (by omega)]),List.take_set_of_le (Nat.le_refl _),hC1],fun p hp=>by
      rw [List.getElem?_set_ne (by omega)];exact hC2 p (by omega)⟩,hw⟩) (by show ts.length - i0 - (k+1)<ts.length - i0 - k;omega)
    refine Ck (Xb (Xn (Cr (Zm rfl (Zv (OV.bm (j:=1) rfl rfl (by omega)) (Za rfl (Nl ?_)))))))
    have hkp:kgB fAG default ts (i0+k)=false:=by
     unfold kgB;rw [hgy,hgz,Bool.or_eq_false_iff];exact ⟨xP (by omega),by simpa using c49⟩
    have hsn:kaT ts (i0+(k+1))=kaT ts (i0+k):=by unfold kaT;rw [show i0+(k+1)=i0+k+1 by omega,Jkg,if_neg (by rw [hkp];simp),xZ]
    exact WX.ei (k+1) C ⟨rfl,rfl,by rw [hsn];rfl,rfl,rfl,trivial⟩ (fun w' hw=>⟨⟨⟨by omega,by omega,by rw [hsn];omega,hCl⟩,by rw [hsn];exact hC1,fun p hp=>hC2 p (by omega)⟩,hw⟩) (by show ts.length - i0 - (k+1)<ts.length - i0 - k;omega)
   refine Ce (Xe (Xe (Xh (Xn (Cs ?_)))));obtain rfl:k=ts.length - i0:=by omega
   have he:i0+(ts.length - i0)=ts.length:=by omega
   rw [he] at hK hC1 hC2 ⊢;have hdl:(kaT ts ts.length).length=(dupA ts).length:=rfl;refine Cr (Zm rfl (Zm rfl (Zv (OV.sliceFromN rfl T.u22 T.z29 rfl (by omega) (by omega)) ?_)));refine WL.clearRowN (k:=(dupA ts).length) (s:=5) (l:=ts.length - (dupA ts).length) rfl rfl T.u22 T.zr29 rfl (by decide) (by omega) (by omega) (fun Z hZ=>?_);refine Nn (Cs ?_);have hdl2:(dupA ts).length≤ts.length:=dupG_le fAG default ts;refine Cr (Zm rfl (Zm rfl (Zv (OV.mi rfl T.u22 T.z29 rfl (by omega)) (Za rfl (Nn (WC.bg ?_))))));refine Xq (Xr (Xr (Xq (Xr ?_))))
   have hfin:((C.flatMap agC).take ((dupA ts).length*5)++Z).take ((dupA ts).length*5)=(dupA ts).flatMap agC:=by
    rw [List.take_append_of_le_length (by rw [xJ,Jdc Jfb];omega),List.take_take,Nat.min_self,flat_take Jfb,show C.take (dupA ts).length=dupA ts from hC1]
   exact WX.ret1 rfl rfl rfl (fun w' hw=>⟨rfl,by
    have h1:=hw.rowCut (k:=(dupA ts).length) hdl2;rw [hfin] at h1;exact (Hw.Sat.part (List.Sublist.cons_cons _ ((dupG_sub fAG default ts).map argA)) h1).turned⟩)
  refine Ck (Xb (Xn (Cr (Zm rfl (Zv (OV.bm (j:=1) rfl rfl (by omega)) (Za rfl (Nl ?_)))))))
  exact WX.bi (i+1) Y3 (fun w' hw=>⟨⟨by omega,by omega,fun p hp=>by
   rcases Nat.lt_or_ge p i with h | h
   ·exact hK p h
   ·obtain rfl:p=i:=by omega
    unfold kaB kgB;rw [hgy,hgz,xR];exact Or.inr (by simpa using c28)⟩,hw⟩) (by show ts.length - (i+1)<ts.length - i;omega)
 refine Ce (Xe (Xe (Xh (Xn (Csr (Zm rfl (Za rfl (Nn (WC.bg ?_)))))))));obtain rfl:i=ts.length:=by omega
 have hd:dupA ts=ts:=by
  unfold dupA dupG;rw [Joa fAG default (Nat.le_refl _) hK,List.take_length]
 exact WX.ret1 rfl rfl rfl (fun w' hw=>⟨by rw [hd],by rw [hd];exact hw.turned⟩)
def ResAOK (hs:List At)(l:List At):Prop:=Str cmpA l∧∀ r,r∈l↔r∈hs
theorem compA_ok {rs:List At}(hl:rs.length≤1099511627776)(hr:∀ r∈rs,r.args.length≤1099511627776):Joq rs (ResAOK rs):=by
 intro a c ts w1 hp hs hA;have hlen:ts.length=rs.length:=by have:=hp.length_eq;simpa using this
 have hsz:∀ y∈ts,y.x.args.length≤1099511627776:=fun y hy=>hr _ (hp.mem_iff.1 (List.mem_map.2 ⟨y,hy,rfl⟩))
 by_cases h2:ts.length<2
 ·have h3:Str cmpA (ts.map AG.x):=by
   rcases ts with _ | ⟨x,_ | ⟨y,l⟩⟩
   ·exact List.Pairwise.nil
   ·simp [Str]
   ·simp at h2;omega
  refine (compA1_calls a ts.length c _ h2 w1).mono (fun e w2 ⟨h5,h6⟩=>⟨ts,h5,⟨h3,fun r=>hp.mem_iff⟩,⟨h6.mono (fun _ f=>f.elim),(Hw.Sat.keep (Sat.startA hA) h6).holdsAll.φ,fun i hi b hb=>⟨(Hw.Sat.keep (Sat.startA hA) h6).holdsAll.lt i hi b hb,Or.inl ⟨i,hi,hb⟩⟩,hA.disj⟩⟩)
 ·obtain ⟨b,rfl,hc⟩:∃ b,a=some ⟨b,0,none⟩∧ts.length≤c:=by
   rcases (Jdx (Sat.startA hA) yH).2 with ⟨_,h,_⟩ | h
   ·omega
   ·exact h
  have hd:=dupG_ok cmpA_ok AG.x default hs;exact (Jd4 ts hsz b c (by omega) hc (by omega) w1 hA).mono (fun e w2 ⟨h5,h6⟩=>⟨dupA ts,h5,⟨hd.1,fun r=>(hd.2 r).trans hp.mem_iff⟩,h6⟩)
theorem solve_bad (q:CG)(hv:VC q.cl)(lead:Int)(hb:lead < -1∨(q.bd.length:Int)≤lead)(bp:Value)(w:World)(hN:Jc2 w)(hC:Jge w)(hr:RC w q):Calls Tryz.prog 12 #[bp,cgV q,.int .i64 lead] w fun e w'=>e=.returned (.tuple #[.slice none 0 0,.int .i64 91])∧Fr0 w w':=by
 have hrf:refC q.cl lead=91:=by rw [refC_made hv,if_pos (by rw [show q.cl.bd.length=q.bd.length from xE _];exact hb)]
 refine Jbn (args:=[bp,cgV q,.int .i64 lead]) (fun _=>False) Tryz.func12 rfl Tryz.ntmps12 rfl rfl ?_;refine Csr (WL.box rfl rfl rfl ?_);intro b4;refine Za rfl (Za rfl (Nn (Csr (Zv (OV.lN (cs:=cgC q) rfl T.u32 rfl T.z32 yH) (Zm rfl (WL.c0 (v:=.tuple #[pgV ⟨none,0,[],none,0,[]⟩,.int .i64 91]) (vs:=[cgV q,.int .i64 lead]) (fun w' hw'=>(make_bad q hv.cs lead (by rw [hrf];decide) w' (hN.keeps hw'.keeps) (hC.keeps hw'.keeps) (hr.keeps hw'.keeps)).mono (fun en w'' ⟨h1,h2⟩=>⟨by rw [h1,hrf],h2⟩)) ?_))))));refine Zm rfl (Zv (OV.extract rfl rfl) (Zv (OV.extract rfl rfl) (WL.alloc T.zr87 rfl ?_)));intro bb8;refine WL.ag (vs:=pgC ⟨none,0,[],none,0,[]⟩) rfl rfl rfl T.z87 rfl ?_;refine Za rfl (Nn (Cs (Csr (Zm rfl (Zv ((OV.gg rfl rfl).cast (u:=.bool true) rfl) (Nn (WC.cm (show _=some (Value.bool true) from by rfl) ?_)))))));refine Csr (Zm rfl (Za rfl (Za rfl (Nn (WC.bg ?_)))));refine Xr ?_;exact WX.ret2 rfl rfl rfl rfl (fun w' hw=>⟨rfl,hw.fr⟩)
theorem fire_bad (q:CG)(hv:VC q.cl)(lead:Int)(hb:lead < -1∨(q.bd.length:Int)≤lead)(bp:Value)(w:World)(hN:Jc2 w)(hC:Jge w)(hr:RC w q):Calls Tryz.prog 24 #[bp,cgV q,.int .i64 lead] w fun e w'=>e=.returned (.tuple #[.slice none 0 0,.int .i64 91])∧Fr0 w w':=by
 refine Jbn (args:=[bp,cgV q,.int .i64 lead]) (fun _=>False) Tryz.func24 rfl Tryz.ntmps24 rfl rfl ?_;refine Csr (WL.box rfl rfl rfl ?_);intro b4;refine Za rfl (Za rfl (Nn (Csr (Zm rfl (Zv (OV.lN (cs:=cgC q) rfl T.u32 rfl T.z32 yH) (Zm rfl (WL.c0 (v:=.tuple #[.slice none 0 0,.int .i64 91]) (vs:=[bp,cgV q,.int .i64 lead]) (fun w' hw'=>solve_bad q hv lead hb bp w' (hN.keeps hw'.keeps) (hC.keeps hw'.keeps) (hr.keeps hw'.keeps)) ?_)))))));refine Zm rfl (Zv (OV.extract rfl rfl) (Zv (OV.extract rfl rfl) (Za rfl (Za rfl (Nn (Cs (Csr (Zm rfl (Zv ((OV.gg rfl rfl).cast (u:=.bool true) rfl) (Nn (WC.cm (show _=some (Value.bool true) from by rfl) ?_)))))))))));refine Csr (Zm rfl (Za rfl (Za rfl (Nn (WC.bg ?_)))));refine Xr ?_;exact WX.ret2 rfl rfl rfl rfl (fun w' hw=>⟨rfl,hw.fr⟩)
theorem Jl1 (q:Cl)(r:List Tm):(headI q r).args.length=q.hd.args.length:=by unfold headI mapA;simp
theorem fire_calls (g:BaseG)(k:Nat)(F:List (At × Nat))(b:BS g k F)(hkk:k≤100000000000)(hF:∀ q∈F,factB q.1=true)(q:CG)(hs:CS q)(hv:VC q.cl)(lead:Option Nat)(hld:∀ l,lead=some l→l<q.cl.bd.length)(hsl:F.length ^ q.bd.length≤1048576)(w0 w:World)(hk:Keeps w0 w)(hB:∀ b,DD (baseA g) b→w0.heap.size≤b)(hN:Jc2 w0)(hC:Jge w0)(hr:RC w0 q)(hA:Holds (baseA g) w):
  Calls Tryz.prog 24 #[ptr g.p,cgV q,.int .i64 (leadI lead)] w fun e w'=>∃ z:AnsA,e=.returned (.tuple #[.slice z.a z.ys.length z.c,.int .i64 0])∧((BS z.g k F∧z.g.p=g.p)∧Str cmpA (z.ys.map AG.x)∧(∀ x,x∈z.ys.map AG.x↔∃ r,Sol (FFs F lead) q.cl (nV q.cl) r∧x=headI q.cl r)∧z.ys.length≤1048576∧∀ y∈z.ys,y.x.args.length≤8)∧Turns (baseA g) (baseA z.g++atsA z.a z.c z.ys) w w':=by
 have hn:=hv.nV72;refine (fire_from (γ:=BaseG) (baseA g) baseA (fun z=>BS z k F∧z.p=g.p) (fun rs=>Str cmpR rs∧(∀ r,r∈rs↔Sol (FFs F lead) q.cl (nV q.cl) r)∧rs.length≤1048576) (fun rs=>ResAOK (rs.map (headI q.cl))) (ptr g.p) q hs lead w0 hr w hk hB hA ?_ ?_ ?_).mono ?_
 ·intro w1 hk1 hH;refine (solve_calls g k F b hkk hF q hs hv lead hld hsl w0 w1 hk1 hB hN hC hr hH).mono ?_;rintro e w2 ⟨z,h1,⟨h2,h3,h4,h5⟩,h6⟩;exact ⟨z,h1,⟨h2,h3,h4,by rw [xE];exact h5⟩,h6⟩
 ·rintro rs ⟨h1,h2,h3⟩;exact ⟨h3,fun r hr=>by have:=((h2 r).1 hr).len;omega⟩
 ·rintro rs ⟨h1,h2,h3⟩;refine compA_ok (by rw [xE];omega) fun x hx=>?_
  obtain ⟨r,_,rfl⟩:=List.mem_map.1 hx;rw [Jl1];have:=(chkA_zero.1 hv.hd).2.1;omega
 ·rintro e w' ⟨⟨g1,rs,a,c,ys⟩,h1,⟨h2,⟨h3,h4,h5⟩,h6,h7⟩,h8⟩;have h9:=nodup_subG (Str.nodup cmpA_ok h6) fun x hx=>(h7 x).1 hx
  rw [xE,xE] at h9;refine ⟨⟨g1,a,c,ys⟩,h1,⟨h2,h6,fun x=>(h7 x).trans ?_,Nat.le_trans h9 h5,fun y hy=>?_⟩,h8⟩
  ·rw [xS];constructor
   ·rintro ⟨r,hr,rfl⟩;exact ⟨r,(h4 r).1 hr,rfl⟩
   ·rintro ⟨r,hr,rfl⟩;exact ⟨r,(h4 r).2 hr,rfl⟩
  ·obtain ⟨r,_,hr⟩:=List.mem_map.1 ((h7 y.x).1 (List.mem_map.2 ⟨y,hy,rfl⟩));rw [← hr,Jl1];exact (chkA_zero.1 hv.hd).2.1
def inV (i:Nat)(lead:Option Nat)(p:Int):Bool:=match lead with
 | none=>decide (p=1) || decide (p=2)
 | some l=>if l<i then decide (p=1) || decide (p=2) else if i<l then decide (p=1) else decide (p=2)
theorem bpart_bs (g:BaseG)(k:Nat)(F:List (At × Nat))(b:BS g k F)(x:At)(a:Option Addr)(c:Nat)(hl:x.args.length≤1099511627775)(hs:x.name.size≤1099511627776)(w:World)(hN:Jc2 w)(hN1:¬ DD (baseA g) 0)(hr:RT w a x.args)(hne:∀ q,a=some q→0<x.args.length→¬ DD (baseA g) q.block)(hA:Holds (baseA g) w):
  Calls Tryz.prog 27 #[ptr g.p,atV x a c] w fun e w'=>e=.returned (.int .i64 ((if factB x=true then partF F x else 0:Nat):Int))∧Turns (baseA g) (baseA g) w w':=by
 refine (bpart_calls g b.ok x a c hl hs w hN hN1 hr hne hA).mono ?_;rintro e w' ⟨he,ht⟩;exact ⟨by rw [he,partF_perm b.fs (Jjb b.ok)],ht⟩
theorem fact_name {x:At}(h:factB x=true):x.name.size≤32:=by
 unfold factB chkA at h
 by_cases hn:nameB x.name=false
 ·simp [hn] at h
 ·have hn:nameB x.name=true:=by simpa using hn
  unfold nameB at hn;rw [decide_eq_true_eq] at hn;exact hn.2.1
theorem in_law (i:Nat)(lead:Option Nat)(p:Int)(w:World):Calls Tryz.prog 26 #[.int .i64 (i:Int),.int .i64 (leadI lead),.int .i64 p] w fun e w'=>e=.returned (.bool (inV i lead p))∧Fr0 w w':=by
 refine Jbn (args:=[.int .i64 (i:Int),.int .i64 (leadI lead),.int .i64 p]) (fun _=>False) Tryz.func26 rfl Tryz.ntmps26 rfl rfl ?_;refine Csr (Za rfl (Nn (Cs (Cb (Csr (Zm rfl (Zv (OV.cq rfl rfl) (Zm rfl ?_))))))));refine Zp (t:=10) rfl (fun g10=>?_) (fun g10=>?_)
 ·refine yX (yX (yX (Zv (OV.ao rfl rfl) (Za rfl (Nn (WC.cm rfl ?_))))));refine Csr (Zm rfl (Zv (OV.dp rfl rfl) (Zm rfl ?_)));refine Zp (t:=17) rfl (fun g17=>?_) (fun g17=>?_)
  ·refine yX (yX (Zv (OV.ao rfl rfl) (Za rfl (Nn (WC.bg ?_)))));refine Xq (Xr ?_);exact WX.ret1 rfl rfl rfl (fun w' hw=>⟨by unfold leadI at *;unfold inV;cases lead <;> simp only [Option.elim] at*<;> grind,hw.fr⟩)
  refine yY (Zm rfl (yY (Zv (OV.dp rfl rfl) (Zv (OV.ak rfl rfl) (Za rfl (Nn (WC.bg ?_)))))));refine Xq (Xr ?_);exact WX.ret1 rfl rfl rfl (fun w' hw=>⟨by unfold leadI at *;unfold inV;cases lead <;> simp only [Option.elim] at*<;> grind,hw.fr⟩)
 refine yY (Zm rfl (yY (Zm rfl (yY (Zv (OV.jw rfl rfl) (Zv (OV.ak rfl rfl) (Za rfl (Nn ?_))))))));refine Cc rfl (fun c7=>?_) (fun c7=>?_)
 ·refine Csr (Zm rfl (Zv (OV.dp rfl rfl) (Zm rfl ?_)));refine Zp (t:=17) rfl (fun g17=>?_) (fun g17=>?_)
  ·refine yX (yX (Zv (OV.ao rfl rfl) (Za rfl (Nn (WC.bg ?_)))));refine Xq (Xr ?_);exact WX.ret1 rfl rfl rfl (fun w' hw=>⟨by unfold leadI at *;unfold inV;cases lead <;> simp only [Option.elim] at*<;> grind,hw.fr⟩)
  refine yY (Zm rfl (yY (Zv (OV.dp rfl rfl) (Zv (OV.ak rfl rfl) (Za rfl (Nn (WC.bg ?_)))))));refine Xq (Xr ?_);exact WX.ret1 rfl rfl rfl (fun w' hw=>⟨by unfold leadI at *;unfold inV;cases lead <;> simp only [Option.elim] at*<;> grind,hw.fr⟩)
 refine Csr (Zm rfl (Zm rfl (Zv (OV.cq rfl rfl) (Za rfl (Nn ?_)))));refine Cc rfl (fun c21=>?_) (fun c21=>?_)
 ·refine Csr (Zm rfl (Zv (OV.dp rfl rfl) (Za rfl (Nn (WC.bg ?_)))));refine Xq (Xr ?_);exact WX.ret1 rfl rfl rfl (fun w' hw=>⟨by unfold leadI at *;unfold inV;cases lead <;> simp only [Option.elim] at*<;> grind,hw.fr⟩)
 refine Ck (Xb (Xn (Csr (Zm rfl (Zv (OV.dp rfl rfl) (Za rfl (Nn (WC.bg ?_))))))));exact WX.ret1 rfl rfl rfl (fun w' hw=>⟨by unfold leadI at *;unfold inV;cases lead <;> simp only [Option.elim] at*<;> grind,hw.fr⟩)
theorem Jmn {ts:List AG}(hs:Str cmpA (ts.map AG.x)){i j:Nat}{x y:AG}(hx:ts[i]?=some x)(hy:ts[j]?=some y)(h:i<j):cmpA x.x y.x<0:=by
 have h1:=(List.getElem?_eq_some_iff.1 hx).1;have h2:=(List.getElem?_eq_some_iff.1 hy).1;have h3:=List.pairwise_iff_getElem.1 (show (ts.map AG.x).Pairwise _ from hs) i j (by rw [xE];exact h1) (by rw [xE];exact h2) h;rw [List.getElem_map,List.getElem_map] at h3;rw [xD h1] at hx;rw [xD h2] at hy;rw [← xH hx,← xH hy];exact h3
theorem strA_not {ts:List AG}(hs:Str cmpA (ts.map AG.x)){i j:Nat}{x y:AG}(hx:ts[i]?=some x)(hy:ts[j]?=some y)(h:cmpA x.x y.x<0):i<j:=by
 rcases Nat.lt_or_ge i j with h1 | h1
 ·exact h1
 ·rcases Nat.eq_or_lt_of_le h1 with h2 | h2
  ·subst h2;rw [hx] at hy;rw [xH hy,cmpA_ok.refl] at h;omega
  ·have h3:=Jmn hs hy hx h2;have e1:cmpA x.x y.x=- cmpA y.x x.x:=cmpA_ok.anti y.x x.x;omega
theorem Jir (ys:List AG)(a:Option Addr)(c:Nat)(hst:Str cmpA (ys.map AG.x))(hyl:ys.length≤1099511627776)(hy8:∀ y∈ys,y.x.args.length≤1099511627776)(x:At)(ra:Option Addr)(rc:Nat)(hx8:x.args.length≤1099511627776)(p:Nat)(py:AG)(hp:ys[p]?=some py)(hpr:py.x=x)(w:World)(hr:RA w a ys)(hrr:RT w ra x.args):Calls Tryz.prog 28 #[.slice a ys.length c,atV x ra rc] w fun e w'=>e=.returned (.int .i64 (p:Int))∧Fr0 w w':=by
 have hpl:=(List.getElem?_eq_some_iff.1 hp).1;refine Jbn (args:=[.slice a ys.length c,atV x ra rc]) (fun _=>False) Tryz.func28 rfl Tryz.ntmps28 rfl rfl ?_;refine Csr (WL.box rfl rfl rfl ?_);intro b3;refine Za rfl (Nn (Csr (Za rfl (Nn (Csr (Zm rfl ?_))))))
 first
 | (refine WL.val (OV.ae rfl T.u22) rfl ?_;trace "ALT Jir#0 c04edde8 0")
 | (refine WL.val (OV.cy rfl T.u22) rfl ?_;trace "ALT Jir#0 c04edde8 1")
 refine Za rfl (Nn (Cs (Cb ?_)))
 refine WC.ky (fun (lo hi:Nat)=>[(0,.slice a ys.length c),(3,yZ b3),(5,.int .i64 (lo:Int)),(6,.int .i64 (hi:Int))])
   (fun lo hi w'=>(lo≤p∧p≤hi∧hi≤ys.length)∧Sat0 w (oQ b3 (atC x ra rc) 29::[]) w')
   (fun lo hi=>hi - lo) 0 ys.length Y4 (fun w' hw=>⟨⟨by omega,by omega,by omega⟩,hw⟩) ?_
 intro lo hi;refine WC.pure (fun hi2=>?_);obtain ⟨hlo,hhi,hhl⟩:=hi2;refine Cs (Csr (Zm rfl (Zm rfl (Zv (OV.cq rfl rfl) (Nn ?_)))));refine Cc rfl (fun c12=>?_) (fun c12=>?_)
 ·refine Ck (Xn (Cb (Csr (Zm rfl (Zm rfl (Zv (OV.bm rfl rfl (by omega)) (Zv (OV.quoN (j:=2) rfl rfl (by omega)) (Za rfl (Nn (Cs ?_))))))))));obtain ⟨m,hm⟩:∃ m,(lo+hi) / 2=m:=⟨_,rfl⟩
  obtain ⟨q,y,hq,hy,hym,hry,hcy⟩:=hr.get (i:=m) (by omega);refine Hq [5] (m:=7) rfl ?_;refine Hf 0 rfl (OV.au rfl) (Hf 1 rfl (OV.au rfl) (Hf 2 rfl ((OV.ad (show _=some (Value.slice (some q) ys.length c) by rw [← hq];rfl) rfl T.u22 T.z29 (by omega)).cast (u:=.pointer (some (q.add (m*5)))) (by rw [hm,xN])) (Ht 3 rfl (OV.aj (cs:=agC y) rfl T.u29 rfl T.z29 (fun _ hw j v hj=>hw.keeps _ _ (hcy j v hj))) (Ht 4 rfl (OV.lN (cs:=atC x ra rc) rfl T.u29 rfl T.z29 yH) (Ho 5 rfl (fl':=true) rfl ?_)))));refine WL.c0 (v:=.int .i64 (cmpA y.x x)) (vs:=[atV y.x y.a y.c,atV x ra rc]) (fun w' hw'=>Jgv y.x x y.a ra y.c rc (hy8 y hym) hx8 w' (hry.keeps hw'.keeps) (hrr.keeps hw'.keeps)) ?_;refine Hc (fun h=>by cases h) ?_;refine Hf 6 rfl (OV.cq rfl rfl) (He (Xn ?_));refine Cc rfl (fun c23=>?_) (fun c23=>?_)
  ·refine Cr (Zm rfl (Zv (OV.bm (j:=1) rfl rfl (by omega)) (Za rfl (Nl (Xb ?_)))));have h9:=strA_not hst hy hp (by rw [hpr];exact c23);exact WX.ei (m+1) hi ⟨rfl,rfl,by rw [← hm];rfl,rfl,trivial⟩ (fun w' hw=>⟨⟨by omega,by omega,by omega⟩,hw⟩) (by show hi - (m+1)<hi - lo;omega)
  refine Cr (Zm rfl (Za rfl (Nl (Xb ?_))));have h9:p≤m:=Nat.le_of_not_lt fun h=>c23 (by rw [← hpr];exact Jmn hst hy hp h)
  exact WX.ei lo m ⟨rfl,rfl,rfl,by rw [← hm];rfl,trivial⟩ (fun w' hw=>⟨⟨by omega,by omega,by omega⟩,hw⟩) (by show m - lo<hi - lo;omega)
 refine Ce (Xe (Xe (Xh (Xn (Cs (Cs ?_))))));obtain rfl:lo=p:=by omega
 obtain ⟨q,y,hq,hy,hym,hry,hcy⟩:=hr.get (i:=lo) (by omega);refine Hq [10] (m:=12) rfl ?_;refine Hf 0 rfl (OV.au rfl) (Hf 1 rfl (OV.au rfl) ?_)
 first
 | (refine Hf 2 rfl (OV.ae rfl T.u22) ?_;trace "ALT Jir#1 c04edde8 0")
 | (refine Hf 2 rfl (OV.cy rfl T.u22) ?_;trace "ALT Jir#1 c04edde8 1")
 refine Hf 3 rfl ((OV.cq rfl rfl).cast (u:=.bool true) (congrArg Value.bool (xO (by omega)))) (Hf 4 rfl (OV.au rfl) (Hk (t:=31) (b:=true) rfl (by rfl) ?_));refine Hfg 5 rfl rfl rfl rfl (OV.au rfl) (Hfg 6 rfl rfl rfl rfl (OV.au rfl) (Hfg 7 rfl rfl rfl rfl ((OV.ad (show _=some (Value.slice (some q) ys.length c) by rw [← hq];rfl) rfl T.u22 T.z29 (by omega)).cast (u:=.pointer (some (q.add (lo*5)))) (by rw [xN])) (Htg 8 rfl rfl rfl rfl (OV.aj (cs:=agC y) rfl T.u29 rfl T.z29 (fun _ hw j v hj=>hw.keeps _ _ (hcy j v hj))) (Htg 9 rfl rfl rfl rfl (OV.lN (cs:=atC x ra rc) rfl T.u29 rfl T.z29 yH) (Ho 10 rfl (fl':=true) rfl ?_)))));refine yY (WL.c0 (v:=.bool true) (vs:=[atV y.x y.a y.c,atV x ra rc]) (fun w' hw'=>(sameAtom_calls y.x x y.a ra y.c rc (hy8 y hym) hx8 w' (hry.keeps hw'.keeps) (hrr.keeps hw'.keeps)).mono (fun en w'' ⟨h8,h9⟩=>⟨by rw [h8,xO (by rw [hp] at hy;rw [← xH hy];exact hpr)],h9⟩)) ?_);refine Hc (fun h=>by cases h) ?_;refine Hf 11 rfl (OV.ao rfl rfl) (He (Xn (WC.cm (show _=some (Value.bool true) from by rfl) ?_)));refine Csr (Zm rfl (Za rfl (Nn (WC.bg ?_))));refine Xr ?_;exact WX.ret1 rfl rfl rfl (fun w' hw=>⟨rfl,hw.fr⟩)
end Go.Proofs.YtgebaodagaecmaaGreatDoor
