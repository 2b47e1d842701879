/- Contracts of functions of the program: what each returns and leaves in memory. Printed by gen.py and walk.py. -/
import Derived.Test.YtdgigbopibdflaaGreatDoorMg19
import Derived.Test.YtdgigbopibdflaaGreatDoorHxA
import Derived.Test.YtdgigbopibdflaaGreatDoorMg18
set_option maxRecDepth 10000
namespace Go.Proofs.YtdgigbopibdflaaGreatDoor
open Go Go.Hw
set_option linter.unusedSimpArgs false
set_option linter.unusedVariables false
structure LC (w:World) (q:CG):Prop where
 hd:RT w q.hd.a (q.hd.x.args++[TB])
 bd:RA w q.ba (q.bd++[BA])
 ar:∀ y∈q.bd,RT w y.a (y.x.args++[TB])
 ts:RS w q.ta (q.ts++[TSB])
theorem RT.of_rowL2 {w0 ws w:World}{M I:Nat→Prop}{ow:List Hw.Item}{a:Option Addr}{c:Nat}{ts:List Tm}(hw:Sat w0 M I ws ow w)(hm:rowL2 a c ts∈ow):RT w a (ts++[TB]):=
 RT.of_row (c:=c) rfl hw (by rw [xL];exact hm)
theorem RA.of_rowAB {w0 ws w:World}{M I:Nat→Prop}{ow:List Hw.Item}{a:Option Addr}{c:Nat}{zs:List AG}(hw:Sat w0 M I ws ow w)(hm:rowAB a c zs∈ow)(ha:∀ y∈zs,RT w y.a y.x.args):RA w a (zs++[BA]):=by
 have hm2:rowAt a c (zs++[BA])∈ow:=by rw [show rowAt a c (zs++[BA])=rowAB a c zs by unfold rowAt rowAB;rw [xL];rfl];exact hm
 refine ⟨fun hn=>?_,fun q hq i t ht j v hv=>?_,fun y hy=>?_⟩
 ·rcases (Jdl hw hm2).2 with ⟨_,h,_⟩ | ⟨b,hb,_⟩
  ·exact h
  ·rw [hn] at hb;cases hb
 ·subst hq;have hj:j<5:=(List.getElem?_eq_some_iff.1 hv).1;have h1:=Jdu hw hm2 (i*5+j) v (by rw [Jcq Jgj (zs++[BA]) i j t ht hj];exact hv);rwa [Jdz] at h1
 ·rcases List.mem_append.1 hy with h | h
  ·exact ha y h
  ·simp only [xI] at h;rw [h];exact ⟨fun _=>rfl,fun q hq=>by cases hq⟩
theorem LC.of_items {w0 ws w:World}{M I:Nat→Prop}{ow:List Hw.Item}{q:CG}(hw:Sat w0 M I ws ow w)(hm:∀ i∈lcI q,i∈ow):LC w q:=by
 have ha:∀ y∈q.bd,RT w y.a (y.x.args++[TB]):=fun y hy=>RT.of_rowL2 hw (hm _ (yT (.tail _ (xA _ (List.mem_map.2 ⟨y,hy,rfl⟩)))))
 refine ⟨RT.of_rowL2 hw (hm _ yF),RA.of_rowAB hw (hm _ yG) (fun y hy=>(ha y hy).pre (by decide)),ha,?_⟩;have hm2:=hm (rowSB q.ta q.tc q.ts) (yT (.tail _ (xB _ yF)));exact RS.of_row (c:=q.tc) hw (by unfold rowS;rw [xL];exact hm2)
theorem RA.pre {w:World}{a:Option Addr}{ys zs:List AG}(h:RA w a (ys++zs))(hz:0<zs.length):RA w a ys:=
 ⟨fun ha=>by have:=h.nil ha;rw [xL] at this;omega,fun q hq i t ht j v hv=>h.at_ q hq i t (by rw [List.getElem?_append_left (List.getElem?_eq_some_iff.1 ht).1];exact ht) j v hv,fun y hy=>h.args y (xA _ hy)⟩
theorem RS.pre {w:World}{a:Option Addr}{ys zs:List Ts}(h:RS w a (ys++zs))(hz:0<zs.length):RS w a ys:=
 ⟨fun ha=>by have:=h.nil ha;rw [xL] at this;omega,fun q hq i t ht j v hv=>h.at_ q hq i t (by rw [List.getElem?_append_left (List.getElem?_eq_some_iff.1 ht).1];exact ht) j v hv⟩
theorem LC.rc {w:World}{q:CG}(h:LC w q):RC w q:=⟨h.hd.pre (by decide),h.bd.pre (by decide),h.ts.pre (by decide)⟩
theorem LC.keeps {w w':World}{q:CG}(h:LC w q)(k:Keeps w w'):LC w' q:=⟨h.hd.keeps k,h.bd.keeps k,fun y hy=>(h.ar y hy).keeps k,h.ts.keeps k⟩
theorem CS.of_cl {q g:CG}(h:q.cl=g.cl)(hs:CS g):CS q:=by
 have e1:q.hd.x=g.hd.x:=congrArg Cl.hd h;have e2:q.bd.map AG.x=g.bd.map AG.x:=congrArg Cl.bd h;have e3:q.ts=g.ts:=congrArg Cl.ts h;have e4:q.bd.length=g.bd.length:=by have:=congrArg List.length e2;simpa using this
 refine ⟨fun y hy=>?_,by rw [e4];exact hs.bl,by rw [e3];exact hs.tl,by rw [h];exact hs.tt⟩;rcases hy with rfl | hy
 ·rw [e1];exact hs.at_ g.hd (Or.inl rfl)
 ·have h1:y.x∈g.bd.map AG.x:=by rw [← e2];exact List.mem_map.2 ⟨y,hy,rfl⟩
  obtain ⟨z,hz,he⟩:=List.mem_map.1 h1;rw [← he];exact hs.at_ z (Or.inr hz)
theorem Jbl (zs ys:List AG)(hx:zs.map AG.x=ys.map AG.x)(a1 a2:Option Addr)(c1 c2:Nat)(hl:ys.length≤1048576)(hs:∀ y∈ys,y.x.args.length≤1048576)(hc:ys.length+1≤c1)(hyc:∀ y∈zs,y.x.args.length+1≤y.c)(w:World)(hB:Jdj w)(hr1:RA w a1 (zs++[BA]))(har:∀ y∈zs,RT w y.a (y.x.args++[TB]))(hr2:RA w a2 ys):Calls Tryz.prog 44 #[.slice a1 ys.length c1,.slice a2 ys.length c2] w fun e w'=>e=.returned (.bool true)∧Fr0 w w':=by
 have hzl:zs.length=ys.length:=by have:=congrArg List.length hx;simpa using this
 refine Jbi (args:=[.slice a1 ys.length c1,.slice a2 ys.length c2]) (fun _=>False) Tryz.func44 rfl Tryz.ntmps44 rfl rfl ?_;refine Csr (Za rfl (Nn (Cs (Csr (Zm rfl ?_)))))
 first
 | (refine WL.val (OV.ad rfl T.u27) rfl ?_;trace "ALT Jbl#0 c04edde8 0")
 | (refine WL.val (OV.bg rfl T.u27) rfl ?_;trace "ALT Jbl#0 c04edde8 1")
 refine Zm rfl ?_
 first
 | (refine WL.val (OV.ad rfl T.u27) rfl ?_;trace "ALT Jbl#1 c04edde8 0")
 | (refine WL.val (OV.bg rfl T.u27) rfl ?_;trace "ALT Jbl#1 c04edde8 1")
 refine Zv ((OV.fb rfl rfl).cast (u:=.bool false) (by simp)) (Nn (WC.ca (show _=some (Value.bool false) from by rfl) ?_));refine Ck (Xn (Cs (Csr (Za rfl (Nn (Cb ?_))))))
 refine WC.bz (fun (i:Nat)=>[(0,.slice a1 ys.length c1),(1,.slice a2 ys.length c2),(5,.int .i64 (i:Int))])
   (fun i w'=>i≤ys.length∧Sat0 w ([]) w')
   (fun i=>ys.length - i) 0 Y3 (fun w' hw=>⟨by omega,hw⟩) ?_
 intro i;refine WC.pure (fun hi=>?_);refine Cs (Csr (Zm rfl (Zm rfl ?_)))
 first
 | (refine WL.val (OV.ad rfl T.u27) rfl ?_;trace "ALT Jbl#2 c04edde8 0")
 | (refine WL.val (OV.bg rfl T.u27) rfl ?_;trace "ALT Jbl#2 c04edde8 1")
 refine Zv (OV.cu rfl rfl) (Nn ?_);refine Cc rfl (fun c15=>?_) (fun c15=>?_)
 ·refine Ck (Xn (Cs (Cb (Cs ?_))));obtain ⟨q2,y,hq2,hy,hym,hry,hc2⟩:=hr2.get (i:=i) (by omega);obtain ⟨q1,z,hq1,hz,_,_,hc1⟩:=hr1.get (i:=i) (by rw [xL,hzl];omega);have hz2:zs[i]?=some z:=by rw [List.getElem?_append_left (by omega)] at hz;exact hz
  have hzm:=xC hz2
  have hxy:z.x=y.x:=by
   have h9:=congrArg (·[i]?) hx;simp only [xG,hz2,hy,Option.map_some,Option.some.injEq] at h9;exact h9
  have hzc:=hyc z hzm;have hzs:=hs y hym;have hrz:=har z hzm;refine Hq [8] (m:=10) rfl ?_;refine Hf 0 rfl (OV.cj rfl) (Hf 1 rfl (OV.cj rfl) (Hf 2 rfl ((OV.ae (show _=some (Value.slice (some q1) ys.length c1) by rw [← hq1];rfl) rfl T.u27 T.z26 (by omega)).cast (u:=.pointer (some (q1.add (i*5)))) (by rw [xN])) (Ht 3 rfl (OV.am (cs:=agC z) rfl T.u26 rfl T.z26 (fun _ hw j v hj=>hw.keeps _ _ (hc1 j v hj))) (Hf 4 rfl (OV.cj rfl) (Hf 5 rfl (OV.cj rfl) (Hf 6 rfl ((OV.ae (show _=some (Value.slice (some q2) ys.length c2) by rw [← hq2];rfl) rfl T.u27 T.z26 (by omega)).cast (u:=.pointer (some (q2.add (i*5)))) (by rw [xN])) (Ht 7 rfl (OV.am (cs:=agC y) rfl T.u26 rfl T.z26 (fun _ hw j v hj=>hw.keeps _ _ (hc2 j v hj))) (Ho 8 rfl (fl':=true) rfl ?_))))))))
  refine WL.c0 (v:=.bool true) (vs:=[atV z.x z.a z.c,atV y.x y.a y.c]) (fun w' hw'=>by
   have h9:=keptAtom_calls y.x z.a y.a z.c y.c hzs (by rw [← hxy];exact hzc) w' (hB.keeps hw'.keeps) (by rw [← hxy];exact hrz.keeps hw'.keeps) (hry.keeps hw'.keeps);rw [← hxy] at h9 ⊢;exact h9) ?_
  refine Hc (fun h=>by cases h) ?_;refine Hf 9 rfl (OV.not rfl) (He (Xn (WC.ca (show _=some (Value.bool false) from by rfl) ?_)));refine Ck (Xb (Xn (Cr (Zm rfl (Zv (OV.bh (j:=1) rfl rfl (by omega)) (Za rfl (Nl ?_)))))));exact WX.au (i+1) Y3 (fun w' hw=>⟨by omega,hw⟩) (by show ys.length - (i+1)<ys.length - i;omega)
 refine Ce (Xe (Xe (Xh (Xn (Cs ?_)))));obtain ⟨q1,z,hq1,hz,_,_,hc1⟩:=hr1.get (i:=ys.length) (by rw [xL,hzl];simp);obtain rfl:BA=z:=by rw [List.getElem?_append_right (by omega),hzl,Nat.sub_self] at hz;simpa using hz
 refine Cr (Zm rfl (Zm rfl ?_))
 first
 | (refine WL.val (OV.ad rfl T.u27) rfl ?_;trace "ALT Jbl#3 c04edde8 0")
 | (refine WL.val (OV.bg rfl T.u27) rfl ?_;trace "ALT Jbl#3 c04edde8 1")
 refine Zv (OV.bh (j:=1) rfl rfl (by omega)) (Zv (OV.e7 (h:=ys.length+1) rfl T.u27 T.z26 rfl (by omega)) (Za rfl (Nn (Csr (Zm rfl (Zm rfl ?_))))))
 first
 | (refine WL.val (OV.ad rfl T.u27) rfl ?_;trace "ALT Jbl#4 c04edde8 0")
 | (refine WL.val (OV.bg rfl T.u27) rfl ?_;trace "ALT Jbl#4 c04edde8 1")
 refine Zv ((OV.ae (show _=some (Value.slice (some q1) (ys.length+1) c1) by rw [← hq1];rfl) rfl T.u27 T.z26 (by omega)).cast (u:=.pointer (some (q1.add (ys.length*5)))) (by rw [xN])) (Zv ((OV.fieldAddrA (off:=3) rfl T.u26 rfl).cast (u:=.pointer (some ((q1.add (ys.length*5)).add 3))) (rfl)) (Zv (OV.ap (v:=.string BA.x.name) rfl T.u9 rfl (fun _ hw=>hw.keeps _ _ (hc1 3 _ rfl))) (Zv ((OV.gk rfl rfl).cast (u:=.bool true) (congrArg Value.bool (xO rfl))) (Zm rfl (WL.known (t:=40) (b:=true) rfl (by rfl) ?_)))));refine yW (Zm rfl (yW (Zm rfl (yW ?_))))
 first
 | (refine WL.val (OV.ad rfl T.u27) rfl ?_;trace "ALT Jbl#5 c04edde8 0")
 | (refine WL.val (OV.bg rfl T.u27) rfl ?_;trace "ALT Jbl#5 c04edde8 1")
 refine yW (Zv ((OV.ae (show _=some (Value.slice (some q1) (ys.length+1) c1) by rw [← hq1];rfl) rfl T.u27 T.z26 (by omega)).cast (u:=.pointer (some (q1.add (ys.length*5)))) (by rw [xN])) (yW (Zv ((OV.fieldAddrA (off:=4) rfl T.u26 rfl).cast (u:=.pointer (some ((q1.add (ys.length*5)).add 4))) (rfl)) (yW (Zv (OV.ap (v:=.slice none 0 0) rfl T.u24 rfl (fun _ hw=>hw.keeps _ _ (hc1 4 _ rfl))) (yW ?_))))))
 first
 | (refine WL.val (OV.ad rfl T.u24) rfl ?_;trace "ALT Jbl#6 c04edde8 0")
 | (refine WL.val (OV.bg rfl T.u24) rfl ?_;trace "ALT Jbl#6 c04edde8 1")
 refine yW (Zv ((OV.dq rfl rfl).cast (u:=.bool true) rfl) (Zv (OV.ak rfl rfl) (Za rfl (Nn (WC.ay ?_)))));exact WX.ret1 rfl rfl rfl (fun w' hw=>⟨rfl,hw.fr⟩)
theorem Jas (g q:CG)(hs:CS g)(hk:LCok g q)(w:World)(hB:Jdj w)(hT:Jfu w)(hq:LC w q)(hr:RC w g):Calls Tryz.prog 10 #[cgV q,cgV g] w fun e w'=>e=.returned (.bool true)∧Fr0 w w':=by
 have e1:q.hd.x=g.hd.x:=congrArg Cl.hd hk.cl;have e2:q.bd.map AG.x=g.bd.map AG.x:=congrArg Cl.bd hk.cl;have e3:q.ts=g.ts:=congrArg Cl.ts hk.cl;have e4:q.bd.length=g.bd.length:=by have:=congrArg List.length e2;simpa using this
 have hsh:=(hs.at_ g.hd (Or.inl rfl)).1;have hst:=hs.tl;refine Jbi (args:=[cgV q,cgV g]) (fun _=>False) Tryz.func10 rfl Tryz.ntmps10 rfl rfl ?_;refine Csr (WL.box rfl rfl rfl ?_);intro b2;refine WL.box rfl rfl rfl ?_;intro b3;refine Za rfl (Nn (Cs (Csr ?_)))
 first
 | (refine WL.val (OV.f0 0 rfl T.u30 rfl) rfl ?_;trace "ALT Jas#0 182ae830 0")
 | (refine WL.val (OV.ag (off:=0) rfl T.u30 rfl) rfl ?_;trace "ALT Jas#0 182ae830 1")
 refine Zv (OV.am (cs:=agC q.hd) rfl T.u26 rfl T.z26 (fun _ hw j v hj=>by rw [Jav];exact Jbk hw yG (o:=0) (cs':=agC q.hd) rfl j v hj)) ?_
 first
 | (refine WL.val (OV.f0 0 rfl T.u30 rfl) rfl ?_;trace "ALT Jas#1 182ae830 0")
 | (refine WL.val (OV.ag (off:=0) rfl T.u30 rfl) rfl ?_;trace "ALT Jas#1 182ae830 1")
 refine Zv (OV.am (cs:=agC g.hd) rfl T.u26 rfl T.z26 (fun _ hw j v hj=>by rw [Jav];exact Jbk hw yF (o:=0) (cs':=agC g.hd) rfl j v hj)) ?_
 refine WL.c0 (v:=.bool true) (vs:=[atV q.hd.x q.hd.a q.hd.c,atV g.hd.x g.hd.a g.hd.c]) (fun w' hw'=>by
  have h9:=keptAtom_calls g.hd.x q.hd.a g.hd.a q.hd.c g.hd.c (by omega) (by rw [← e1];exact hk.hc) w' (hB.keeps hw'.keeps) (by rw [← e1];exact hq.hd.keeps hw'.keeps) (hr.hd.keeps hw'.keeps);rw [← e1] at h9 ⊢;exact h9) ?_
 refine Zv (OV.not rfl) (Zm rfl (WL.known (t:=12) (b:=false) rfl (by rfl) ?_));refine yW ?_
 first
 | (refine WL.val (OV.f0 5 rfl T.u30 rfl) rfl ?_;trace "ALT Jas#2 75ec517c 0")
 | (refine WL.val (OV.ag (off:=5) rfl T.u30 rfl) rfl ?_;trace "ALT Jas#2 75ec517c 1")
 refine yW (Zv (OV.l1 (v:=.slice q.ba q.bd.length q.bc) rfl T.u27 rfl yG rfl) (yW ?_))
 first
 | (refine WL.val (OV.f0 5 rfl T.u30 rfl) rfl ?_;trace "ALT Jas#3 75ec517c 0")
 | (refine WL.val (OV.ag (off:=5) rfl T.u30 rfl) rfl ?_;trace "ALT Jas#3 75ec517c 1")
 refine yW (Zv (OV.l1 (v:=.slice g.ba g.bd.length g.bc) rfl T.u27 rfl yF rfl) (yW ?_))
 refine WL.c0 (v:=.bool true) (vs:=[.slice q.ba q.bd.length q.bc,.slice g.ba g.bd.length g.bc]) (fun w' hw'=>by
  have h9:=Jbl q.bd g.bd e2 q.ba g.ba q.bc g.bc hs.bl (fun y hy=>by have:=(hs.at_ y (Or.inr hy)).1;omega) (by rw [← e4];exact hk.bc) hk.yc w' (hB.keeps hw'.keeps) (hq.bd.keeps hw'.keeps) (fun y hy=>(hq.ar y hy).keeps hw'.keeps) (hr.bd.keeps hw'.keeps);rw [← e4] at h9 ⊢;exact h9) ?_
 refine yW (Zv (OV.not rfl) (Zv (OV.ai rfl rfl) (Zm rfl (WL.known (t:=20) (b:=false) rfl (by rfl) ?_))));refine yW ?_
 first
 | (refine WL.val (OV.f0 6 rfl T.u30 rfl) rfl ?_;trace "ALT Jas#4 13d2c21b 0")
 | (refine WL.val (OV.ag (off:=6) rfl T.u30 rfl) rfl ?_;trace "ALT Jas#4 13d2c21b 1")
 refine yW (Zv (OV.l1 (v:=.slice q.ta q.ts.length q.tc) rfl T.u28 rfl yG rfl) (yW ?_))
 first
 | (refine WL.val (OV.f0 6 rfl T.u30 rfl) rfl ?_;trace "ALT Jas#5 13d2c21b 0")
 | (refine WL.val (OV.ag (off:=6) rfl T.u30 rfl) rfl ?_;trace "ALT Jas#5 13d2c21b 1")
 refine yW (Zv (OV.l1 (v:=.slice g.ta g.ts.length g.tc) rfl T.u28 rfl yF rfl) (yW ?_))
 refine WL.c0 (v:=.bool true) (vs:=[.slice q.ta q.ts.length q.tc,.slice g.ta g.ts.length g.tc]) (fun w' hw'=>by
  have h9:=Jch g.ts q.ta g.ta q.tc g.tc (by omega) w' (by rw [← e3];exact ((hq.ts.pre (by decide)).keeps hw'.keeps)) (hr.ts.keeps hw'.keeps);rw [← e3] at h9 ⊢;exact h9) ?_
 refine yW (Zv (OV.not rfl) (Zv (OV.ai rfl rfl) (Nn (WC.ca (show _=some (Value.bool false) from by rfl) ?_))));refine Ck (Xn (Cs ?_));have htc:=hk.tc;rw [e3] at htc;obtain ⟨q8,t,hq8,ht8,_,hc8⟩:=hq.ts.get (i:=g.ts.length) (by rw [xL,e3];simp);obtain rfl:TSB=t:=by rw [e3,List.getElem?_append_right (Nat.le_refl _),Nat.sub_self] at ht8;simpa using ht8
 refine Cr ?_
 first
 | (refine WL.val (OV.f0 6 rfl T.u30 rfl) rfl ?_;trace "ALT Jas#6 13d2c21b 0")
 | (refine WL.val (OV.ag (off:=6) rfl T.u30 rfl) rfl ?_;trace "ALT Jas#6 13d2c21b 1")
 refine Zv (OV.l1 (v:=.slice q.ta q.ts.length q.tc) rfl T.u28 rfl yG rfl) ?_
 first
 | (refine WL.val (OV.f0 6 rfl T.u30 rfl) rfl ?_;trace "ALT Jas#7 13d2c21b 0")
 | (refine WL.val (OV.ag (off:=6) rfl T.u30 rfl) rfl ?_;trace "ALT Jas#7 13d2c21b 1")
 refine Zv (OV.l1 (v:=.slice g.ta g.ts.length g.tc) rfl T.u28 rfl yF rfl) ?_
 first
 | (refine WL.val (OV.ad rfl T.u28) rfl ?_;trace "ALT Jas#8 c04edde8 0")
 | (refine WL.val (OV.bg rfl T.u28) rfl ?_;trace "ALT Jas#8 c04edde8 1")
 refine Zv (OV.bh (j:=1) rfl rfl (by omega)) (Zv (OV.e7 (h:=g.ts.length+1) rfl T.u28 T.z85 rfl (by omega)) (Za rfl (Nn (Cs (Hq [] (m:=9) rfl ?_)))));refine Hf 0 rfl (OV.cj rfl) ?_
 first
 | (refine Hf 1 rfl (OV.f0 6 rfl T.u30 rfl) ?_;trace "ALT Jas#9 13d2c21b 0")
 | (refine Hf 1 rfl (OV.ag (off:=6) rfl T.u30 rfl) ?_;trace "ALT Jas#9 13d2c21b 1")
 refine Ht 2 rfl (OV.l1 (v:=.slice g.ta g.ts.length g.tc) rfl T.u28 rfl yF rfl) ?_
 first
 | (refine Hf 3 rfl (OV.ad rfl T.u28) ?_;trace "ALT Jas#10 c04edde8 0")
 | (refine Hf 3 rfl (OV.bg rfl T.u28) ?_;trace "ALT Jas#10 c04edde8 1")
 refine Hf 4 rfl ((OV.ae (show _=some (Value.slice (some q8) (g.ts.length+1) q.tc) by rw [← hq8];rfl) rfl T.u28 T.z85 (by omega)).cast (u:=.pointer (some (q8.add (g.ts.length*7)))) (by rw [xN])) (Ht 5 rfl (OV.am (cs:=tsC TSB) rfl T.u85 rfl T.z85 (fun _ hw j v hj=>hw.keeps _ _ (hc8 j v hj))) (Ht 6 rfl (OV.am (cs:=tsC TSB) rfl T.u85 rfl T.z85 (fun _ hw j v hj=>by rw [Jav,xM];exact hw.keeps _ _ (hT j v hj))) (Hf 7 rfl ((OV.eqlTs (a:=TSB) (b:=TSB) rfl rfl).cast (u:=.bool true) (congrArg Value.bool (xO rfl))) (Hf 8 rfl (OV.assign rfl) (He (Xn (WC.ay ?_)))))));exact WX.ret1 rfl rfl rfl (fun w' hw=>⟨rfl,hw.fr⟩)
structure PRd (w:World) (p:PG):Prop where
 al:RI w p.aa p.al.length p.al
 js:RJ w p.ja p.js
 kn:∀ y∈p.js,RI w y.ka y.kn.length y.kn
 ts:∀ y∈p.js,RI w y.ta y.ts.length y.ts
theorem PRd.keeps {w w':World}{p:PG}(h:PRd w p)(k:Keeps w w'):PRd w' p:=⟨h.al.keeps k,h.js.keeps k,fun y hy=>(h.kn y hy).keeps k,fun y hy=>(h.ts y hy).keeps k⟩
theorem PRd.of_items {w0 ws w:World}{M I:Nat→Prop}{ow:List Hw.Item}{p:PG}(hw:Sat w0 M I ws ow w)(hm:∀ i∈pgA p,i∈ow):PRd w p:=
 ⟨RI.of_row (c:=p.ac) hw (hm _ yF),RJ.of_row (c:=p.jc) hw (hm _ yG),
  fun y hy=>RI.of_row (c:=y.kc) hw (hm _ (yT (.tail _ (List.mem_flatMap.2 ⟨y,hy,.head _⟩)))),
  fun y hy=>RI.of_row (c:=y.tc) hw (hm _ (yT (.tail _ (List.mem_flatMap.2 ⟨y,hy,.tail _ yF⟩))))⟩
structure PSm (p q:PG):Prop where
 al:q.al=p.al
 js:q.js.map (fun y=>(y.a,y.kn,y.ts))=p.js.map (fun y=>(y.a,y.kn,y.ts))
theorem PSm.len {p q:PG}(h:PSm p q):q.js.length=p.js.length:=by have:=congrArg List.length h.js;simpa using this
theorem PSm.at_ {p q:PG}(h:PSm p q){i:Nat}{y z:JG}(hy:p.js[i]?=some y)(hz:q.js[i]?=some z):z.a=y.a∧z.kn=y.kn∧z.ts=y.ts:=by
 have h1:=congrArg (·[i]?) h.js;simp only [xG,hy,hz,Option.map_some,Option.some.injEq,Prod.mk.injEq] at h1;exact h1
structure PSz (p:PG):Prop where
 al:p.al.length≤1099511627776
 js:p.js.length≤1099511627776
 kn:∀ y∈p.js,y.kn.length≤1099511627776
 ts:∀ y∈p.js,y.ts.length≤1099511627776
theorem nI_rf_len (n:Nat)(f:Nat→Bool):(nI ((List.range n).filter f)).length≤n:=by
 unfold nI;rw [xE];exact Jco _ _
theorem Jiw (c:Cl)(lead:Option Nat):∀ (n:Nat) (jo:List Nat) (V:List Int) (A:List Nat) (j:Jn),j∈mkR c lead n jo V A→(∃ V k,j.kn=Jaq V (clA c k))∧∃ V A,j.ts=Jb0 c V A
 | 0,_,_,_,j,h=>by cases h
 | n+1,jo,V,A,j,h=>by
  rcases List.mem_cons.1 h with rfl | h
  ·exact ⟨⟨_,_,rfl⟩,_,_,rfl⟩
  ·exact Jiw c lead n _ _ _ j h
theorem clA_le {g:CG}(hs:CS g)(k:Nat):(clA g.cl k).args.length≤1048576:=by
 cases h:g.bd[k]? with
 | none=>
  have h1:clA g.cl k=default:=by
   unfold clA CG.cl;rw [yD,xG,h];rfl
  rw [h1];exact Nat.zero_le _
 | some y=>
  rw [Jgh h];have h2:=(hs.at_ y (Or.inr (xC h))).1;omega
theorem makeP_sz {p:PG}{g:CG}{lead:Option Nat}(hs:CS g)(ha:p.al=nI (Jbj g.cl))(hj:jnEq p.js (makeP g.cl lead)):PSz p:=by
 have hk:∀ y∈p.js,∃ j∈makeP g.cl lead,y.kn=nI j.kn∧y.ts=nI j.ts:=fun y hy=>by
  have h1:(y.a,y.kn,y.ts)∈(makeP g.cl lead).map fun j=>(j.a,nI j.kn,nI j.ts):=by
   rw [← show p.js.map _=_ from hj];exact List.mem_map.2 ⟨y,hy,rfl⟩
  obtain ⟨j,hjm,he⟩:=List.mem_map.1 h1;simp only [Prod.mk.injEq] at he;exact ⟨j,hjm,he.2.1.symm,he.2.2.symm⟩
 have hts:=hs.tl;have hbl:=hs.bl;refine ⟨?_,?_,fun y hy=>?_,fun y hy=>?_⟩
 ·rw [ha];have h1:(nI (Jbj g.cl)).length≤g.cl.ts.length:=nI_rf_len _ _;have h2:g.cl.ts.length=g.ts.length:=rfl;omega
 ·rw [hj.len,makeP_len];have h2:g.cl.bd.length=g.bd.length:=xE _;omega
 ·obtain ⟨j,hj1,he,_⟩:=hk y hy;obtain ⟨⟨V,k,hv⟩,_⟩:=Jiw _ _ _ _ _ _ j hj1;have h1:=Jgc V (clA g.cl k);have h2:=clA_le hs k;rw [he,hv,show (nI (Jaq V (clA g.cl k))).length=(Jaq V (clA g.cl k)).length from xE _];omega
 ·obtain ⟨j,hj1,_,he⟩:=hk y hy;obtain ⟨_,V,A,hv⟩:=Jiw _ _ _ _ _ _ j hj1;have h1:(nI (Jb0 g.cl V A)).length≤g.cl.ts.length:=nI_rf_len _ _;have h2:g.cl.ts.length=g.ts.length:=rfl;rw [he,hv];omega
theorem Jef (l:List Int)(a1 a2:Option Addr)(c1 c2:Nat)(hl:l.length≤1099511627776)(w:World)(hr1:RI w a1 l.length l)(hr2:RI w a2 l.length l):Calls Tryz.prog 42 #[.slice a1 l.length c1,.slice a2 l.length c2] w fun e w'=>e=.returned (.bool true)∧Fr0 w w':=by
 refine Jbi (args:=[.slice a1 l.length c1,.slice a2 l.length c2]) (fun _=>False) Tryz.func42 rfl Tryz.ntmps42 rfl rfl ?_;refine Csr (Za rfl (Nn (Cs (Csr (Zm rfl ?_)))))
 first
 | (refine WL.val (OV.ad rfl T.u32) rfl ?_;trace "ALT Jef#0 c04edde8 0")
 | (refine WL.val (OV.bg rfl T.u32) rfl ?_;trace "ALT Jef#0 c04edde8 1")
 refine Zm rfl ?_
 first
 | (refine WL.val (OV.ad rfl T.u32) rfl ?_;trace "ALT Jef#1 c04edde8 0")
 | (refine WL.val (OV.bg rfl T.u32) rfl ?_;trace "ALT Jef#1 c04edde8 1")
 refine Zv ((OV.fb rfl rfl).cast (u:=.bool false) (by simp)) (Nn (WC.ca (show _=some (Value.bool false) from by rfl) ?_));refine Ck (Xn (Cs (Csr (Za rfl (Nn (Cb ?_))))))
 refine WC.bz (fun (i:Nat)=>[(0,.slice a1 l.length c1),(1,.slice a2 l.length c2),(5,.int .i64 (i:Int))])
   (fun i w'=>i≤l.length∧Sat0 w ([]) w')
   (fun i=>l.length - i) 0 Y3 (fun w' hw=>⟨by omega,hw⟩) ?_
 intro i;refine WC.pure (fun hi=>?_);refine Cs (Csr (Zm rfl (Zm rfl ?_)))
 first
 | (refine WL.val (OV.ad rfl T.u32) rfl ?_;trace "ALT Jef#2 c04edde8 0")
 | (refine WL.val (OV.bg rfl T.u32) rfl ?_;trace "ALT Jef#2 c04edde8 1")
 refine Zv (OV.cu rfl rfl) (Nn ?_);refine Cc rfl (fun c14=>?_) (fun c14=>?_)
 ·refine Ck (Xn (Cs (Cb (Cs ?_))));obtain ⟨q1,hq1⟩:=hr1.some (by omega);obtain ⟨q2,hq2⟩:=hr2.some (by omega);subst hq1 hq2;obtain ⟨u,hu⟩:∃ u,l[i]?=some u:=⟨_,xD (by omega)⟩
  refine Hq [] (m:=9) rfl ?_;refine Hf 0 rfl (OV.cj rfl) (Hf 1 rfl (OV.cj rfl) (Hf 2 rfl ((OV.ae rfl rfl T.u32 T.z3 (by omega)).cast (u:=.pointer (some (q1.add i))) (by rw [xN,Nat.mul_one])) (Ht 3 rfl (OV.ap (v:=.int .i64 u) rfl T.u3 rfl (fun _ hw=>hw.keeps _ _ (ri_at hr1 hu))) (Hf 4 rfl (OV.cj rfl) (Hf 5 rfl (OV.cj rfl) (Hf 6 rfl ((OV.ae rfl rfl T.u32 T.z3 (by omega)).cast (u:=.pointer (some (q2.add i))) (by rw [xN,Nat.mul_one])) (Ht 7 rfl (OV.ap (v:=.int .i64 u) rfl T.u3 rfl (fun _ hw=>hw.keeps _ _ (ri_at hr2 hu))) (Hf 8 rfl ((OV.fb rfl rfl).cast (u:=.bool false) (by simp)) (He (Xn (WC.ca (show _=some (Value.bool false) from by rfl) ?_)))))))))));refine Ck (Xb (Xn (Cr (Zm rfl (Zv (OV.bh (j:=1) rfl rfl (by omega)) (Za rfl (Nl ?_)))))));exact WX.au (i+1) Y3 (fun w' hw=>⟨by omega,hw⟩) (by show l.length - (i+1)<l.length - i;omega)
 refine Ce (Xe (Xe (Xh (Xn (Csr (Za rfl (Nn (WC.ay ?_))))))));exact WX.ret1 rfl rfl rfl (fun w' hw=>⟨rfl,hw.fr⟩)
theorem Jbm (p q:PG)(hs:PSz p)(hm:PSm p q)(w:World)(hp:PRd w p)(hq:PRd w q):Calls Tryz.prog 9 #[pgV p,pgV q] w fun e w'=>e=.returned (.bool true)∧Fr0 w w':=by
 have hjl:=hm.len;have hjz:=hs.js;refine Jbi (args:=[pgV p,pgV q]) (fun _=>False) Tryz.func9 rfl Tryz.ntmps9 rfl rfl ?_;refine Csr (WL.box rfl rfl rfl ?_);intro b2;refine WL.box rfl rfl rfl ?_;intro b3;refine Za rfl (Nn (Cs (Csr ?_)))
 first
 | (refine WL.val (OV.f0 0 rfl T.u35 rfl) rfl ?_;trace "ALT Jbm#0 182ae830 0")
 | (refine WL.val (OV.ag (off:=0) rfl T.u35 rfl) rfl ?_;trace "ALT Jbm#0 182ae830 1")
 refine Zv (OV.l1 (v:=.slice p.aa p.al.length p.ac) rfl T.u32 rfl yG rfl) ?_
 first
 | (refine WL.val (OV.f0 0 rfl T.u35 rfl) rfl ?_;trace "ALT Jbm#1 182ae830 0")
 | (refine WL.val (OV.ag (off:=0) rfl T.u35 rfl) rfl ?_;trace "ALT Jbm#1 182ae830 1")
 refine Zv (OV.l1 (v:=.slice q.aa q.al.length q.ac) rfl T.u32 rfl yF rfl) ?_
 refine WL.c0 (v:=.bool true) (vs:=[.slice p.aa p.al.length p.ac,.slice q.aa q.al.length q.ac]) (fun w' hw'=>by
  have h9:=Jef p.al p.aa q.aa p.ac q.ac hs.al w' (hp.al.keeps hw'.keeps) (by rw [← hm.al];exact hq.al.keeps hw'.keeps);rw [← hm.al] at h9 ⊢;exact h9) ?_
 refine Zv (OV.not rfl) (Zm rfl (WL.known (t:=14) (b:=false) rfl (by rfl) ?_));refine yW ?_
 first
 | (refine WL.val (OV.f0 1 rfl T.u35 rfl) rfl ?_;trace "ALT Jbm#2 d61bba88 0")
 | (refine WL.val (OV.ag (off:=1) rfl T.u35 rfl) rfl ?_;trace "ALT Jbm#2 d61bba88 1")
 refine yW (Zv (OV.l1 (v:=.slice p.ja p.js.length p.jc) rfl T.u33 rfl yG rfl) (yW ?_))
 first
 | (refine WL.val (OV.ad rfl T.u33) rfl ?_;trace "ALT Jbm#3 c04edde8 0")
 | (refine WL.val (OV.bg rfl T.u33) rfl ?_;trace "ALT Jbm#3 c04edde8 1")
 refine yW ?_
 first
 | (refine WL.val (OV.f0 1 rfl T.u35 rfl) rfl ?_;trace "ALT Jbm#4 d61bba88 0")
 | (refine WL.val (OV.ag (off:=1) rfl T.u35 rfl) rfl ?_;trace "ALT Jbm#4 d61bba88 1")
 refine yW (Zv (OV.l1 (v:=.slice q.ja q.js.length q.jc) rfl T.u33 rfl yF rfl) (yW ?_))
 first
 | (refine WL.val (OV.ad rfl T.u33) rfl ?_;trace "ALT Jbm#5 c04edde8 0")
 | (refine WL.val (OV.bg rfl T.u33) rfl ?_;trace "ALT Jbm#5 c04edde8 1")
 refine yW (Zv ((OV.fb rfl rfl).cast (u:=.bool false) (by rw [hjl];simp)) (Zv (OV.ai rfl rfl) (Nn (WC.ca (show _=some (Value.bool false) from by rfl) ?_))));refine Ck (Xn (Cs (Csr (Za rfl (Nn (Cb ?_))))))
 refine WC.bz (fun (i:Nat)=>[(2,yX b2),(3,yX b3),(5,.int .i64 (i:Int))])
   (fun i w'=>i≤p.js.length∧Sat0 w (oQ b3 (pgC q) 35::oQ b2 (pgC p) 35::[]) w')
   (fun i=>p.js.length - i) 0 Y3 (fun w' hw=>⟨by omega,hw⟩) ?_
 intro i;refine WC.pure (fun hi=>?_);refine Cs (Csr (Zm rfl ?_))
 first
 | (refine WL.val (OV.f0 1 rfl T.u35 rfl) rfl ?_;trace "ALT Jbm#6 d61bba88 0")
 | (refine WL.val (OV.ag (off:=1) rfl T.u35 rfl) rfl ?_;trace "ALT Jbm#6 d61bba88 1")
 refine Zv (OV.l1 (v:=.slice p.ja p.js.length p.jc) rfl T.u33 rfl yG rfl) ?_
 first
 | (refine WL.val (OV.ad rfl T.u33) rfl ?_;trace "ALT Jbm#7 c04edde8 0")
 | (refine WL.val (OV.bg rfl T.u33) rfl ?_;trace "ALT Jbm#7 c04edde8 1")
 refine Zv (OV.cu rfl rfl) (Nn ?_);refine Cc rfl (fun c27=>?_) (fun c27=>?_)
 ·refine Ck (Xn (Cs (Cb (Cs ?_))));obtain ⟨q1,y,hq1,hy,hym,hc1⟩:=hp.js.get (i:=i) (by omega);obtain ⟨q2,z,hq2,hz,hzm,hc2⟩:=hq.js.get (i:=i) (by omega);obtain ⟨hsa,hsk,hst⟩:=hm.at_ hy hz;refine Cr ?_
  first
  | (refine WL.val (OV.f0 1 rfl T.u35 rfl) rfl ?_;trace "ALT Jbm#8 d61bba88 0")
  | (refine WL.val (OV.ag (off:=1) rfl T.u35 rfl) rfl ?_;trace "ALT Jbm#8 d61bba88 1")
  refine Zv (OV.l1 (v:=.slice p.ja p.js.length p.jc) rfl T.u33 rfl yG rfl) (Zm rfl (Zv ((OV.ae (show _=some (Value.slice (some q1) p.js.length p.jc) by rw [← hq1];rfl) rfl T.u33 T.z93 (by omega)).cast (u:=.pointer (some (q1.add (i*3)))) (by rw [xN])) (Zv (OV.am (cs:=jgC y) rfl T.u93 rfl T.z93 (fun _ hw j v hj=>hw.keeps _ _ (hc1 j v hj))) (WL.alloc T.zr93 rfl ?_))));intro b6;refine WL.aj (vs:=jgC y) rfl rfl rfl T.z93 rfl ?_;refine Nn (Csr ?_)
  first
  | (refine WL.val (OV.f0 1 rfl T.u35 rfl) rfl ?_;trace "ALT Jbm#9 d61bba88 0")
  | (refine WL.val (OV.ag (off:=1) rfl T.u35 rfl) rfl ?_;trace "ALT Jbm#9 d61bba88 1")
  refine Zv (OV.l1 (v:=.slice q.ja q.js.length q.jc) rfl T.u33 rfl yG rfl) (Zm rfl (Zv ((OV.ae (show _=some (Value.slice (some q2) q.js.length q.jc) by rw [← hq2];rfl) rfl T.u33 T.z93 (by omega)).cast (u:=.pointer (some (q2.add (i*3)))) (by rw [xN])) (Zv (OV.am (cs:=jgC z) rfl T.u93 rfl T.z93 (fun _ hw j v hj=>hw.keeps _ _ (hc2 j v hj))) (WL.alloc T.zr93 rfl ?_))));intro b7;refine WL.aj (vs:=jgC z) rfl rfl rfl T.z93 rfl ?_;refine Nn (Csr ?_)
  first
  | (refine WL.val (OV.f0 0 rfl T.u93 rfl) rfl ?_;trace "ALT Jbm#10 182ae830 0")
  | (refine WL.val (OV.ag (off:=0) rfl T.u93 rfl) rfl ?_;trace "ALT Jbm#10 182ae830 1")
  refine Zv (OV.l1 (v:=.int .i64 (y.a:Int)) rfl T.u3 rfl yG rfl) ?_
  first
  | (refine WL.val (OV.f0 0 rfl T.u93 rfl) rfl ?_;trace "ALT Jbm#11 182ae830 0")
  | (refine WL.val (OV.ag (off:=0) rfl T.u93 rfl) rfl ?_;trace "ALT Jbm#11 182ae830 1")
  refine Zv (OV.l1 (v:=.int .i64 (z.a:Int)) rfl T.u3 rfl yF rfl) (Zv ((OV.fb rfl rfl).cast (u:=.bool false) (by rw [hsa];simp)) (Zm rfl (WL.known (t:=45) (b:=false) rfl (by rfl) ?_)));refine yW ?_
  first
  | (refine WL.val (OV.f0 1 rfl T.u93 rfl) rfl ?_;trace "ALT Jbm#12 d61bba88 0")
  | (refine WL.val (OV.ag (off:=1) rfl T.u93 rfl) rfl ?_;trace "ALT Jbm#12 d61bba88 1")
  refine yW (Zv (OV.l1 (v:=.slice y.ka y.kn.length y.kc) rfl T.u32 rfl yG rfl) (yW ?_))
  first
  | (refine WL.val (OV.f0 1 rfl T.u93 rfl) rfl ?_;trace "ALT Jbm#13 d61bba88 0")
  | (refine WL.val (OV.ag (off:=1) rfl T.u93 rfl) rfl ?_;trace "ALT Jbm#13 d61bba88 1")
  refine yW (Zv (OV.l1 (v:=.slice z.ka z.kn.length z.kc) rfl T.u32 rfl yF rfl) (yW ?_))
  refine WL.c0 (v:=.bool true) (vs:=[.slice y.ka y.kn.length y.kc,.slice z.ka z.kn.length z.kc]) (fun w' hw'=>by
   have h9:=Jef y.kn y.ka z.ka y.kc z.kc (hs.kn y hym) w' ((hp.kn y hym).keeps hw'.keeps) (by rw [← hsk];exact (hq.kn z hzm).keeps hw'.keeps);rw [← hsk] at h9 ⊢;exact h9) ?_
  refine yW (Zv (OV.not rfl) (Zv (OV.ai rfl rfl) (Zm rfl (WL.known (t:=53) (b:=false) rfl (by rfl) ?_))));refine yW ?_
  first
  | (refine WL.val (OV.f0 2 rfl T.u93 rfl) rfl ?_;trace "ALT Jbm#14 a6112a0d 0")
  | (refine WL.val (OV.ag (off:=2) rfl T.u93 rfl) rfl ?_;trace "ALT Jbm#14 a6112a0d 1")
  refine yW (Zv (OV.l1 (v:=.slice y.ta y.ts.length y.tc) rfl T.u32 rfl yG rfl) (yW ?_))
  first
  | (refine WL.val (OV.f0 2 rfl T.u93 rfl) rfl ?_;trace "ALT Jbm#15 a6112a0d 0")
  | (refine WL.val (OV.ag (off:=2) rfl T.u93 rfl) rfl ?_;trace "ALT Jbm#15 a6112a0d 1")
  refine yW (Zv (OV.l1 (v:=.slice z.ta z.ts.length z.tc) rfl T.u32 rfl yF rfl) (yW ?_))
  refine WL.c0 (v:=.bool true) (vs:=[.slice y.ta y.ts.length y.tc,.slice z.ta z.ts.length z.tc]) (fun w' hw'=>by
   have h9:=Jef y.ts y.ta z.ta y.tc z.tc (hs.ts y hym) w' ((hp.ts y hym).keeps hw'.keeps) (by rw [← hst];exact (hq.ts z hzm).keeps hw'.keeps);rw [← hst] at h9 ⊢;exact h9) ?_
  refine yW (Zv (OV.not rfl) (Zv (OV.ai rfl rfl) (Nn (WC.ca (show _=some (Value.bool false) from by rfl) ?_))));refine Ck (Xb (Xn (Cr (Zm rfl (Zv (OV.bh (j:=1) rfl rfl (by omega)) (Za rfl (Nl ?_)))))));exact WX.au (i+1) Y3 (fun w' hw=>⟨by omega,hw.pik [[oQ b7 (jgC z) 93],[oQ b6 (jgC y) 93],[oQ b3 (pgC q) 35],[oQ b2 (pgC p) 35]] [2,3] 4⟩) (by show p.js.length - (i+1)<p.js.length - i;omega)
 refine Ce (Xe (Xe (Xh (Xn (Csr (Za rfl (Nn (WC.ay ?_))))))));exact WX.ret1 rfl rfl rfl (fun w' hw=>⟨rfl,hw.fr⟩)
set_option maxHeartbeats 1000000 in
theorem makes_bad (g:CG)(hs:CS g)(lead:Int)(hb:refC g.cl lead≠0)(w:World)(hN:Jdi w)(hC:Jfk w)(hB:Jdj w)(hT:Jfu w)(hr:RC w g):Calls Tryz.prog 3 #[cgV g,.int .i64 lead] w fun e w'=>e=.returned (.bool true)∧Fr0 w w':=by
 refine Jbi (args:=[cgV g,.int .i64 lead]) (fun _=>False) Tryz.func3 rfl Tryz.ntmps3 rfl rfl ?_;refine Csr (WL.box rfl rfl rfl ?_);intro b2;refine Za rfl (Nn (Csr (Zv (OV.lN (cs:=cgC g) rfl T.u30 rfl T.z30 yF) (WL.cT (ι:=CG) (vs:=[cgV g]) (vv:=fun q=>cgV q) (pp:=fun q=>LCok g q) [] (AA:=fun q=>lcI q) rfl (fun w' hw' _=>Jar g hs w' (hB.keeps hw'.keeps) (hT.keeps hw'.keeps) (hr.keeps hw'.keeps)) ?_))));rintro q hk;have hsq:CS q:=CS.of_cl hk.cl hs;refine WL.alloc T.zr30 rfl ?_;intro b5;refine WL.aj (vs:=cgC q) rfl rfl rfl T.z30 rfl ?_;refine Nn (Csr (Zv (OV.lN (cs:=cgC q) rfl T.u30 rfl T.z30 yF) (Zm rfl ?_)));have hbq:refC q.cl lead≠0:=by rw [hk.cl];exact hb
 refine WL.c0 (v:=.tuple #[pgV (⟨none,0,[],none,0,[]⟩:PG),.int .i64 (refC g.cl lead)]) (vs:=[cgV q,.int .i64 lead]) (fun w' hw'=>by
  have h9:=make_bad q hsq lead hbq w' (hN.keeps hw'.keeps) (hC.keeps hw'.keeps) (LC.of_items hw' (fun i hi=>.tail _ (xA _ hi))).rc;rw [hk.cl] at h9;exact h9) ?_
 refine Zm rfl (Zv (OV.extract rfl rfl) (Zv (OV.extract rfl rfl) (WL.alloc T.zr35 rfl ?_)));intro b6;refine WL.aj (vs:=pgC (⟨none,0,[],none,0,[]⟩:PG)) rfl rfl rfl T.z35 rfl ?_;refine Za rfl (Nn (Csr (Zv (OV.lN (cs:=cgC g) rfl T.u30 rfl T.z30 (show oQ b2 (cgC g) 30∈_ by simp)) (Zm rfl (WL.c0 (v:=.tuple #[pgV (⟨none,0,[],none,0,[]⟩:PG),.int .i64 (refC g.cl lead)]) (vs:=[cgV g,.int .i64 lead]) (fun w' hw'=>rmake_bad g hs lead hb w' (hr.keeps hw'.keeps)) ?_)))));refine Zm rfl (Zv (OV.extract rfl rfl) (Zv (OV.extract rfl rfl) (WL.alloc T.zr35 rfl ?_)));intro bb8;refine WL.aj (vs:=pgC (⟨none,0,[],none,0,[]⟩:PG)) rfl rfl rfl T.z35 rfl ?_;refine Za rfl (Nn (Cs (WC.focus (ow':=oQ bb8 (pgC (⟨none,0,[],none,0,[]⟩:PG)) 35::oQ b6 (pgC (⟨none,0,[],none,0,[]⟩:PG)) 35::oQ b5 (cgC q) 30::oQ b2 (cgC g) 30::lcI q) (pmC [[oQ bb8 (pgC (⟨none,0,[],none,0,[]⟩:PG)) 35],[oQ b6 (pgC (⟨none,0,[],none,0,[]⟩:PG)) 35],[oQ b5 (cgC q) 30],lcI q,[oQ b2 (cgC g) 30]] [0,1,2,4,3]) ?_)));refine Cr (Zm rfl (Zm rfl (Zv ((OV.dq rfl rfl).cast (u:=.bool true) (by simp)) (Zm rfl (WL.known (t:=27) (b:=true) rfl (by rfl) ?_)))));refine yW (Zv (OV.lN (cs:=pgC (⟨none,0,[],none,0,[]⟩:PG)) rfl T.u35 rfl T.z35 yG) (yW (Zv (OV.lN (cs:=pgC (⟨none,0,[],none,0,[]⟩:PG)) rfl T.u35 rfl T.z35 yF) (yW (WL.c0 (v:=.bool true) (vs:=[pgV (⟨none,0,[],none,0,[]⟩:PG),pgV (⟨none,0,[],none,0,[]⟩:PG)]) (fun w' hw'=>Jbm (⟨none,0,[],none,0,[]⟩:PG) (⟨none,0,[],none,0,[]⟩:PG) ⟨by simp,by simp,fun y hy=>by simp at hy,fun y hy=>by simp at hy⟩ ⟨rfl,rfl⟩ w' ⟨RI.nil _,⟨fun _=>rfl,fun q hq=>by cases hq⟩,fun y hy=>by simp at hy,fun y hy=>by simp at hy⟩ ⟨RI.nil _,⟨fun _=>rfl,fun q hq=>by cases hq⟩,fun y hy=>by simp at hy,fun y hy=>by simp at hy⟩) ?_)))));refine Zv (OV.ak rfl rfl) (Zm rfl (WL.known (t:=32) (b:=true) rfl (by rfl) ?_));refine yW (Zv (OV.lN (cs:=cgC q) rfl T.u30 rfl T.z30 yH) (yW (Zv (OV.lN (cs:=cgC g) rfl T.u30 rfl T.z30 yI) (yW (WL.c0 (v:=.bool true) (vs:=[cgV q,cgV g]) (fun w' hw'=>Jas g q hs hk w' (hB.keeps hw'.keeps) (hT.keeps hw'.keeps) (LC.of_items hw' (fun i hi=>.tail _ (yT (.tail _ (.tail _ hi))))) (hr.keeps hw'.keeps)) ?_)))));refine Zv (OV.ak rfl rfl) (Zm rfl (WL.known (t:=37) (b:=true) rfl (by rfl) ?_));refine yW (WL.c0 (v:=.bool true) (vs:=[]) (fun w' hw'=>first_calls w' (hN.keeps hw'.keeps) (hC.keeps hw'.keeps)) ?_);refine Zv (OV.ak rfl rfl) (Za rfl (Nn (WC.ay ?_)));exact WX.ret1 rfl rfl rfl (fun w' hw=>⟨rfl,hw.fr⟩)
set_option maxHeartbeats 1000000 in
theorem makes_good (g:CG)(hs:CS g)(hv:VC g.cl)(lead:Option Nat)(hld:∀ l,lead=some l→l<g.cl.bd.length)(w:World)(hN:Jdi w)(hC:Jfk w)(hB:Jdj w)(hT:Jfu w)(hr:RC w g):Calls Tryz.prog 3 #[cgV g,.int .i64 (leadI lead)] w fun e w'=>e=.returned (.bool true)∧Fr0 w w':=by
 refine Jbi (args:=[cgV g,.int .i64 (leadI lead)]) (fun _=>False) Tryz.func3 rfl Tryz.ntmps3 rfl rfl ?_;refine Csr (WL.box rfl rfl rfl ?_);intro b2;refine Za rfl (Nn (Csr (Zv (OV.lN (cs:=cgC g) rfl T.u30 rfl T.z30 yF) (WL.cT (ι:=CG) (vs:=[cgV g]) (vv:=fun q=>cgV q) (pp:=fun q=>LCok g q) [] (AA:=fun q=>lcI q) rfl (fun w' hw' _=>Jar g hs w' (hB.keeps hw'.keeps) (hT.keeps hw'.keeps) (hr.keeps hw'.keeps)) ?_))));rintro q hk;have hsq:CS q:=CS.of_cl hk.cl hs;refine WL.alloc T.zr30 rfl ?_;intro b5;refine WL.aj (vs:=cgC q) rfl rfl rfl T.z30 rfl ?_;refine Nn (Csr (Zv (OV.lN (cs:=cgC q) rfl T.u30 rfl T.z30 yF) (Zm rfl ?_)));have hvq:VC q.cl:=by rw [hk.cl];exact hv
 refine WL.cT (ι:=PG) (vs:=[cgV q,.int .i64 (leadI lead)]) (vv:=fun p=>.tuple #[pgV p,.int .i64 0]) (pp:=fun p=>p.al=nI (Jbj g.cl)∧jnEq p.js (makeP g.cl lead)) [] (AA:=fun p=>pgA p) rfl (fun w' hw' _=>by
  have h9:=make_calls q hsq hvq lead (by rw [hk.cl];exact hld) w' (hN.keeps hw'.keeps) (hC.keeps hw'.keeps) (LC.of_items hw' (fun i hi=>.tail _ (xA _ hi))).rc;rw [hk.cl] at h9;exact h9) ?_
 rintro p ⟨hpa,hpj⟩;refine Zm rfl (Zv (OV.extract rfl rfl) (Zv (OV.extract rfl rfl) (WL.alloc T.zr35 rfl ?_)));intro b6;refine WL.aj (vs:=pgC p) rfl rfl rfl T.z35 rfl ?_;refine Za rfl (Nn (Csr (Zv (OV.lN (cs:=cgC g) rfl T.u30 rfl T.z30 (show oQ b2 (cgC g) 30∈_ by simp)) (Zm rfl (WL.cT (ι:=PG) (vs:=[cgV g,.int .i64 (leadI lead)]) (vv:=fun p=>.tuple #[pgV p,.int .i64 0]) (pp:=fun p=>p.al=nI (Jbj g.cl)∧jnEq p.js (makeP g.cl lead)) [] (AA:=fun p=>pgA p) rfl (fun w' hw' _=>Jan g hs hv lead hld w' (hr.keeps hw'.keeps)) ?_)))));rintro p2 ⟨hpa2,hpj2⟩;refine Zm rfl (Zv (OV.extract rfl rfl) (Zv (OV.extract rfl rfl) (WL.alloc T.zr35 rfl ?_)));intro bb8;refine WL.aj (vs:=pgC p2) rfl rfl rfl T.z35 rfl ?_;refine Za rfl (Nn (Cs (WC.focus (ow':=oQ bb8 (pgC p2) 35::oQ b6 (pgC p) 35::oQ b5 (cgC q) 30::oQ b2 (cgC g) 30::(lcI q++(pgA p++pgA p2))) (pmC [[oQ bb8 (pgC p2) 35],pgA p2,[oQ b6 (pgC p) 35],pgA p,[oQ b5 (cgC q) 30],lcI q,[oQ b2 (cgC g) 30]] [0,2,4,6,5,3,1]) ?_)));refine Cr (Zm rfl (Zm rfl (Zv ((OV.dq rfl rfl).cast (u:=.bool true) (by simp)) (Zm rfl (WL.known (t:=27) (b:=true) rfl (by rfl) ?_)))));refine yW (Zv (OV.lN (cs:=pgC p) rfl T.u35 rfl T.z35 yG) (yW (Zv (OV.lN (cs:=pgC p2) rfl T.u35 rfl T.z35 yF) (yW (WL.c0 (v:=.bool true) (vs:=[pgV p,pgV p2]) (fun w' hw'=>Jbm p p2 (makeP_sz hs hpa hpj) ⟨by rw [hpa,hpa2],by rw [show p2.js.map _=_ from hpj2,show p.js.map _=_ from hpj]⟩ w' (PRd.of_items hw' (fun i hi=>.tail _ (yT (.tail _ (yT (xB _ (xA _ hi))))))) (PRd.of_items hw' (fun i hi=>.tail _ (yT (.tail _ (yT (xB _ (xB _ hi)))))))) ?_)))));refine Zv (OV.ak rfl rfl) (Zm rfl (WL.known (t:=32) (b:=true) rfl (by rfl) ?_));refine yW (Zv (OV.lN (cs:=cgC q) rfl T.u30 rfl T.z30 yH) (yW (Zv (OV.lN (cs:=cgC g) rfl T.u30 rfl T.z30 yI) (yW (WL.c0 (v:=.bool true) (vs:=[cgV q,cgV g]) (fun w' hw'=>Jas g q hs hk w' (hB.keeps hw'.keeps) (hT.keeps hw'.keeps) (LC.of_items hw' (fun i hi=>.tail _ (yT (.tail _ (yT (xA _ hi)))))) (hr.keeps hw'.keeps)) ?_)))));refine Zv (OV.ak rfl rfl) (Zm rfl (WL.known (t:=37) (b:=true) rfl (by rfl) ?_));refine yW (WL.c0 (v:=.bool true) (vs:=[]) (fun w' hw'=>first_calls w' (hN.keeps hw'.keeps) (hC.keeps hw'.keeps)) ?_);refine Zv (OV.ak rfl rfl) (Za rfl (Nn (WC.ay ?_)));exact WX.ret1 rfl rfl rfl (fun w' hw=>⟨rfl,hw.fr⟩)
theorem planMakes_calls (g:CG)(hs:CS g)(lead:Int)(w:World)(hN:Jdi w)(hC:Jfk w)(hB:Jdj w)(hT:Jfu w)(hr:RC w g):Calls Tryz.prog 3 #[cgV g,.int .i64 lead] w fun e w'=>e=.returned (.bool true)∧Fr0 w w':=by
 by_cases hb:refC g.cl lead=0
 ·have hc:chkC g.cl=0:=by
   unfold refC at hb
   split at hb
   ·rename_i h;exact absurd hb h
   ·rename_i h;exact Decidable.not_not.1 h
  have hv:=VC.of_chk hc
  have hl:¬(lead < -1∨(g.cl.bd.length:Int)≤lead):=fun h=>by
   rw [refC_made hv,if_pos h] at hb;exact absurd hb (by decide)
  obtain ⟨l,rfl,hld⟩:=lead_cases lead _ hl;exact makes_good g hs hv l hld w hN hC hB hT hr
 ·exact makes_bad g hs lead hb w hN hC hB hT hr
end Go.Proofs.YtdgigbopibdflaaGreatDoor
