/- Contracts of functions of the program: what each returns and leaves in memory. Printed by gen.py and walk.py. A new slice of structs; slices.SortFunc on elements of one cell where cmp lays blocks. The library's sort of rows lies in the loaded program as on the kit's shelf. -/
import Derived.Test.YtdgigbopibdflaaGreatDoorMg15
import Derived.Test.YtdgigbopibdflaaGreatDoorHxA
import Derived.Test.YtdgigbopibdflaaGreatDoorMg12
import Derived.Test.YtdgigbopibdflaaGreatDoorProg
set_option maxRecDepth 10000
namespace Go.Proofs.YtdgigbopibdflaaGreatDoor
open Go Go.Hw
set_option linter.unusedSimpArgs false
set_option linter.unusedVariables false
abbrev nI (l:List Nat):List Int:=l.map fun n:Nat=>(n:Int)
def refC (c:Cl)(lead:Int):Int:=if chkC c≠0 then chkC c else if lead < -1∨(c.bd.length:Int)≤lead then 91 else 0
def KM (w:World)(m:Nat)(V:List Int):Prop:=w.heap[m]?=some (mapK iV (cntM V))
theorem KM.fr0 {w w':World}{m:Nat}{V:List Int}(h:KM w m V)(hf:Fr0 w w'):KM w' m V:=(hf.keep m (Array.getElem?_eq_some_iff.1 h).1 (fun h=>h)).trans h
theorem Jgx {V V':List Int}(h:∀ v,v∈V↔v∈V')(t:Tm):knB V t=knB V' t:=by
 unfold knB;rw [decide_eq_decide.2 (h t.n)]
theorem Jee {V V':List Int}(h:∀ v,v∈V↔v∈V')(x:At):Jaq V x=Jaq V' x:=by
 unfold Jaq;exact List.filter_congr fun i _=>Jgx h _
theorem readyB_congr {V V':List Int}(h:∀ v,v∈V↔v∈V')(t:Ts):Jf8 V t=Jf8 V' t:=by
 unfold Jf8;rw [Jgx h,Jgx h]
theorem btr_congr {V V':List Int}(h:∀ v,v∈V↔v∈V')(x y:At):btr V x y=btr V' x y:=by
 unfold btr;rw [Jee h,Jee h]
theorem nextP_congr {V V':List Int}(h:∀ v,v∈V↔v∈V')(c:Cl)(jo:List Nat):nextP c jo V=nextP c jo V':=by
 unfold nextP
 have e:nxF c jo V=nxF c jo V':=funext fun b=>funext fun i=>by
  unfold nxF;simp only [btr_congr h]
 rw [e]
structure JG where
 a:Nat
 ka:Option Addr
 kc:Nat
 kn:List Int
 ta:Option Addr
 tc:Nat
 ts:List Int
def jgC (y:JG):List Value:=[.int .i64 (y.a:Int),.slice y.ka y.kn.length y.kc,.slice y.ta y.ts.length y.tc]
theorem jgC_len (y:JG):(jgC y).length=3:=rfl
theorem jgC_one (y:JG):∀ v∈jgC y,v.oneCell'=true:=by simp [jgC,Value.oneCell']
abbrev rowJ (a:Option Addr)(c:Nat)(ys:List JG):Hw.Item:=row 93 3 a ys.length c (ys.flatMap jgC)
theorem T.apJ:appB Tryz.prog 33 93 3 56=true:=by kernel_rfl
structure RJ (w:World) (a:Option Addr) (ys:List JG):Prop where
 nil:a=none→ys.length=0
 at_:∀ q,a=some q→∀ i y,ys[i]?=some y→∀ j v,(jgC y)[j]?=some v→w.cell? ((q.add (i*3)).add j)=some v
theorem RJ.keeps {w w':World}{a:Option Addr}{ys:List JG}(h:RJ w a ys)(k:Keeps w w'):RJ w' a ys:=⟨h.nil,fun q hq i t ht j v hv=>k _ _ (h.at_ q hq i t ht j v hv)⟩
theorem RJ.get {w:World}{a:Option Addr}{ys:List JG}(h:RJ w a ys){i:Nat}(hi:i<ys.length):∃ q t,a=some q∧ys[i]?=some t∧t∈ys∧∀ j v,(jgC t)[j]?=some v→w.cell? ((q.add (i*3)).add j)=some v:=by
 cases a with
 | none=>have:=h.nil rfl;omega
 | some q=>exact ⟨q,ys[i],rfl,xD hi,List.getElem_mem hi,h.at_ q rfl i _ (xD hi)⟩
theorem RJ.of_row {w0 ws w:World}{M I:Nat→Prop}{ow:List Hw.Item}{a:Option Addr}{c:Nat}{ys:List JG}(hw:Sat w0 M I ws ow w)(hm:rowJ a c ys∈ow):RJ w a ys:=by
 refine ⟨fun ha=>?_,fun q hq i t ht j v hv=>?_⟩
 ·rcases (Jdl hw hm).2 with ⟨_,h,_⟩ | ⟨b,hb,_⟩
  ·exact h
  ·rw [ha] at hb;cases hb
 ·subst hq;have hj:j<3:=(List.getElem?_eq_some_iff.1 hv).1;have h1:=Jdu hw hm (i*3+j) v (by rw [Jcq jgC_len ys i j t ht hj];exact hv);rwa [Jdz] at h1
theorem Jck (p:Nat→Bool)(i:Nat):(List.range (i+1)).filter p=(List.range i).filter p++(if p i=true then [i] else []):=by
 rw [List.range_succ,List.filter_append]
 by_cases h:p i=true
 ·rw [if_pos h,List.filter_cons_of_pos h];rfl
 ·rw [if_neg h,List.filter_cons_of_neg h];rfl
theorem Jco (p:Nat→Bool)(i:Nat):((List.range i).filter p).length≤i:=by
 have:=List.length_filter_le p (List.range i);rwa [List.length_range] at this
theorem refused_calls (g:CG)(hs:CS g)(lead:Int)(w:World)(hN:Jdi w)(hC:Jfk w)(hr:RC w g):Calls Tryz.prog 30 #[cgV g,.int .i64 lead] w fun e w'=>e=.returned (.int .i64 (refC g.cl lead))∧Fr0 w w':=by
 refine Jbi (args:=[cgV g,.int .i64 lead]) (fun _=>False) Tryz.func30 rfl Tryz.ntmps30 rfl rfl ?_;refine Csr (WL.box rfl rfl rfl ?_);intro b2;refine Za rfl (Nn (Cs (Csr (Zv (OV.lN (cs:=cgC g) rfl T.u30 rfl T.z30 yF) (WL.aw (v:=.int .i64 (chkC g.cl)) (by kernel_rfl) rfl rfl (fun w' hw'=>check_calls g hs w' (hN.keeps hw'.keeps) (hC.keeps hw'.keeps) (hr.keeps hw'.keeps)) ?_)))));refine Za rfl (Nn (Csr (Zm rfl (Zv (OV.fb rfl rfl) (Nn ?_)))));refine Cc rfl (fun c9=>?_) (fun c9=>?_)
 ·refine Csr (Zm rfl (Za rfl (Nn (WC.ay ?_))));refine Xr ?_;exact WX.ret1 rfl rfl rfl (fun w' hw=>⟨by unfold refC;rw [if_pos c9],hw.fr⟩)
 refine Ck (Xn (Cs (Csr (Zm rfl (Zv (OV.cu rfl rfl) (Zm rfl ?_))))));refine Zp (t:=13) rfl (fun g13=>?_) (fun g13=>?_)
 ·refine yV (yV (yV (yV (yV (Zv (OV.ak rfl rfl) (Nn (WC.cm (show _=some (Value.bool true) from by rfl) ?_)))))));refine Csr (Za rfl (Nn (WC.ay ?_)));refine Xr ?_;exact WX.ret1 rfl rfl rfl (fun w' hw=>⟨by unfold refC;rw [if_neg (fun h=>h c9),if_pos (Or.inl g13)],hw.fr⟩)
 refine yW (Zm rfl (yW (Zv (OV.f0 5 rfl T.u30 rfl) (yW (Zv (OV.l1 (v:=.slice g.ba g.bd.length g.bc) rfl T.u27 rfl yF rfl) (yW (Zv (OV.ad rfl T.u27) (yW (Zv (OV.fx rfl rfl) (Zv (OV.ai rfl rfl) (Nn ?_)))))))))));refine Cc rfl (fun c19=>?_) (fun c19=>?_)
 ·refine Csr (Za rfl (Nn (WC.ay ?_)));refine Xr ?_;have hbl:g.cl.bd.length=g.bd.length:=xE _;exact WX.ret1 rfl rfl rfl (fun w' hw=>⟨by unfold refC;rw [if_neg (fun h=>h c9),if_pos (Or.inr (by rw [hbl];exact c19))],hw.fr⟩)
 refine Ck (Xn (Csr (Za rfl (Nn (WC.ay ?_)))));have hbl:g.cl.bd.length=g.bd.length:=xE _;exact WX.ret1 rfl rfl rfl (fun w' hw=>⟨by unfold refC;rw [if_neg (fun h=>h c9),if_neg (by rw [hbl];omega)],hw.fr⟩)
theorem columns_calls (x:At)(a:Option Addr)(c:Nat)(hl:x.args.length≤1048576)(w:World)(hr:RT w a x.args):Calls Tryz.prog 93 #[atV x a c] w fun e w'=>∃ b lc,e=.returned (.slice (some ⟨b,0,none⟩) (plc x).length lc)∧Turns [] [rowT (some ⟨b,0,none⟩) lc (plc x)] w w':=by
 refine Jbi (args:=[atV x a c]) (fun _=>False) Tryz.func93 rfl Tryz.ntmps93 rfl rfl ?_;refine Csr (WL.box rfl rfl rfl ?_);intro b1;refine Za rfl (Nn (Csr (Zv (OV.f0 0 rfl T.u26 rfl) (Zv (OV.am (cs:=tmC x.b) rfl T.u23 rfl T.z23 (fun _ hw j v hj=>by rw [Jav];exact Jbk hw yF (o:=0) (cs':=tmC x.b) rfl j v hj)) (WL.bo (cs:=tmC x.b) T.u24 T.z23 T.zr23 rfl rfl (by omega) (by omega) rfl ?_)))));intro b5;refine WL.weak (S':=Sat0 w (row 23 3 (some ⟨b5,0,none⟩) 1 1 (tmC x.b)::oQ b1 (atC x a c) 26::[])) (fun w' hw=>hw.asRow (m:=1) rfl (by decide)) ?_;refine Zv (OV.f0 4 rfl T.u26 rfl) (Zv (OV.l1 (v:=.slice a x.args.length c) rfl T.u24 rfl yG rfl) (WL.append (news:=x.args.flatMap tmC) rfl rfl T.apT (fun _ _=>Src.of_rt hr.nil (fun _ hw=>hr.keeps hw.keeps)) (Je9 _) ⟨by omega,by unfold maxLen;omega⟩ rfl ?_));intro a8 c8;refine Za rfl (Nn (WC.ay ?_));have el:1+x.args.length=(plc x).length:=by simp [plc];omega
 have ef:tmC x.b++x.args.flatMap tmC=(plc x).flatMap tmC:=rfl;rw [el,ef];refine WX.jk (fun w' hw=>(show ∃ b,a8=some ⟨b,0,none⟩ from Jfd (hw.it (rowT a8 c8 (plc x)) yF) (by simp [plc]))) (fun hq=>?_);obtain ⟨bq,rfl⟩:=hq;exact WX.ret1 rfl rfl rfl (fun w' hw=>⟨bq,c8,rfl,(hw.pik [[rowT (some ⟨bq,0,none⟩) c8 (plc x)],[oQ b1 (atC x a c) 26]] [0] 2).turned0⟩)
theorem pknown_calls (x:At)(a:Option Addr)(c:Nat)(V:List Int)(m:Nat)(hl:x.args.length≤1048575)(w:World)(hr:RT w a x.args)(hM:KM w m V):Calls Tryz.prog 33 #[atV x a c,.map (some m)] w fun e w'=>∃ z:Option Addr × Nat,e=.returned (.slice z.1 (nI (Jaq V x)).length z.2)∧Turns [] [rowI z.1 z.2 (nI (Jaq V x))] w w':=by
 refine Jbi (args:=[atV x a c,.map (some m)]) (fun _=>False) Tryz.func33 rfl Tryz.ntmps33 rfl rfl ?_;refine Csr (WL.box rfl rfl rfl ?_);intro b2;refine Za rfl (Nn (Csr (Za rfl (Nn (Cs (Csr (Zv (OV.lN (cs:=atC x a c) rfl T.u26 rfl T.z26 yF) (WL.cT (ι:=Nat × Nat) (vs:=[atV x a c]) (vv:=fun q=>.slice (some ⟨q.1,0,none⟩) (plc x).length q.2) (pp:=fun _=>True) [] (AA:=fun q=>[rowT (some ⟨q.1,0,none⟩) q.2 (plc x)]) rfl (fun w' hw' _=>(columns_calls x a c (by omega) w' (hr.keeps hw'.keeps)).mono (fun en w'' ⟨b,lc,q1,q2⟩=>⟨(b,lc),q1,trivial,q2⟩)) ?_))))))));rintro ⟨pb,pc⟩ _;have hpl:(plc x).length=x.args.length+1:=by simp [plc]
 refine Zv (OV.ad rfl T.u24) (Zm rfl (Nn (Cb (WC.weak (S':=Sat0 w (row 3 1 none 0 0 []::rowT (some ⟨pb,0,none⟩) pc (plc x)::oQ b2 (atC x a c) 26::[])) (fun w' hw=>hw.rowNil 3 1) ?_))))
 refine WC.d8 (fun (i:Nat) (la:Option Addr) (lc:Nat) (l:List Int)=>[(1,.map (some m)),(5,.slice la l.length lc),(9,.slice (some ⟨pb,0,none⟩) (plc x).length pc),(10,.int .i64 ((plc x).length:Int)),(11,.int .i64 (i:Int))])
   (fun i la lc l w'=>(i≤(plc x).length∧l=nI ((List.range i).filter (fun i=>knB V ((plc x).getD i T0)))∧l.length≤i)∧Sat0 w (rowI la lc l::rowT (some ⟨pb,0,none⟩) pc (plc x)::oQ b2 (atC x a c) 26::[]) w')
   (fun i _ _ _=>(plc x).length - i) 0 none 0 [] Y5 (fun w' hw=>⟨⟨by omega,rfl,by simp⟩,hw⟩) ?_
 intro i la lc l;refine WC.pure (fun hi=>?_);obtain ⟨hi,hle,hll⟩:=hi;refine Csr (Zv (OV.cu rfl rfl) (Nn (Cs ?_)));refine Cc rfl (fun c12=>?_) (fun c12=>?_)
 ·refine Ck (Xn (Cs (Cb (Csr (Zm rfl ?_)))));obtain ⟨t,ht⟩:∃ t,(plc x)[i]?=some t:=⟨_,xD (by omega)⟩
  have htd:(plc x).getD i T0=t:=by rw [yD,ht];rfl
  refine Zv ((OV.ae rfl rfl T.u24 T.z23 (by omega)).cast (u:=.pointer (some ((⟨pb,0,none⟩:Addr).add (i*3)))) (by rw [xN])) (Zv (OV.am (cs:=tmC t) rfl T.u23 rfl T.z23 (fun _ hw j v hj=>(RT.of_row (c:=pc) rfl hw yG:RT _ (some ⟨pb,0,none⟩) (plc x)).at_ _ rfl i t ht j v hj)) (WL.alloc T.zr23 rfl ?_));intro b7;refine Za rfl (WL.aj (vs:=tmC t) rfl rfl rfl T.z23 rfl ?_);refine Nn (Cs ?_);refine WC.fw [(1,.map (some m)),(5,.slice la l.length lc),(6,.int .i64 (i:Int)),(9,.slice (some ⟨pb,0,none⟩) (plc x).length pc),(10,.int .i64 ((plc x).length:Int)),(11,.int .i64 (i:Int)),(25,.bool (knB V t))] (Sat0 w (oQ b7 (tmC t) 23::rowI la lc l::rowT (some ⟨pb,0,none⟩) pc (plc x)::oQ b2 (atC x a c) 26::[])) ?_ ?_
  ·refine Cr (Zv (OV.lN (cs:=tmC t) rfl T.u23 rfl T.z23 yF) (WL.aw (v:=.bool (varB t)) (by kernel_rfl) rfl rfl (fun w' hw'=>Jcr t w') ?_));refine Zv (OV.not rfl) (Zm rfl ?_);refine Zp (t:=19) rfl (fun g19=>?_) (fun g19=>?_)
   ·refine yV (yV (yV (yV (yV (Zv (OV.ak rfl rfl) (Nl ?_))))));have ek:knB V t=true:=by unfold knB;rw [show varB t=false by simpa using g19];rfl
    exact WX.dt ⟨rfl,rfl,rfl,rfl,rfl,rfl,by rw [ek];rfl,trivial⟩ (fun w' hw=>hw)
   refine yW (Zm rfl (yW (Zv (OV.f0 1 rfl T.u23 rfl) (yW (Zv (OV.l1 (v:=.int .i64 t.n) rfl T.u3 rfl yF rfl) (yW (Zv ((OV.lookup Jir T.u87 (show Program.zv Tryz.prog 3=some (.int .i64 0) by kernel_rfl) rfl rfl (fun _ hw=>hM.fr0 hw.fr)).cast (u:=.int .i64 ((V.count t.n:Nat):Int)) (Jfy _ _)) (yW (Zv (OV.ia rfl rfl) (Zv (OV.ai rfl rfl) (Nl ?_)))))))))));have ek:knB V t=decide (((V.count t.n:Nat):Int) > 0):=by unfold knB;rw [show varB t=true by simpa using g19];exact decide_eq_decide.2 cnt_pos.symm
   exact WX.dt ⟨rfl,rfl,rfl,rfl,rfl,rfl,by rw [ek];rfl,trivial⟩ (fun w' hw=>hw)
  refine Cc rfl (fun c25=>?_) (fun c25=>?_)
  ·refine Cr (Zm rfl (Zm rfl (WL.br T.u32 T.z3 T.zr3 rfl rfl rfl ?_)));intro b28;refine WL.focus (ow':=rowI la lc l::oQ b28 [Value.int .i64 (i:Int)] 3::oQ b7 (tmC t) 23::rowT (some ⟨pb,0,none⟩) pc (plc x)::oQ b2 (atC x a c) 26::[]) (pmP [_,_,_,_,_] [2,0,1,3,4]) ?_;refine WL.append (news:=ints [(i:Int)]) rfl rfl T.apI (fun _ _=>Jd5 yG rfl) (Jdf [(i:Int)]) ⟨by omega,by unfold maxLen;omega⟩ rfl ?_;intro a29 c29;refine Za rfl (Nl (Xb (Xn (Cr (Zv (OV.bh (j:=1) rfl rfl (by omega)) (Zm rfl (Nl ?_)))))));have el:l.length+1=(l++[(i:Int)]).length:=by simp
   have ef:ints l++ints [(i:Int)]=ints (l++[(i:Int)]):=by simp [ints]
   rw [el,ef]
   exact WX.cg (i+1) a29 c29 (l++[(i:Int)]) Y5 (fun w' hw=>⟨⟨by omega,by
    rw [Jck,show knB V ((plc x).getD i T0)=true by rw [htd];exact c25,if_pos rfl,hle];simp,by simp;omega⟩,by
    exact hw.pik [[rowI a29 c29 (l++[(i:Int)])],[oQ b28 [Value.int .i64 (i:Int)] 3],[oQ b7 (tmC t) 23],[rowT (some ⟨pb,0,none⟩) pc (plc x)],[oQ b2 (atC x a c) 26]] [0,3,4] 5⟩) (by show (plc x).length - (i+1)<(plc x).length - i;omega)
  refine Ck (Xb (Xn (Cr (Zv (OV.bh (j:=1) rfl rfl (by omega)) (Zm rfl (Nl ?_))))))
  exact WX.cg (i+1) la lc l Y5 (fun w' hw=>⟨⟨by omega,by
   rw [Jck,show knB V ((plc x).getD i T0)=false by rw [htd];exact c25,if_neg (by simp),xX];exact hle,by omega⟩,hw.drop⟩) (by show (plc x).length - (i+1)<(plc x).length - i;omega)
 refine Ce (Xe (Xe (Xh (Xn (Csr (Zm rfl (Za rfl (Nn (WC.ay ?_)))))))));obtain rfl:i=(plc x).length:=by omega
 have hle2:l=nI (Jaq V x):=hle;subst hle2;exact WX.ret1 rfl rfl rfl (fun w' hw=>⟨(la,lc),rfl,(hw.pik [[rowI la lc (nI (Jaq V x))],[rowT (some ⟨pb,0,none⟩) pc (plc x)],[oQ b2 (atC x a c) 26]] [0] 3).turned0⟩)
theorem pready_calls (t:Ts)(V:List Int)(m:Nat)(w:World)(hM:KM w m V):Calls Tryz.prog 31 #[tsV t,.map (some m)] w fun e w'=>e=.returned (.tuple #[.bool (Jf8 V t),.bool (varB t.l || varB t.r)])∧Fr0 w w':=by
 refine Jbi (args:=[tsV t,.map (some m)]) (fun _=>False) Tryz.func31 rfl Tryz.ntmps31 rfl rfl ?_;refine Csr (WL.box rfl rfl rfl ?_);intro b2;refine Za rfl (Za rfl (Nn (Csr (Za rfl (Za rfl (Nn (Cs (Csr (Zv (OV.f0 1 rfl T.u85 rfl) (Zv (OV.am (cs:=tmC t.l) rfl T.u23 rfl T.z23 (fun _ hw j v hj=>by rw [Jav];exact Jbk hw yF (o:=1) (cs':=tmC t.l) rfl j v hj)) (Zv (OV.f0 4 rfl T.u85 rfl) (Zv (OV.am (cs:=tmC t.r) rfl T.u23 rfl T.z23 (fun _ hw j v hj=>by rw [Jav];exact Jbk hw yF (o:=4) (cs':=tmC t.r) rfl j v hj)) (WL.buildSliceB (xs:=[.tmp 11,.tmp 13]) (css:=[tmC t.l,tmC t.r]) rfl T.u24 T.z23 T.zr23 rfl rfl (by simp [tmC]) (by decide) (by decide) rfl ?_)))))))))))));intro b14;refine Zv (OV.ad rfl T.u24) (Zm rfl (Nn (Cb ?_)))
 refine WC.bz (fun (i:Nat)=>[(1,.map (some m)),(6,.bool (([t.l,t.r].take i).all (knB V))),(7,.bool (([t.l,t.r].take i).any varB)),(14,.slice (some ⟨b14,0,none⟩) 2 2),(15,.int .i64 2),(16,.int .i64 (i:Int))])
   (fun i w'=>i≤2∧Sat0 w (own b14 (.cells [tmC t.l,tmC t.r].flatten.toArray 23 (0,0))::oQ b2 (tsC t) 85::[]) w')
   (fun i=>2 - i) 0 Y6 (fun w' hw=>⟨by omega,hw⟩) ?_
 intro i;refine WC.pure (fun hi=>?_);refine Csr (Zv (OV.cu rfl rfl) (Nn (Cs ?_)));refine Cc rfl (fun c17=>?_) (fun c17=>?_)
 ·refine Ck (Xn (Cs (Cb (Csr ?_))));obtain ⟨u,hu⟩:∃ u,[t.l,t.r][i]?=some u:=⟨_,xD (by show i<2;omega)⟩
  refine Zv ((OV.ae rfl rfl T.u24 T.z23 (by omega)).cast (u:=.pointer (some ((⟨b14,0,none⟩:Addr).add (i*3)))) (by rw [xN])) ?_;refine WL.val (OV.am (cs:=tmC u) rfl T.u23 rfl T.z23 (fun _ hw j v hj=>by rw [Jav,xM,Jav];exact Jbt hw yF (i*3+j) v (by have hj3:j<3:=(List.getElem?_eq_some_iff.1 hj).1;rw [show [tmC t.l,tmC t.r].flatten=[t.l,t.r].flatMap tmC from rfl,Jcq Jdk _ i j u hu hj3];exact hj))) rfl ?_;refine WL.alloc T.zr23 rfl ?_;intro b9;refine WL.aj (vs:=tmC u) rfl rfl rfl T.z23 rfl ?_;refine Nn (Csr (Zv (OV.lN (cs:=tmC u) rfl T.u23 rfl T.z23 yF) (WL.aw (v:=.bool (varB u)) (by kernel_rfl) rfl rfl (fun w' hw'=>Jcr u w') ?_)));refine Nn ?_;refine Cc rfl (fun c21=>?_) (fun c21=>?_)
  ·refine Csr (Za rfl (Nn (Cr (Zm rfl (Zm rfl ?_)))));refine Zp (t:=23) rfl (fun g23=>?_) (fun g23=>?_)
   ·refine yW (Zm rfl (yW (Zv (OV.f0 1 rfl T.u23 rfl) (yW (Zv (OV.l1 (v:=.int .i64 u.n) rfl T.u3 rfl yF rfl) (yW (Zv ((OV.lookup Jir T.u87 (show Program.zv Tryz.prog 3=some (.int .i64 0) by kernel_rfl) rfl rfl (fun _ hw=>hM.fr0 hw.fr)).cast (u:=.int .i64 ((V.count u.n:Nat):Int)) (Jfy _ _)) (yW (Zv (OV.ia rfl rfl) (Zv (OV.ak rfl rfl) (Za rfl (Nl (Xb (Xn (Cr (Zv (OV.bh (j:=1) rfl rfl (by omega)) (Zm rfl (Nl ?_))))))))))))))))));have es:(([t.l,t.r].take (i+1)).any varB)=true:=by rw [Jb1 hu,List.any_append];simp [c21]
    have ek:(([t.l,t.r].take (i+1)).all (knB V))=decide (((V.count u.n:Nat):Int) > 0):=by rw [Jb1 hu,List.all_append,g23];simp only [List.all_cons,List.all_nil,Bool.and_true,Bool.true_and];unfold knB;rw [c21];exact decide_eq_decide.2 cnt_pos.symm
    exact WX.au (i+1) ⟨rfl,by rw [ek];rfl,by rw [es];rfl,rfl,rfl,rfl,trivial⟩ (fun w' hw=>⟨by omega,hw.drop⟩) (by show 2 - (i+1)<2 - i;omega)
   refine yV (yV (yV (yV (yV (Zv (OV.ai rfl rfl) (Za rfl (Nl (Xb (Xn (Cr (Zv (OV.bh (j:=1) rfl rfl (by omega)) (Zm rfl (Nl ?_)))))))))))));have es:(([t.l,t.r].take (i+1)).any varB)=true:=by rw [Jb1 hu,List.any_append];simp [c21]
   have ek:(([t.l,t.r].take (i+1)).all (knB V))=false:=by rw [Jb1 hu,List.all_append,g23];rfl
   exact WX.au (i+1) ⟨rfl,by rw [ek];rfl,by rw [es];rfl,rfl,rfl,rfl,trivial⟩ (fun w' hw=>⟨by omega,hw.drop⟩) (by show 2 - (i+1)<2 - i;omega)
  refine Ck (Xb (Xn (Cr (Zv (OV.bh (j:=1) rfl rfl (by omega)) (Zm rfl (Nl ?_))))));have es:(([t.l,t.r].take (i+1)).any varB)=(([t.l,t.r].take i).any varB):=by rw [Jb1 hu,List.any_append];simp [c21]
  have ea:(([t.l,t.r].take (i+1)).all (knB V))=(([t.l,t.r].take i).all (knB V)):=by rw [Jb1 hu,List.all_append];simp [knB,c21]
  exact WX.au (i+1) ⟨rfl,by rw [ea];rfl,by rw [es];rfl,rfl,rfl,rfl,trivial⟩ (fun w' hw=>⟨by omega,hw.drop⟩) (by show 2 - (i+1)<2 - i;omega)
 refine Ce (Xe (Xe (Xh (Xn (Csr (Zm rfl (Zm rfl (Za rfl (Za rfl (Nn (WC.ay ?_)))))))))));obtain rfl:i=2:=by omega
 have e1:(([t.l,t.r].take 2).all (knB V))=Jf8 V t:=by show (knB V t.l && (knB V t.r && true))=_;rw [Bool.and_true];rfl
 have e2:(([t.l,t.r].take 2).any varB)=(varB t.l || varB t.r):=by show (varB t.l || (varB t.r || false))=_;rw [Bool.or_false]
 exact WX.ret2 rfl rfl rfl rfl (fun w' hw=>⟨by rw [e1,e2],hw.fr⟩)
theorem nextF_calls (y:JG)(q:Nat)(i:Nat)(w:World)(hq:w.cell? ⟨q,0,none⟩=some (.int .i64 (i:Int))):Calls Tryz.prog 90 #[.agg (jgC y).toArray,ptr q] w fun e w'=>e=.returned (.bool (decide (y.a=i)))∧Fr0 w w':=by
 refine Jbi (args:=[.agg (jgC y).toArray,ptr q]) (fun _=>False) Tryz.func90 rfl Tryz.ntmps90 rfl rfl ?_;refine Csr (WL.box rfl rfl rfl ?_);intro b2;refine Za rfl (Nn (Csr (Zv (OV.f0 0 rfl T.u93 rfl) (Zv (OV.l1 (v:=.int .i64 (y.a:Int)) rfl T.u3 rfl yF rfl) (Zv (OV.ap (v:=.int .i64 (i:Int)) rfl T.u3 rfl (fun _ hw=>hw.keeps _ _ hq)) (Zv (OV.dq rfl rfl) (Za rfl (Nn (WC.ay ?_)))))))));exact WX.ret1 rfl rfl rfl (fun w' hw=>⟨by congr 2;exact decide_eq_decide.2 (by omega),hw.fr⟩)
theorem indexJ_calls (ys:List JG)(a:Option Addr)(c q i0:Nat)(hl:ys.length≤1099511627776)(w:World)(hr:RJ w a ys)(hq:w.cell? ⟨q,0,none⟩=some (.int .i64 (i0:Int))):Calls Tryz.prog 136 #[.slice a ys.length c,.func (.func 90) #[] #[ptr q]] w fun e w'=>∃ k:Int,e=.returned (.int .i64 k)∧(0≤k↔i0∈ys.map JG.a)∧Fr0 w w':=by
 refine Jbi (args:=[.slice a ys.length c,.func (.func 90) #[] #[ptr q]]) (fun _=>False) Tryz.func136 rfl Tryz.ntmps136 rfl rfl ?_;refine Csr (Za rfl (Nn (Cs (Csr (Zm rfl (Zv (OV.ad rfl T.u33) (Zm rfl (Nn (Cb ?_)))))))))
 refine WC.bz (fun (i:Nat)=>[(0,.slice a ys.length c),(1,.func (.func 90) #[] #[ptr q]),(7,.int .i64 (ys.length:Int)),(8,.int .i64 (i:Int))])
   (fun i w'=>(i≤ys.length∧∀ y∈ys.take i,y.a≠i0)∧Sat0 w ([]) w')
   (fun i=>ys.length - i) 0 Y4 (fun w' hw=>⟨⟨by omega,fun u hu=>by simp at hu⟩,hw⟩) ?_
 intro i;refine WC.pure (fun hi=>?_);obtain ⟨hi,hn⟩:=hi;refine Csr (Zv (OV.cu rfl rfl) (Nn (Cs ?_)));refine Cc rfl (fun c9=>?_) (fun c9=>?_)
 ·refine Ck (Xn (Cs (Cb (Csr (Zm rfl (Za rfl (Nn (Csr (Zm rfl (Zm rfl (Zm rfl ?_)))))))))));obtain ⟨q1,y,hq1,hy,hym,hc⟩:=hr.get (i:=i) (by omega);refine Zv ((OV.ae (show _=some (Value.slice (some q1) ys.length c) by rw [← hq1];rfl) rfl T.u33 T.z93 (by omega)).cast (u:=.pointer (some (q1.add (i*3)))) (by rw [xN])) (Zv (OV.am (cs:=jgC y) rfl T.u93 rfl T.z93 (fun _ hw j v hj=>hw.keeps _ _ (hc j v hj))) (WL.ew (ι:=Unit) (f:=90) (caps:=[ptr q]) (vs:=[.agg (jgC y).toArray]) (vv:=fun _=>.bool (decide (y.a=i0))) (SS:=fun _=>Sat0 w ([])) (by kernel_rfl) rfl rfl rfl (fun w' hw'=>(nextF_calls y q i0 w' (hw'.keeps _ _ hq)).mono (fun en w'' ⟨h1,h2⟩=>⟨(),h1,hw'.keep h2⟩)) ?_));intro _;refine Nn ?_;refine Cc rfl (fun c16=>?_) (fun c16=>?_)
  ·refine Csr (Zm rfl (Za rfl (Nn (WC.ay ?_))));refine Xq (Xr (Xr (Xq (Xr ?_))));exact WX.ret1 rfl rfl rfl (fun w' hw=>⟨(i:Int),rfl,⟨fun _=>List.mem_map.2 ⟨y,hym,c16⟩,fun _=>by omega⟩,hw.fr⟩)
  refine Ck (Xb (Xn (Cr (Zv (OV.bh (j:=1) rfl rfl (by omega)) (Zm rfl (Nl ?_))))))
  exact WX.au (i+1) Y4 (fun w' hw=>⟨⟨by omega,fun z hz=>by
   rw [Jb1 hy] at hz;rcases List.mem_append.1 hz with h1 | h1
   ·exact hn z h1
   ·simp only [xI] at h1;rw [h1];exact c16⟩,hw⟩) (by show ys.length - (i+1)<ys.length - i;omega)
 refine Ce (Xe (Xe (Xh (Xn (Csr (Za rfl (Nn (WC.ay ?_))))))));exact WX.ret1 rfl rfl rfl (fun w' hw=>⟨-1,rfl,⟨fun h=>absurd h (by omega),fun h=>by obtain ⟨z,hz,h2⟩:=List.mem_map.1 h;exact absurd h2 (hn z (by rw [xK (by omega)];exact hz))⟩,hw.fr⟩)
theorem contJ_calls (ys:List JG)(a:Option Addr)(c q i0:Nat)(hl:ys.length≤1099511627776)(w:World)(hr:RJ w a ys)(hq:w.cell? ⟨q,0,none⟩=some (.int .i64 (i0:Int))):Calls Tryz.prog 89 #[.slice a ys.length c,.func (.func 90) #[] #[ptr q]] w fun e w'=>e=.returned (.bool (decide (i0∈ys.map JG.a)))∧Fr0 w w':=by
 refine Jbi (args:=[.slice a ys.length c,.func (.func 90) #[] #[ptr q]]) (fun _=>False) Tryz.func89 rfl Tryz.ntmps89 rfl rfl ?_;refine Csr (Za rfl (Nn (Csr (Zm rfl (Zm rfl (WL.i5 (ι:=Int) (vs:=[.slice a ys.length c,.func (.func 90) #[] #[ptr q]]) (vv:=fun k=>.int .i64 k) (SS:=fun k w'=>(0≤k↔i0∈ys.map JG.a)∧Sat0 w ([]) w') (by kernel_rfl) rfl rfl (fun w' hw'=>(indexJ_calls ys a c q i0 hl w' (hr.keeps hw'.keeps) (hw'.keeps _ _ hq)).mono (fun en w'' ⟨k,h1,h2,h3⟩=>⟨k,h1,h2,hw'.keep h3⟩)) ?_))))));intro k;refine WL.pure (fun hk=>?_);refine Zv (OV.fx rfl rfl) (Za rfl (Nn (WC.ay ?_)));exact WX.ret1 rfl rfl rfl (fun w' hw=>⟨by congr 2;exact decide_eq_decide.2 hk,hw.fr⟩)
theorem Jgc (V:List Int)(x:At):(Jaq V x).length≤x.args.length+1:=by
 have:=Jco (fun i=>knB V ((plc x).getD i T0)) (plc x).length;have h2:(plc x).length=x.args.length+1:=by simp [plc]
 unfold Jaq;omega
theorem btr_or (V:List Int)(x z:At):(orL [cmpN ((Jaq V z).length:Int) ((nI (Jaq V x)).length:Int),cmpN ((x.args.length+1 - (nI (Jaq V x)).length:Nat):Int) ((z.args.length+1 - (Jaq V z).length:Nat):Int)]<0)↔btr V x z=true:=by
 unfold btr nI;rw [xE]
 by_cases h:(Jaq V x).length=(Jaq V z).length
 ·rw [if_neg (by simpa using h)];have e:cmpN ((Jaq V z).length:Int) ((Jaq V x).length:Int)=0:=by unfold cmpN;rw [if_neg (by omega),if_neg (by omega)]
  rw [decide_eq_true_eq,show ∀ a b:Int,a=0→orL [a,b]=b from fun a b ha=>by subst ha;simp only [orL];split <;> simp_all,h]
  ·unfold cmpN
   split
   ·rename_i h1;constructor <;> intro _ <;> omega
   ·split <;> constructor <;> intro h2 <;> omega
  ·exact e
 ·rw [if_pos (by simpa using h),decide_eq_true_eq];have hne:cmpN ((Jaq V z).length:Int) ((Jaq V x).length:Int)≠0:=by unfold cmpN;split;simp;split;simp;omega
  rw [show ∀ a b:Int,a≠0→orL [a,b]=a from fun a b ha=>by simp only [orL];rw [if_pos ha]]
  ·unfold cmpN
   split
   ·constructor <;> intro _ <;> omega
   ·split <;> constructor <;> intro h2 <;> omega
  ·exact hne
theorem Jf9 (c:Cl)(jo:List Nat)(V:List Int)(i:Nat):(List.range (i+1)).foldl (nxF c jo V) none=nxF c jo V ((List.range i).foldl (nxF c jo V) none) i:=by rw [List.range_succ,List.foldl_append];rfl
theorem pnext_calls (g:CG)(hs:CS g)(js:List JG)(ja:Option Addr)(jc:Nat)(V:List Int)(m:Nat)(hjl:js.length≤1048576)(w:World)(hr:RC w g)(hj:RJ w ja js)(hM:KM w m V):Calls Tryz.prog 32 #[cgV g,.slice ja js.length jc,.map (some m)] w fun e w'=>e=.returned (.int .i64 ((nextP g.cl (js.map JG.a) V).elim (-1:Int) fun z:Nat=>(z:Int)))∧Fr0 w w':=by
 refine Jbi (args:=[cgV g,.slice ja js.length jc,.map (some m)]) (fun _=>False) Tryz.func32 rfl Tryz.ntmps32 rfl rfl ?_;refine Csr (WL.box rfl rfl rfl ?_);intro b3;refine Za rfl (Nn (Csr (WL.buildSlice0 T.u32 T.z3 rfl ?_)));intro b14;refine Za rfl (Za rfl (Nn (Cs (Csr (Zv (OV.f0 5 rfl T.u30 rfl) ?_)))));have hbl:=hs.bl;refine Zv (OV.l1 (v:=.slice g.ba g.bd.length g.bc) rfl T.u27 rfl yG rfl) (Zv (OV.ad rfl T.u27) (Zm rfl (Nn (Cb ?_))))
 refine WC.d8 (fun (i:Nat) (b:Option Nat) (ma:Option Addr) (mc:Nat)=>[(1,.slice ja js.length jc),(2,.map (some m)),(3,yX b3),(7,.int .i64 (b.elim (-1:Int) fun z:Nat=>(z:Int))),(8,.slice ma (b.elim 0 fun z:Nat=>(Jaq V (clA g.cl z)).length) mc),(16,.slice g.ba g.bd.length g.bc),(17,.int .i64 (g.bd.length:Int)),(18,.int .i64 (i:Int))])
   (fun i b ma mc w'=>(i≤g.bd.length∧b=(List.range i).foldl (nxF g.cl (js.map JG.a) V) none∧∀ z,b=some z→z<g.bd.length)∧Sat0 w (oQ b3 (cgC g) 30::[]) w')
   (fun i _ _ _=>g.bd.length - i) 0 none (some ⟨b14,0,none⟩) 0 Y8 (fun w' hw=>⟨⟨by omega,rfl,fun z hz=>by cases hz⟩,hw.drop⟩) ?_
 intro i b ma mc;refine WC.pure (fun hi=>?_);obtain ⟨hi,hb,hbz⟩:=hi;refine Csr (Zv (OV.cu rfl rfl) (Nn (Cs ?_)));refine Cc rfl (fun c19=>?_) (fun c19=>?_)
 ·refine Ck (Xn (Cs (Cb (Csr (Zm rfl ?_)))));obtain ⟨q1,y,hq,ht,htm,hra,hc⟩:=hr.bd.get (i:=i) (by omega);refine Zv ((OV.ae (show _=some (Value.slice (some q1) g.bd.length g.bc) by rw [← hq];rfl) rfl T.u27 T.z26 (by omega)).cast (u:=.pointer (some (q1.add (i*5)))) (by rw [xN])) (Zv (OV.am (cs:=agC y) rfl T.u26 rfl T.z26 (fun _ hw j v hj=>hw.keeps _ _ (hc j v hj))) (WL.alloc T.zr3 rfl ?_));intro b9;refine WL.alloc T.zr26 rfl ?_;intro b10;refine WL.focus perm1 (WL.cd (o:=0) rfl rfl rfl T.z3 Nat.zero_lt_one ?_);refine WL.focus perm1 (WL.aj (vs:=agC y) rfl rfl rfl T.z26 rfl ?_);refine Nn (Cs (Csr (Zm rfl (Zv (OV.makeFunc rfl) (WL.aw (v:=.bool (decide (i∈js.map JG.a))) (by kernel_rfl) rfl rfl (fun w' hw'=>contJ_calls js ja jc b9 i (by omega) w' (hj.keeps hw'.keeps) (Jbn (hw'.it (oQ b9 [Value.int .i64 (i:Int)] 3) yG) (o:=0) rfl).1) ?_)))));refine Nn ?_;refine Cc rfl (fun c25=>?_) (fun c25=>?_)
  ·refine Ce (Xe (Xh (Xn (Cr (Zv (OV.bh (j:=1) rfl rfl (by omega)) (Zm rfl (Nl ?_)))))));exact WX.cg (i+1) b ma mc Y8 (fun w' hw=>⟨⟨by omega,by rw [Jf9,← hb];unfold nxF;rw [if_pos c25],hbz⟩,hw.drop.drop⟩) (by show g.bd.length - (i+1)<g.bd.length - i;omega)
  refine Ck (Xn (Csr (Zv (OV.lN (cs:=agC y) rfl T.u26 rfl T.z26 yF) (Zm rfl ?_))));have hsy:=hs.at_ y (Or.inr htm);refine WL.cT (ι:=Option Addr × Nat) (vs:=[atV y.x y.a y.c,.map (some m)]) (vv:=fun z=>.slice z.1 (nI (Jaq V y.x)).length z.2) (pp:=fun _=>True) [] (AA:=fun z=>[rowI z.1 z.2 (nI (Jaq V y.x))]) rfl (fun w' hw' _=>(pknown_calls y.x y.a y.c V m hsy.1 w' (hra.keeps hw'.keeps) (hM.fr0 hw'.fr)).mono (fun en w'' ⟨z,h1,h2⟩=>⟨z,h1,trivial,h2⟩)) ?_;rintro ⟨ka,kc⟩ _;refine Za rfl (Nn (Cs (Csr (Zm rfl (Zv (OV.fx rfl rfl) (Nn ?_))))));refine WC.fw [(1,.slice ja js.length jc),(2,.map (some m)),(3,yX b3),(9,yX b9),(11,.slice ka (nI (Jaq V y.x)).length kc),(16,.slice g.ba g.bd.length g.bc),(17,.int .i64 (g.bd.length:Int)),(18,.int .i64 (i:Int))] (fun w'=>nxF g.cl (js.map JG.a) V b i=some i∧Sat0 w (rowI ka kc (nI (Jaq V y.x))::oQ b10 (agC y) 26::oQ b9 [Value.int .i64 (i:Int)] 3::oQ b3 (cgC g) 30::[]) w') ?_ ?_
  ·refine Cc rfl (fun c30=>?_) (fun c30=>?_)
   ·refine Cs ?_
    obtain ⟨z0,hz0⟩:∃ z,b=some z:=by
     cases b with
     | none=>exact absurd c30 (by decide)
     | some z=>exact ⟨z,rfl⟩
    subst hz0;obtain ⟨q2,z,hqz,htz,htmz,hraz,hcz⟩:=hr.bd.get (i:=z0) (hbz z0 rfl);have hsz:=hs.at_ z (Or.inr htmz);have hz0l:=hbz z0 rfl;have hk1:=Jgc V y.x;have hk2:(nI (Jaq V y.x)).length=(Jaq V y.x).length:=xE _;have hk3:=Jgc V (clA g.cl z0);have hk4:(clA g.cl z0).args.length=z.x.args.length:=by rw [Jgh htz]
    rw [show (Option.elim (some z0) (-1:Int) fun z:Nat=>(z:Int))=(z0:Int) from rfl,show (Option.elim (some z0) 0 fun z:Nat=>(Jaq V (clA g.cl z)).length)=(Jaq V (clA g.cl z0)).length from rfl];refine Hq [] (m:=20) rfl ?_;refine Hf 0 rfl (OV.f0 4 rfl T.u26 rfl) (Ht 1 rfl (OV.l1 (v:=.slice y.a y.x.args.length y.c) rfl T.u24 rfl yG rfl) (Hf 2 rfl (OV.ad rfl T.u24) (Hf 3 rfl (OV.bh (j:=1) rfl rfl (by omega)) (Hf 4 rfl (OV.cj rfl) (Hf 5 rfl (OV.ad rfl T.u32) (Hf 6 rfl (OV.subN (i:=y.x.args.length+1) (j:=(nI (Jaq V y.x)).length) rfl rfl (Jgo (by omega)) (by omega)) (Hf 7 rfl (OV.f0 5 rfl T.u30 rfl) (Ht 8 rfl (OV.l1 (v:=.slice g.ba g.bd.length g.bc) rfl T.u27 rfl yI rfl) (Hf 9 rfl (OV.cj rfl) (Hf 10 rfl ((OV.ae (show _=some (Value.slice (some q2) g.bd.length g.bc) by rw [← hqz];rfl) rfl T.u27 T.z26 (by omega)).cast (u:=.pointer (some (q2.add (z0*5)))) (by rw [xN])) (Hf 11 rfl ((OV.fieldAddrA (off:=4) rfl T.u26 rfl).cast (u:=.pointer (some ((q2.add (z0*5)).add 4))) (rfl)) (Ht 12 rfl (OV.ap (v:=.slice z.a z.x.args.length z.c) rfl T.u24 rfl (fun _ hw=>hw.keeps _ _ (hcz 4 _ rfl))) (Hf 13 rfl (OV.ad rfl T.u24) (Hf 14 rfl (OV.bh (j:=1) rfl rfl (by omega)) (Hf 15 rfl (OV.cj rfl) (Hf 16 rfl (OV.ad rfl T.u32) (Hf 17 rfl (OV.subN (i:=z.x.args.length+1) (j:=(Jaq V (clA g.cl z0)).length) rfl rfl (Jgo (by omega)) (by omega)) (Hf 18 rfl (OV.assign rfl) (Hf 19 rfl (OV.assign rfl) (He (Xn (Csr (Zm rfl (Zv (OV.ad rfl T.u32) (Zm rfl (Zv (OV.ad rfl T.u32) (WL.aw (v:=.int .i64 (cmpN (((Jaq V (clA g.cl z0)).length:Nat):Int) (((nI (Jaq V y.x)).length:Nat):Int))) (by kernel_rfl) rfl rfl (fun w' hw'=>Jeq _ _ w') ?_)))))))))))))))))))))))))));refine Zm rfl (Zm rfl (WL.aw (v:=.int .i64 (cmpN ((y.x.args.length+1 - (nI (Jaq V y.x)).length:Nat):Int) ((z.x.args.length+1 - (Jaq V (clA g.cl z0)).length:Nat):Int))) (by kernel_rfl) rfl rfl (fun w' hw'=>Jeq _ _ w') ?_));refine WL.ey (xs:=[.tmp 53,.tmp 56]) (vs:=ints [cmpN (((Jaq V (clA g.cl z0)).length:Nat):Int) (((nI (Jaq V y.x)).length:Nat):Int),cmpN ((y.x.args.length+1 - (nI (Jaq V y.x)).length:Nat):Int) ((z.x.args.length+1 - (Jaq V (clA g.cl z0)).length:Nat):Int)]) rfl T.u32 T.z3 T.zr3 rfl rfl rfl (by decide) rfl ?_;intro b57;refine WL.aw (v:=.int .i64 (orL [cmpN (((Jaq V (clA g.cl z0)).length:Nat):Int) (((nI (Jaq V y.x)).length:Nat):Int),cmpN ((y.x.args.length+1 - (nI (Jaq V y.x)).length:Nat):Int) ((z.x.args.length+1 - (Jaq V (clA g.cl z0)).length:Nat):Int)])) (by kernel_rfl) rfl rfl (fun w' hw'=>Jih [cmpN (((Jaq V (clA g.cl z0)).length:Nat):Int) (((nI (Jaq V y.x)).length:Nat):Int),cmpN ((y.x.args.length+1 - (nI (Jaq V y.x)).length:Nat):Int) ((z.x.args.length+1 - (Jaq V (clA g.cl z0)).length:Nat):Int)] b57 (by simp) w' (hw'.it _ yF)) ?_;refine Zv (OV.fx rfl rfl) (Nn ?_);refine Cc rfl (fun c59=>?_) (fun c59=>?_)
    ·refine Ce (WX.meet_exit ?_);refine Xh (Xn (Cr (Zv (OV.bh (j:=1) rfl rfl (by omega)) (Zm rfl (Nl ?_)))))
     have hbt:¬ btr V (clA g.cl i) (clA g.cl z0)=true:=by
      rw [Jgh ht];intro hh;have h9:=(btr_or V y.x (clA g.cl z0)).2 hh;rw [hk4] at h9;omega
     exact WX.cg (i+1) (some z0) ma mc Y8 (fun w' hw=>⟨⟨by omega,by rw [Jf9,← hb];unfold nxF;rw [if_neg c25];simp only [hbt,if_false];rfl,hbz⟩,hw.drop.drop.drop.drop⟩) (by show g.bd.length - (i+1)<g.bd.length - i;omega)
    refine Ck ?_
    have hbt:btr V (clA g.cl i) (clA g.cl z0)=true:=by
     rw [Jgh ht];refine (btr_or V y.x (clA g.cl z0)).1 ?_;rw [hk4];omega
    exact WX.dt Y8 (fun w' hw=>⟨by unfold nxF;rw [if_neg c25];simp only [hbt,if_true],hw.drop⟩)
   refine Ck ?_
   obtain rfl:b=none:=by
    cases b with
    | none=>rfl
    | some z=>exact absurd (show (0:Int)≤(z:Int) by omega) c30
   exact WX.dt Y8 (fun w' hw=>⟨by unfold nxF;rw [if_neg c25],hw⟩)
  refine WC.pure (fun hnx=>?_);refine Cr (Zv (OV.l1 (v:=.int .i64 (i:Int)) rfl T.u3 rfl yH rfl) (Zm rfl (Za rfl (Za rfl (Nl (Xb (Xn (Cr (Zv (OV.bh (j:=1) rfl rfl (by omega)) (Zm rfl (Nl ?_)))))))))));exact WX.cg (i+1) (some i) ka kc ⟨rfl,rfl,rfl,rfl,by show _=some (Value.slice ka (Jaq V (clA g.cl i)).length kc);rw [show (Jaq V (clA g.cl i)).length=(nI (Jaq V y.x)).length by rw [Jgh ht,xE]];rfl,rfl,rfl,rfl,trivial⟩ (fun w' hw=>⟨⟨by omega,by rw [Jf9,← hb,hnx],fun z hz=>by cases hz;omega⟩,hw.drop.drop.drop⟩) (by show g.bd.length - (i+1)<g.bd.length - i;omega)
 refine Ce (Xe (Xe (Xh (Xn (Csr (Zm rfl (Za rfl (Nn (WC.ay ?_)))))))))
 have hbe:b=nextP g.cl (js.map JG.a) V:=by
  rw [hb];unfold nextP;rw [show g.cl.bd.length=i by show (g.bd.map AG.x).length=i;rw [xE];omega]
 rw [← hbe];exact WX.ret1 rfl rfl rfl (fun w' hw=>⟨rfl,hw.fr⟩)
def askL (nt:Nat)(p:Nat→Bool):List Value:=(List.range nt).map fun i=>.int .i64 (if p i=true then 1 else 0)
theorem Jfr (nt:Nat)(p:Nat→Bool):(askL nt p).length=nt:=by simp [askL]
theorem Jfs {nt i:Nat}{p:Nat→Bool}(h:i<nt):(askL nt p)[i]?=some (.int .i64 (if p i=true then 1 else 0)):=by
 unfold askL;rw [xG,List.getElem?_range h];rfl
theorem Jd7 {nt:Nat}{p q:Nat→Bool}(h:∀ k,k<nt→p k=q k):askL nt p=askL nt q:=by
 unfold askL;exact List.map_congr_left fun k hk=>by rw [h k (List.mem_range.1 hk)]
theorem askL_set {nt i:Nat}{p q:Nat→Bool}(h:i<nt)(hq:∀ k,k<nt→q k=(p k || decide (k=i))):(askL nt p).set i (.int .i64 1)=askL nt q:=by
 refine List.ext_getElem? fun k=>?_
 by_cases hk:k<nt
 ·rw [Jfs hk,hq k hk]
  by_cases hki:k=i
  ·subst hki;rw [List.getElem?_set_self (by rw [Jfr];exact hk),xO rfl,Bool.or_true,if_pos rfl]
  ·rw [List.getElem?_set_ne (fun e=>hki e.symm),Jfs hk,xP hki,Bool.or_false]
 ·rw [xU (by rw [List.length_set,Jfr];omega),xU (by rw [Jfr];omega)]
theorem askL_zero (nt:Nat):List.replicate nt (Value.int .i64 0)=askL nt (fun _=>false):=by
 refine List.ext_getElem? fun k=>?_
 by_cases hk:k<nt
 ·rw [Jfs hk,List.getElem?_replicate,if_pos hk];rfl
 ·rw [xU (by rw [List.length_replicate];omega),xU (by rw [Jfr];omega)]
structure PG where
 aa:Option Addr
 ac:Nat
 al:List Int
 ja:Option Addr
 jc:Nat
 js:List JG
def pgC (p:PG):List Value:=[.slice p.aa p.al.length p.ac,.slice p.ja p.js.length p.jc]
abbrev pgV (p:PG):Value:=.agg (pgC p).toArray
def jgI (y:JG):List Hw.Item:=[rowI y.ka y.kc y.kn,rowI y.ta y.tc y.ts]
abbrev jnA (ys:List JG):List Hw.Item:=ys.flatMap jgI
def pgA (p:PG):List Hw.Item:=rowI p.aa p.ac p.al::rowJ p.ja p.jc p.js::jnA p.js
theorem jnA_snoc (ys:List JG)(y:JG):jnA (ys++[y])=jnA ys++[rowI y.ka y.kc y.kn,rowI y.ta y.tc y.ts]:=by unfold jnA;rw [List.flatMap_append];simp [jgI]
def jnEq (js:List JG)(l:List Jn):Prop:=js.map (fun y=>(y.a,y.kn,y.ts))=l.map fun j=>(j.a,nI j.kn,nI j.ts)
def leadI (lead:Option Nat):Int:=lead.elim (-1:Int) fun l:Nat=>(l:Int)
def Jcc (c:Cl)(i:Nat):Bool:=!varB (clT c i).l && !varB (clT c i).r
def testF (c:Cl)(V:List Int)(A:List Nat)(i:Nat):Bool:=Jf8 V (clT c i) && decide (i∉A)
theorem Jen {n k:Nat}{p:Nat→Bool}:k∈(List.range n).filter p↔k<n∧p k=true:=by rw [List.mem_filter,List.mem_range]
theorem refC_ok {c:Cl}(hc:VC c){lead:Option Nat}(hl:∀ l,lead=some l→l<c.bd.length):refC c (leadI lead)=0:=by
 unfold refC;rw [if_neg (fun h=>h hc.chk),if_neg];unfold leadI;cases lead with
 | none=>simp only [Option.elim_none];omega
 | some l=>have:=hl l rfl;simp only [Option.elim_some];omega
theorem vars_len {x:At}(h:chkA x=0):(dedI (Jah x)).length≤9:=by
 have h1:=dedI_len (Jah x);have h2:=Jgp (plc x);have h3:(plc x).length=x.args.length+1:=by simp [plc]
 have h4:=(chkA_zero.1 h).2.1;have h5:Jah x=vnums (plc x):=rfl;rw [h5] at h1 ⊢;omega
theorem make_bad (g:CG)(hs:CS g)(lead:Int)(hb:refC g.cl lead≠0)(w:World)(hN:Jdi w)(hC:Jfk w)(hr:RC w g):Calls Tryz.prog 7 #[cgV g,.int .i64 lead] w fun e w'=>e=.returned (.tuple #[pgV ⟨none,0,[],none,0,[]⟩,.int .i64 (refC g.cl lead)])∧Fr0 w w':=by
 refine Jbi (args:=[cgV g,.int .i64 lead]) (fun _=>False) Tryz.func7 rfl Tryz.ntmps7 rfl rfl ?_;refine Csr (WL.box rfl rfl rfl ?_);intro b2;refine WL.alloc T.zr35 rfl ?_;intro b4;refine Za rfl (Nn (Cs (Csr (Zv (OV.lN (cs:=cgC g) rfl T.u30 rfl T.z30 yG) (Zm rfl (WL.aw (v:=.int .i64 (refC g.cl lead)) (by kernel_rfl) rfl rfl (fun w' hw'=>refused_calls g hs lead w' (hN.keeps hw'.keeps) (hC.keeps hw'.keeps) (hr.keeps hw'.keeps)) ?_))))));refine Za rfl (Nn (Csr (Zm rfl (Zv ((OV.fb rfl rfl).cast (u:=.bool true) (by rw [xP hb];rfl)) (Nn (WC.cm (show _=some (Value.bool true) from by rfl) ?_))))));refine Csr (Zv (OV.bf (xs:=[]) (pl:=[(0,1),(1,1)]) (cs:=pgC ⟨none,0,[],none,0,[]⟩) T.u35 T.zr35 (by kernel_rfl) rfl rfl) (Zm rfl (WL.aj (vs:=pgC ⟨none,0,[],none,0,[]⟩) rfl rfl rfl T.z35 rfl ?_)));refine Za rfl (Nn (WC.ay ?_));refine Xr ?_;exact WX.gn (cs:=pgC ⟨none,0,[],none,0,[]⟩) rfl rfl rfl rfl T.u35 rfl T.z35 (fun w' hw j v hj=>Jbt hw yF j v hj) (fun w' hw=>⟨rfl,hw.fr⟩)
set_option maxHeartbeats 2000000 in
theorem make_calls (g:CG)(hs:CS g)(hv:VC g.cl)(lead:Option Nat)(hld:∀ l,lead=some l→l<g.cl.bd.length)(w:World)(hN:Jdi w)(hC:Jfk w)(hr:RC w g):Calls Tryz.prog 7 #[cgV g,.int .i64 (leadI lead)] w fun e w'=>∃ p:PG,e=.returned (.tuple #[pgV p,.int .i64 0])∧(p.al=nI (Jbj g.cl)∧jnEq p.js (makeP g.cl lead))∧Turns [] (pgA p) w w':=by
 refine Jbi (args:=[cgV g,.int .i64 (leadI lead)]) (fun _=>False) Tryz.func7 rfl Tryz.ntmps7 rfl rfl ?_;refine Csr (WL.box rfl rfl rfl ?_);intro b2;refine WL.alloc T.zr35 rfl ?_;intro b4;refine Za rfl (Nn (Cs (Csr (Zv (OV.lN (cs:=cgC g) rfl T.u30 rfl T.z30 yG) (Zm rfl ?_)))));have hrf:=refC_ok hv hld;refine WL.c0 (v:=.int .i64 0) (vs:=[cgV g,.int .i64 (leadI lead)]) (fun w' hw'=>(refused_calls g hs (leadI lead) w' (hN.keeps hw'.keeps) (hC.keeps hw'.keeps) (hr.keeps hw'.keeps)).mono (fun en w'' ⟨h1,h2⟩=>⟨by rw [h1,hrf],h2⟩)) ?_;refine Za rfl (Nn (Csr (Zm rfl (Zv ((OV.fb rfl rfl).cast (u:=.bool false) rfl) (Nn (WC.ca (show _=some (Value.bool false) from by rfl) ?_))))));refine Ck (Xn (Csr (WL.alloc T.zr35 rfl ?_)));intro b7;refine Nn (Csr (WL.makeMap (iV) rfl ?_));intro m29;refine Za rfl (Nn (Csr (Zv (OV.f0 6 rfl T.u30 rfl) ?_)));have hbl:=hs.bl;have htl:=hs.tl;refine Zv (OV.l1 (v:=.slice g.ta g.ts.length g.tc) rfl T.u28 rfl yI rfl) (Zv (OV.ad rfl T.u28) (WL.makeSlice (bytes:=8) rfl rfl T.u32 T.z3 T.zr3 (by kernel_rfl) ⟨by omega,by omega⟩ rfl ?_));intro b33;rw [askL_zero];refine Za rfl (Nn (Cs (Csr (Zv (OV.f0 6 rfl T.u30 rfl) (Zv (OV.l1 (v:=.slice g.ta g.ts.length g.tc) rfl T.u28 rfl yJ rfl) (Zv (OV.ad rfl T.u28) (Zm rfl (Nn (Cb (WC.weak (S':=Sat0 w (oQ b7 (pgC ⟨none,0,[],none,0,[]⟩) 35::row 3 1 none 0 0 []::oQ b33 (askL g.ts.length (fun _=>false)) 3::own m29 (mapK iV (cntM []))::oQ b4 (pgC ⟨none,0,[],none,0,[]⟩) 35::oQ b2 (cgC g) 30::[])) (fun w' hw=>(hw.rowNil 3 1).perm (pmP [_,_,_,_,_,_] [3,0,1,2,4,5])) ?_))))))))))
 refine WC.ip (fun (i:Nat) (aa:Option Addr) (ac:Nat)=>[(1,.int .i64 (leadI lead)),(2,yX b2),(4,yX b4),(7,yX b7),(8,.map (some m29)),(9,.slice (some ⟨b33,0,none⟩) g.ts.length g.ts.length),(35,.slice g.ta g.ts.length g.tc),(36,.int .i64 (g.ts.length:Int)),(37,.int .i64 (i:Int))])
   (fun i aa ac w'=>i≤g.ts.length∧Sat0 w (oQ b7 (pgC ⟨aa,ac,(nI ((List.range i).filter (Jcc g.cl))),none,0,[]⟩) 35::rowI aa ac (nI ((List.range i).filter (Jcc g.cl)))::oQ b33 (askL g.ts.length (fun k=>decide (k<i) && Jcc g.cl k)) 3::own m29 (mapK iV (cntM []))::oQ b4 (pgC ⟨none,0,[],none,0,[]⟩) 35::oQ b2 (cgC g) 30::[]) w')
   (fun i _ _=>g.ts.length - i) 0 none 0 Y9 (fun w' hw=>⟨by omega,by
    rw [show askL g.ts.length (fun k=>decide (k<0) && Jcc g.cl k)=askL g.ts.length (fun _=>false) from Jd7 fun k _=>by simp];exact hw⟩) ?_
 intro i aa ac;refine WC.pure (fun hi=>?_);have hfl:=Jco (Jcc g.cl) i;have hfn:(nI ((List.range i).filter (Jcc g.cl))).length=((List.range i).filter (Jcc g.cl)).length:=xE _;refine Csr (Zv (OV.cu rfl rfl) (Nn (Cs ?_)));refine Cc rfl (fun c38=>?_) (fun c38=>?_)
 ·refine Ck (Xn (Cs (Cb (Csr (Zm rfl ?_)))));obtain ⟨q1,t,hq,ht,htm,hc⟩:=hr.ts.get (i:=i) (by omega);refine Zv ((OV.ae (show _=some (Value.slice (some q1) g.ts.length g.tc) by rw [← hq];rfl) rfl T.u28 T.z85 (by omega)).cast (u:=.pointer (some (q1.add (i*7)))) (by rw [xN])) (Zv (OV.am (cs:=tsC t) rfl T.u85 rfl T.z85 (fun _ hw j v hj=>hw.keeps _ _ (hc j v hj))) (WL.alloc T.zr85 rfl ?_));intro b11;refine Za rfl (WL.aj (vs:=tsC t) rfl rfl rfl T.z85 rfl ?_);refine Nn (Csr (Zv (OV.lN (cs:=tsC t) rfl T.u85 rfl T.z85 yF) (Zm rfl (WL.aw (v:=.tuple #[.bool (Jf8 [] t),.bool (varB t.l || varB t.r)]) (by kernel_rfl) rfl rfl (fun w' hw'=>pready_calls t [] m29 w' (hw'.it (own m29 (mapK iV (cntM []))) (by simp))) ?_))));refine Zm rfl (Zv (OV.extract rfl rfl) (Zv (OV.extract rfl rfl) (Za rfl (Za rfl (Nn (Csr (Zm rfl (Zv (OV.not rfl) (Nn ?_)))))))));refine Cc rfl (fun c49=>?_) (fun c49=>?_)
  ·refine Csr (Zv (OV.f0 0 rfl T.u35 rfl) (Zv (OV.l1 (v:=.slice aa (nI ((List.range i).filter (Jcc g.cl))).length ac) rfl T.u32 rfl yG rfl) (Zm rfl (WL.br T.u32 T.z3 T.zr3 rfl rfl rfl ?_))));intro b53;refine WL.focus (ow':=rowI aa ac (nI ((List.range i).filter (Jcc g.cl)))::oQ b53 [Value.int .i64 (i:Int)] 3::oQ b11 (tsC t) 85::oQ b7 (pgC ⟨aa,ac,(nI ((List.range i).filter (Jcc g.cl))),none,0,[]⟩) 35::oQ b33 (askL g.ts.length (fun k=>decide (k<i) && Jcc g.cl k)) 3::own m29 (mapK iV (cntM []))::oQ b4 (pgC ⟨none,0,[],none,0,[]⟩) 35::oQ b2 (cgC g) 30::[]) (pmP [_,_,_,_,_,_,_,_] [3,0,1,2,4,5,6,7]) ?_;refine WL.append (news:=ints [(i:Int)]) rfl rfl T.apI (fun _ _=>Jd5 yG rfl) (Jdf [(i:Int)]) ⟨by omega,by unfold maxLen;omega⟩ rfl ?_;intro a54 c54;refine Zv (OV.f0 0 rfl T.u35 rfl) ?_;refine WL.focus perm3 (WL.cd (o:=0) rfl rfl rfl T.z32 (by show 0<2;omega) ?_);refine Nn (Cr (Zm rfl (Zm rfl (Zv (OV.da (i:=i) rfl rfl T.u32 T.z3 (by omega)) ?_))));refine WL.val (OV.ap (v:=.int .i64 0) rfl T.u3 rfl (fun _ hw=>Jbp hw (show oQ b33 (askL g.ts.length (fun k=>decide (k<i) && Jcc g.cl k)) 3∈_ by simp) (by rw [List.getElem?_toArray,Jfs (by omega)];simp))) rfl ?_;refine Zv (OV.ie rfl rfl (by omega)) (Zv (OV.da (i:=i) rfl rfl T.u32 T.z3 (by omega)) ?_);refine WL.focus perm4 (WL.cd (o:=i) rfl rfl rfl T.z3 (by rw [Jfr];omega) ?_);refine Nl (Xb (Xn (Cr (Zv (OV.bh (j:=1) rfl rfl (by omega)) (Zm rfl (Nl ?_))))))
   have hF:Jcc g.cl i=true:=by
    unfold Jcc;rw [Jfv ht];rw [Bool.or_eq_false_iff] at c49;rw [c49.1,c49.2];rfl
   have hal:(nI ((List.range (i+1)).filter (Jcc g.cl)))=(nI ((List.range i).filter (Jcc g.cl)))++[(i:Int)]:=by rw [Jck,if_pos hF];simp
   have el:(nI ((List.range i).filter (Jcc g.cl))).length+1=((nI ((List.range i).filter (Jcc g.cl)))++[(i:Int)]).length:=by simp
   have ef:ints (nI ((List.range i).filter (Jcc g.cl)))++ints [(i:Int)]=ints ((nI ((List.range i).filter (Jcc g.cl)))++[(i:Int)]):=by simp [ints]
   have ea:(askL g.ts.length (fun k=>decide (k<i) && Jcc g.cl k)).set i (.int .i64 1)=askL g.ts.length (fun k=>decide (k<(i+1)) && Jcc g.cl k):=askL_set (by omega) (fun k hk=>by
    by_cases h:k=i
    ·subst h;simp [hF]
    ·rw [xP h,Bool.or_false,show decide (k<i+1)=decide (k<i) from decide_eq_decide.2 (by omega)])
   exact WX.et (i+1) a54 c54 Y9 (fun w' hw=>⟨by omega,by
    rw [el,ef,← hal] at hw;rw [← ea];exact hw.pik [[oQ b33 ((askL g.ts.length (fun k=>decide (k<i) && Jcc g.cl k)).set i (.int .i64 1)) 3],[oQ b7 (pgC ⟨a54,c54,(nI ((List.range (i+1)).filter (Jcc g.cl))),none,0,[]⟩) 35],[rowI a54 c54 (nI ((List.range (i+1)).filter (Jcc g.cl)))],[oQ b53 [Value.int .i64 (i:Int)] 3],[oQ b11 (tsC t) 85],[own m29 (mapK iV (cntM []))],[oQ b4 (pgC ⟨none,0,[],none,0,[]⟩) 35],[oQ b2 (cgC g) 30]] [1,2,0,5,6,7] 8⟩) (by show g.ts.length - (i+1)<g.ts.length - i;omega)
  refine Ck (Xb (Xn (Cr (Zv (OV.bh (j:=1) rfl rfl (by omega)) (Zm rfl (Nl ?_))))))
  have hF:Jcc g.cl i=false:=by
   unfold Jcc;rw [Jfv ht];rw [Bool.or_eq_true] at c49;rcases c49 with h | h <;> simp [h]
  have hal:(nI ((List.range (i+1)).filter (Jcc g.cl)))=(nI ((List.range i).filter (Jcc g.cl))):=by rw [Jck,if_neg (by rw [hF];simp),xX]
  have ea:askL g.ts.length (fun k=>decide (k<(i+1)) && Jcc g.cl k)=askL g.ts.length (fun k=>decide (k<i) && Jcc g.cl k):=Jd7 fun k hk=>by
   by_cases h:k=i
   ·subst h;simp [hF]
   ·rw [show decide (k<i+1)=decide (k<i) from decide_eq_decide.2 (by omega)]
  exact WX.et (i+1) aa ac Y9 (fun w' hw=>⟨by omega,by
   rw [hal,ea];exact hw.drop⟩) (by show g.ts.length - (i+1)<g.ts.length - i;omega)
 refine Ce (Xe (Xe (Xh (Xn (Cs (Cb ?_))))));obtain rfl:i=g.ts.length:=by omega
 have hnb:g.cl.bd.length=g.bd.length:=xE _
 have ea0:askL g.ts.length (fun k=>decide (k<g.ts.length) && Jcc g.cl k)=askL g.ts.length (fun k=>decide (k∈Jbj g.cl)):=Jd7 fun k hk=>by
  have em:(k∈Jbj g.cl)↔Jcc g.cl k=true:=(Jen (n:=g.ts.length)).trans (and_iff_right hk);rw [xO hk,Bool.true_and,Bool.eq_iff_iff,decide_eq_true_eq,em]
 rw [ea0];refine WC.weak (S':=Sat0 w (oQ b7 (pgC ⟨aa,ac,(nI (Jbj g.cl)),none,0,[]⟩) 35::own m29 (mapK iV (cntM []))::oQ b33 (askL g.ts.length (fun k=>decide (k∈Jbj g.cl))) 3::rowI aa ac (nI (Jbj g.cl))::row 93 3 none 0 0 []::oQ b4 (pgC ⟨none,0,[],none,0,[]⟩) 35::oQ b2 (cgC g) 30::[])) (fun w' hw=>(hw.rowNil 93 3).perm (pmP [_,_,_,_,_,_,_] [1,4,3,2,0,5,6])) ?_;clear hi hfl hfn ea0
 refine WC.loop7 (fun (js:List JG) (ja:Option Addr) (jc:Nat) (L:List Int) (jo:List Nat) (V:List Int) (A:List Nat)=>[(1,.int .i64 (leadI lead)),(2,yX b2),(4,yX b4),(7,yX b7),(8,.map (some m29)),(9,.slice (some ⟨b33,0,none⟩) g.ts.length g.ts.length)])
   (fun js ja jc L jo V A w'=>(js.map JG.a=jo∧(∀ v,v∈L↔v∈V)∧L.length≤9*jo.length∧(∃ dn,makeP g.cl lead=dn++mkR g.cl lead (g.bd.length - jo.length) jo V A∧jnEq js dn)∧jo.length≤g.bd.length∧jo.Nodup∧(∀ i∈jo,i<g.bd.length))∧Sat0 w (oQ b7 (pgC ⟨aa,ac,(nI (Jbj g.cl)),ja,jc,js⟩) 35::own m29 (mapK iV (cntM L))::oQ b33 (askL g.ts.length (fun k=>decide (k∈A))) 3::rowI aa ac (nI (Jbj g.cl))::rowJ ja jc js::oQ b4 (pgC ⟨none,0,[],none,0,[]⟩) 35::oQ b2 (cgC g) 30::jnA js) w')
   (fun js _ _ _ _ _ _=>g.bd.length - js.length) [] none 0 [] [] [] (Jbj g.cl) Y6 (fun w' hw=>⟨⟨rfl,fun v=>Iff.rfl,Nat.le_refl _,⟨[],by rw [← hnb];rfl,rfl⟩,Nat.zero_le _,List.nodup_nil,fun i hi=>by cases hi⟩,hw⟩) ?_
 intro js ja jc L jo V A;refine WC.pure (fun hF=>?_);obtain ⟨hjo,hLV,hLl,⟨dn,hdn,hjd⟩,hjn,hnd,hjb⟩:=hF;refine Cs (Csr (Zv (OV.f0 1 rfl T.u35 rfl) (Zv (OV.l1 (v:=.slice ja js.length jc) rfl T.u33 rfl yF rfl) (Zv (OV.ad rfl T.u33) (Zv (OV.f0 5 rfl T.u30 rfl) (Zv (OV.ap (v:=.slice g.ba g.bd.length g.bc) rfl T.u27 rfl (fun _ hw=>(Jbn (hw.it _ yL) (o:=5) rfl).1)) (Zv (OV.ad rfl T.u27) (Zv (OV.cu rfl rfl) (Nn ?_)))))))));refine Cc rfl (fun c69=>?_) (fun c69=>?_)
 ·refine Ck (Xn (Cb (Cs ?_)));have hjl:js.length=jo.length:=by rw [← hjo,xE]
  obtain ⟨yn,hnx,hyj,hyb⟩:=next_ok (c:=g.cl) (V:=V) hnd (fun i hi=>by rw [hnb];exact hjb i hi) (by rw [hnb];omega);rw [hnb] at hyb
  have hab:(pick1 g.cl lead jo V)<g.bd.length:=by
   unfold pick1
   split
   ·rename_i h;obtain ⟨l,hl⟩:=Option.isSome_iff_exists.1 h.2;rw [hl];have:=hld l hl;rw [hnb] at this;exact this
   ·rw [hnx];exact hyb
  have hanj:(pick1 g.cl lead jo V)∉jo:=by
   unfold pick1
   split
   ·rename_i h;rw [h.1];simp
   ·rw [hnx];exact hyj
  refine Cr (Zm rfl (Za rfl (Nn (Cs (Cs ?_)))));refine WC.fw [(1,.int .i64 (leadI lead)),(2,yX b2),(4,yX b4),(7,yX b7),(8,.map (some m29)),(9,.slice (some ⟨b33,0,none⟩) g.ts.length g.ts.length),(14,.int .i64 (leadI lead)),(78,.bool (decide (jo≠[]∨lead=none)))] (Sat0 w (oQ b7 (pgC ⟨aa,ac,(nI (Jbj g.cl)),ja,jc,js⟩) 35::own m29 (mapK iV (cntM L))::oQ b33 (askL g.ts.length (fun k=>decide (k∈A))) 3::rowI aa ac (nI (Jbj g.cl))::rowJ ja jc js::oQ b4 (pgC ⟨none,0,[],none,0,[]⟩) 35::oQ b2 (cgC g) 30::jnA js)) ?_ ?_
  ·refine Cr (Zv (OV.f0 1 rfl T.u35 rfl) (Zv (OV.l1 (v:=.slice ja js.length jc) rfl T.u33 rfl yF rfl) (Zv (OV.ad rfl T.u33) (Zv (OV.ia rfl rfl) (Zm rfl ?_)))));refine Zp (t:=75) rfl (fun g75=>?_) (fun g75=>?_)
   ·refine yV (yV (Zv (OV.ak rfl rfl) (Nl ?_)));have ej:jo≠[]:=fun h=>by have h9:=congrArg List.length hjo;rw [xE,h] at h9;simp only [List.length_nil] at h9;omega
    exact WX.dt ⟨rfl,rfl,rfl,rfl,rfl,rfl,rfl,by rw [xO (Or.inl ej)];rfl,trivial⟩ (fun w' hw=>hw)
   refine yW (Zm rfl (yW (Zv (OV.cu rfl rfl) (Zv (OV.ai rfl rfl) (Nl ?_)))));have ej:jo=[]:=by have h9:=congrArg List.length hjo;rw [xE] at h9;exact List.length_eq_zero_iff.1 (by omega)
   have el:decide (leadI lead<0)=decide (jo≠[]∨lead=none):=by
    unfold leadI;cases lead with
    | none=>simp
    | some l=>rw [show (Option.elim (some l) (-1:Int) fun l:Nat=>(l:Int))=(l:Int) from rfl,xP (by omega),xP (fun h=>by rcases h with h | h;exact h ej;cases h)]
   exact WX.dt ⟨rfl,rfl,rfl,rfl,rfl,rfl,rfl,by rw [← el];rfl,trivial⟩ (fun w' hw=>hw)
  refine WC.fw [(1,.int .i64 (leadI lead)),(2,yX b2),(4,yX b4),(7,yX b7),(8,.map (some m29)),(9,.slice (some ⟨b33,0,none⟩) g.ts.length g.ts.length),(14,.int .i64 (((pick1 g.cl lead jo V):Nat):Int))] (Sat0 w (oQ b7 (pgC ⟨aa,ac,(nI (Jbj g.cl)),ja,jc,js⟩) 35::own m29 (mapK iV (cntM L))::oQ b33 (askL g.ts.length (fun k=>decide (k∈A))) 3::rowI aa ac (nI (Jbj g.cl))::rowJ ja jc js::oQ b4 (pgC ⟨none,0,[],none,0,[]⟩) 35::oQ b2 (cgC g) 30::jnA js)) ?_ ?_
  ·refine Cc rfl (fun c78=>?_) (fun c78=>?_)
   ·refine Cr (Zv (OV.am (cs:=cgC g) rfl T.u30 rfl T.z30 (fun _ hw j v hj=>by rw [Jav,xM];exact Jbt hw yL j v hj)) (Zv (OV.f0 1 rfl T.u35 rfl) (Zv (OV.l1 (v:=.slice ja js.length jc) rfl T.u33 rfl yF rfl) (Zm rfl ?_))));have hjl2:js.length≤8:=by rw [← xE (f:=JG.a),hjo];have:=hv.bl;rw [hnb] at this;omega
    refine WL.c0 (v:=.int .i64 ((nextP g.cl jo V).elim (-1:Int) fun z:Nat=>(z:Int))) (vs:=[cgV g,.slice ja js.length jc,.map (some m29)]) (fun w' hw'=>by
     have h9:=pnext_calls g hs js ja jc L m29 (by omega) w' (hr.keeps hw'.keeps) (RJ.of_row (c:=jc) hw' yJ) (hw'.it (own m29 (mapK iV (cntM L))) yG);rw [hjo,nextP_congr hLV] at h9;exact h9) ?_
    refine Za rfl (Nl ?_)
    have ep:((nextP g.cl jo V).elim (-1:Int) fun z:Nat=>(z:Int))=(((pick1 g.cl lead jo V):Nat):Int):=by
     unfold pick1;rw [if_neg (fun h=>by rcases c78 with h2 | h2;exact h2 h.1;rw [h2] at h;cases h.2),hnx];rfl
    exact WX.dt ⟨rfl,rfl,rfl,rfl,rfl,rfl,by rw [← ep];rfl,trivial⟩ (fun w' hw=>hw)
   refine Ck ?_
   have ep:leadI lead=(((pick1 g.cl lead jo V):Nat):Int):=by
    unfold pick1 leadI;have h1:jo=[]:=Classical.byContradiction fun h=>c78 (Or.inl h)
    cases lead with
    | none=>exact absurd (Or.inr rfl) c78
    | some l=>rw [if_pos ⟨h1,rfl⟩];rfl
   exact WX.dt ⟨rfl,rfl,rfl,rfl,rfl,rfl,by rw [← ep];rfl,trivial⟩ (fun w' hw=>hw)
  refine Csr (Zm rfl (Zv (OV.f0 5 rfl T.u30 rfl) (Zv (OV.ap (v:=.slice g.ba g.bd.length g.bc) rfl T.u27 rfl (fun _ hw=>(Jbn (hw.it _ yL) (o:=5) rfl).1)) (Zm rfl ?_))));obtain ⟨q1,y,hq,ht,htm,hra,hc⟩:=hr.bd.get (i:=(pick1 g.cl lead jo V)) hab;refine Zv ((OV.ae (show _=some (Value.slice (some q1) g.bd.length g.bc) by rw [← hq];rfl) rfl T.u27 T.z26 (by omega)).cast (u:=.pointer (some (q1.add ((pick1 g.cl lead jo V)*5)))) (by rw [xN])) (Zv (OV.am (cs:=agC y) rfl T.u26 rfl T.z26 (fun _ hw j v hj=>hw.keeps _ _ (hc j v hj))) (Zm rfl ?_));have hsy:=hs.at_ y (Or.inr htm);refine WL.cT (ι:=Option Addr × Nat) (vs:=[atV y.x y.a y.c,.map (some m29)]) (vv:=fun z=>.slice z.1 (nI (Jaq V y.x)).length z.2) (pp:=fun _=>True) [] (AA:=fun z=>[rowI z.1 z.2 (nI (Jaq V y.x))]) rfl (fun w' hw' _=>?_) ?_
  ·have h9:=pknown_calls y.x y.a y.c L m29 hsy.1 w' (hra.keeps hw'.keeps) (hw'.it (own m29 (mapK iV (cntM L))) yG);rw [Jee hLV] at h9;exact h9.mono (fun en w'' ⟨z,h1,h2⟩=>⟨z,h1,trivial,h2⟩)
  rintro ⟨ka,kc⟩ _;refine Zv (OV.bf (xs:=[(0,.tmp 84),(1,.tmp 91)]) (pl:=[(0,1),(1,1),(2,1)]) (cs:=jgC ⟨(pick1 g.cl lead jo V),ka,kc,nI (Jaq V y.x),none,0,[]⟩) T.u93 T.zr93 (by kernel_rfl) rfl (Jax (us:=[_]) rfl rfl yU (Jax (us:=[_]) rfl rfl yU rfl))) (WL.alloc T.zr93 rfl ?_);intro b15;refine WL.aj (vs:=jgC ⟨(pick1 g.cl lead jo V),ka,kc,nI (Jaq V y.x),none,0,[]⟩) rfl rfl rfl T.z93 rfl ?_;refine Nn (Cs (Csr (Zv (OV.f0 5 rfl T.u30 rfl) (Zv (OV.ap (v:=.slice g.ba g.bd.length g.bc) rfl T.u27 rfl (fun _ hw=>(Jbn (hw.it _ yN) (o:=5) rfl).1)) (Zm rfl (Zv ((OV.ae (show _=some (Value.slice (some q1) g.bd.length g.bc) by rw [← hq];rfl) rfl T.u27 T.z26 (by omega)).cast (u:=.pointer (some (q1.add ((pick1 g.cl lead jo V)*5)))) (by rw [xN])) (Zv (OV.am (cs:=agC y) rfl T.u26 rfl T.z26 (fun _ hw j v hj=>hw.keeps _ _ (hc j v hj))) ?_)))))));have hch:chkA y.x=0:=hv.bd y.x (List.mem_map.2 ⟨y,htm,rfl⟩);have hvl:=vars_len hch;refine WL.cT (ι:=Option Addr × Nat) (vs:=[atV y.x y.a y.c]) (vv:=fun z=>.slice z.1 (dedI (Jah y.x)).length z.2) (pp:=fun _=>True) [] (AA:=fun z=>[rowI z.1 z.2 (dedI (Jah y.x))]) rfl (fun w' hw' _=>(tvars_calls y.x y.a y.c hsy.1 w' (hra.keeps hw'.keeps)).mono (fun en w'' ⟨z,h1,h2⟩=>⟨z,h1,trivial,h2⟩)) ?_;rintro ⟨va,vc⟩ _;refine Zv (OV.ad rfl T.u32) (Zm rfl (Nn (Cb ?_)))
  refine WC.weak (S':=Sat0 w (own m29 (mapK iV (cntM (L++(dedI (Jah y.x)).take 0)))::oQ b15 (jgC ⟨(pick1 g.cl lead jo V),ka,kc,nI (Jaq V y.x),none,0,[]⟩) 93::oQ b7 (pgC ⟨aa,ac,(nI (Jbj g.cl)),ja,jc,js⟩) 35::oQ b33 (askL g.ts.length (fun k=>decide (k∈A))) 3::rowI ka kc (nI (Jaq V y.x))::rowI va vc (dedI (Jah y.x))::rowI aa ac (nI (Jbj g.cl))::rowJ ja jc js::oQ b4 (pgC ⟨none,0,[],none,0,[]⟩) 35::oQ b2 (cgC g) 30::jnA js)) (fun w' hw=>by
   rw [List.take_zero,xX];exact hw.perm (pmP [_,_,_,_,_,_] [4,1,3,5,2,0])) ?_
  refine WC.bz (fun (j:Nat)=>[(1,.int .i64 (leadI lead)),(2,yX b2),(4,yX b4),(7,yX b7),(8,.map (some m29)),(9,.slice (some ⟨b33,0,none⟩) g.ts.length g.ts.length),(14,.int .i64 (((pick1 g.cl lead jo V):Nat):Int)),(15,yX b15),(98,.slice va (dedI (Jah y.x)).length vc),(99,.int .i64 ((dedI (Jah y.x)).length:Int)),(100,.int .i64 (j:Int))])
    (fun j w'=>j≤(dedI (Jah y.x)).length∧Sat0 w (own m29 (mapK iV (cntM (L++(dedI (Jah y.x)).take j)))::oQ b15 (jgC ⟨(pick1 g.cl lead jo V),ka,kc,nI (Jaq V y.x),none,0,[]⟩) 93::oQ b7 (pgC ⟨aa,ac,(nI (Jbj g.cl)),ja,jc,js⟩) 35::oQ b33 (askL g.ts.length (fun k=>decide (k∈A))) 3::rowI ka kc (nI (Jaq V y.x))::rowI va vc (dedI (Jah y.x))::rowI aa ac (nI (Jbj g.cl))::rowJ ja jc js::oQ b4 (pgC ⟨none,0,[],none,0,[]⟩) 35::oQ b2 (cgC g) 30::jnA js) w')
    (fun j=>(dedI (Jah y.x)).length - j) 0 Y11 (fun w' hw=>⟨by omega,hw⟩) ?_
  intro j;refine WC.pure (fun hj=>?_);refine Csr (Zv (OV.cu rfl rfl) (Nn (Cs ?_)));refine Cc rfl (fun c101=>?_) (fun c101=>?_)
  ·refine Ck (Xn (Cs (Cb (Csr ?_))));refine WL.fj (fun w2 hw2=>(RI.of_row (c:=vc) hw2 yK:RI w2 va (dedI (Jah y.x)).length (dedI (Jah y.x))).some (by omega)) (fun hqq=>?_);obtain ⟨q9,hq9⟩:=hqq;obtain ⟨u,hu⟩:∃ u,(dedI (Jah y.x))[j]?=some u:=⟨_,xD (by omega)⟩
   refine Zv ((OV.ae (show _=some (Value.slice (some q9) (dedI (Jah y.x)).length vc) by rw [← hq9];rfl) rfl T.u32 T.z3 (by omega)).cast (u:=.pointer (some (q9.add j))) (by rw [xN,Nat.mul_one])) (Zv (OV.ap (v:=.int .i64 u) rfl T.u3 rfl (fun w2 hw=>(show RI w2 (some q9) (dedI (Jah y.x)).length (dedI (Jah y.x)) by rw [← hq9];exact RI.of_row (c:=vc) hw yK) |> fun h=>ri_at h hu)) (Za rfl (Nn (Cr (Zm rfl (Zm rfl (Zv ((OV.lookup Jir T.u87 (show Program.zv Tryz.prog 3=some (.int .i64 0) by kernel_rfl) rfl rfl (fun _ hw=>hw.it (own m29 (mapK iV (cntM (L++(dedI (Jah y.x)).take j)))) yF)).cast (u:=.int .i64 (((L++(dedI (Jah y.x)).take j).count u:Nat):Int)) (Jfy _ _)) ?_)))))));have hcl:=List.count_le_length (a:=u) (l:=L++(dedI (Jah y.x)).take j);rw [xL,xJ] at hcl;refine Zv (OV.ie rfl rfl (by omega)) (WL.mapUpdate Jir T.u87 rfl rfl rfl ?_);refine Nl (Xb (Xn (Cr (Zv (OV.bh (j:=1) rfl rfl (by omega)) (Zm rfl (Nl ?_))))));have em:ups (cntM (L++(dedI (Jah y.x)).take j)) u (.int .i64 (((L++(dedI (Jah y.x)).take j).count u:Nat)+1))=cntM (L++(dedI (Jah y.x)).take (j+1)):=by rw [Jb1 hu,← xF,Jfz,cval_cntM]
   rw [em];exact WX.au (j+1) Y11 (fun w' hw=>⟨by omega,hw⟩) (by show (dedI (Jah y.x)).length - (j+1)<(dedI (Jah y.x)).length - j;omega)
  refine Ce (Xe (Xe (Xh (Xn (Cs (Cs ?_))))));rw [xK (by omega)];have hLV1:∀ v,v∈L++dedI (Jah y.x)↔v∈V++Jah y.x:=fun v=>by rw [xS,xS,Jga,hLV]
  refine Cr (Zv (OV.f0 6 rfl T.u30 rfl) (Zv (OV.ap (v:=.slice g.ta g.ts.length g.tc) rfl T.u28 rfl (fun _ hw=>(Jbn (hw.it _ yO) (o:=6) rfl).1)) (Zv (OV.ad rfl T.u28) (Zm rfl (Nn (Cb ?_))))))
  refine WC.weak (S':=Sat0 w (oQ b15 (jgC ⟨(pick1 g.cl lead jo V),ka,kc,nI (Jaq V y.x),none,0,(nI ((List.range 0).filter (testF g.cl (V++Jah y.x) A)))⟩) 93::row 3 1 none 0 0 []::oQ b33 (askL g.ts.length (fun k=>decide (k∈A) || (decide (k<0) && testF g.cl (V++Jah y.x) A k))) 3::own m29 (mapK iV (cntM (L++dedI (Jah y.x))))::oQ b7 (pgC ⟨aa,ac,(nI (Jbj g.cl)),ja,jc,js⟩) 35::rowI ka kc (nI (Jaq V y.x))::rowI va vc (dedI (Jah y.x))::rowI aa ac (nI (Jbj g.cl))::rowJ ja jc js::oQ b4 (pgC ⟨none,0,[],none,0,[]⟩) 35::oQ b2 (cgC g) 30::jnA js)) (fun w' hw=>by
   rw [show askL g.ts.length (fun k=>decide (k∈A) || (decide (k<0) && testF g.cl (V++Jah y.x) A k))=askL g.ts.length (fun k=>decide (k∈A)) from Jd7 fun k _=>by simp];exact (hw.rowNil 3 1).perm (pmP [_,_,_,_,_,_,_] [2,0,4,1,3,5,6])) ?_
  refine WC.ip (fun (i:Nat) (ta:Option Addr) (tc:Nat)=>[(1,.int .i64 (leadI lead)),(2,yX b2),(4,yX b4),(7,yX b7),(8,.map (some m29)),(9,.slice (some ⟨b33,0,none⟩) g.ts.length g.ts.length),(15,yX b15),(110,.slice g.ta g.ts.length g.tc),(111,.int .i64 (g.ts.length:Int)),(112,.int .i64 (i:Int))])
    (fun i ta tc w'=>i≤g.ts.length∧Sat0 w (oQ b15 (jgC ⟨(pick1 g.cl lead jo V),ka,kc,nI (Jaq V y.x),ta,tc,(nI ((List.range i).filter (testF g.cl (V++Jah y.x) A)))⟩) 93::rowI ta tc (nI ((List.range i).filter (testF g.cl (V++Jah y.x) A)))::oQ b33 (askL g.ts.length (fun k=>decide (k∈A) || (decide (k<i) && testF g.cl (V++Jah y.x) A k))) 3::own m29 (mapK iV (cntM (L++dedI (Jah y.x))))::oQ b7 (pgC ⟨aa,ac,(nI (Jbj g.cl)),ja,jc,js⟩) 35::rowI ka kc (nI (Jaq V y.x))::rowI va vc (dedI (Jah y.x))::rowI aa ac (nI (Jbj g.cl))::rowJ ja jc js::oQ b4 (pgC ⟨none,0,[],none,0,[]⟩) 35::oQ b2 (cgC g) 30::jnA js) w')
    (fun i _ _=>g.ts.length - i) 0 none 0 Y10 (fun w' hw=>⟨by omega,hw⟩) ?_
  intro i ta tc;refine WC.pure (fun hi=>?_);have hfl:=Jco (testF g.cl (V++Jah y.x) A) i;have hfn:(nI ((List.range i).filter (testF g.cl (V++Jah y.x) A))).length=((List.range i).filter (testF g.cl (V++Jah y.x) A)).length:=xE _;refine Csr (Zv (OV.cu rfl rfl) (Nn (Cs ?_)));refine Cc rfl (fun c113=>?_) (fun c113=>?_)
  ·refine Ck (Xn (Cs (Cb (Csr (Zm rfl ?_)))));obtain ⟨q3,t,hqt,htt,htmt,hct⟩:=hr.ts.get (i:=i) (by omega);refine Zv ((OV.ae (show _=some (Value.slice (some q3) g.ts.length g.tc) by rw [← hqt];rfl) rfl T.u28 T.z85 (by omega)).cast (u:=.pointer (some (q3.add (i*7)))) (by rw [xN])) (Zv (OV.am (cs:=tsC t) rfl T.u85 rfl T.z85 (fun _ hw j v hj=>hw.keeps _ _ (hct j v hj))) (WL.alloc T.zr85 rfl ?_));intro b19;refine Za rfl (WL.aj (vs:=tsC t) rfl rfl rfl T.z85 rfl ?_);refine Nn (Csr (Zv (OV.lN (cs:=tsC t) rfl T.u85 rfl T.z85 yF) (Zm rfl ?_)))
   refine WL.c0 (v:=.tuple #[.bool (Jf8 (V++Jah y.x) t),.bool (varB t.l || varB t.r)]) (vs:=[tsV t,.map (some m29)]) (fun w' hw'=>by
    have h9:=pready_calls t (L++dedI (Jah y.x)) m29 w' (hw'.it (own m29 (mapK iV (cntM (L++dedI (Jah y.x))))) (by simp));rw [readyB_congr hLV1] at h9;exact h9) ?_
   refine Zm rfl (Zv (OV.extract rfl rfl) (Zv (OV.extract rfl rfl) (Za rfl (Za rfl (Nn (Cs ?_))))));refine WC.fw [(1,.int .i64 (leadI lead)),(2,yX b2),(4,yX b4),(7,yX b7),(8,.map (some m29)),(9,.slice (some ⟨b33,0,none⟩) g.ts.length g.ts.length),(15,yX b15),(18,.int .i64 (i:Int)),(110,.slice g.ta g.ts.length g.tc),(111,.int .i64 (g.ts.length:Int)),(112,.int .i64 (i:Int)),(130,.bool (testF g.cl (V++Jah y.x) A i))] (Sat0 w (oQ b19 (tsC t) 85::oQ b15 (jgC ⟨(pick1 g.cl lead jo V),ka,kc,nI (Jaq V y.x),ta,tc,(nI ((List.range i).filter (testF g.cl (V++Jah y.x) A)))⟩) 93::rowI ta tc (nI ((List.range i).filter (testF g.cl (V++Jah y.x) A)))::oQ b33 (askL g.ts.length (fun k=>decide (k∈A) || (decide (k<i) && testF g.cl (V++Jah y.x) A k))) 3::own m29 (mapK iV (cntM (L++dedI (Jah y.x))))::oQ b7 (pgC ⟨aa,ac,(nI (Jbj g.cl)),ja,jc,js⟩) 35::rowI ka kc (nI (Jaq V y.x))::rowI va vc (dedI (Jah y.x))::rowI aa ac (nI (Jbj g.cl))::rowJ ja jc js::oQ b4 (pgC ⟨none,0,[],none,0,[]⟩) 35::oQ b2 (cgC g) 30::jnA js)) ?_ ?_
   ·refine Cr (Zm rfl (Zm rfl ?_));refine Zp (t:=124) rfl (fun g124=>?_) (fun g124=>?_)
    ·refine yW (Zm rfl (yW (Zm rfl (yW (Zv (OV.da (i:=i) rfl rfl T.u32 T.z3 (by omega)) (yW ?_))))));refine WL.val (OV.ap (v:=.int .i64 (if decide (i∈A)=true then 1 else 0)) rfl T.u3 rfl (fun _ hw=>Jbp hw (show oQ b33 (askL g.ts.length (fun k=>decide (k∈A) || (decide (k<i) && testF g.cl (V++Jah y.x) A k))) 3∈_ by simp) (by rw [List.getElem?_toArray,Jfs (by omega)];simp))) rfl ?_;refine yW (Zv (OV.dq rfl rfl) (Zv (OV.ak rfl rfl) (Nl ?_)));have ek:testF g.cl (V++Jah y.x) A i=decide ((if decide (i∈A)=true then (1:Int) else 0)=0):=by unfold testF;rw [Jfv htt,g124,Bool.true_and];by_cases h:i∈A <;> simp [h]
     exact WX.dt ⟨rfl,rfl,rfl,rfl,rfl,rfl,rfl,rfl,rfl,rfl,rfl,by rw [ek];rfl,trivial⟩ (fun w' hw=>hw)
    refine yV (yV (yV (yV (yV (Zv (OV.ai rfl rfl) (Nl ?_))))));have ek:testF g.cl (V++Jah y.x) A i=false:=by unfold testF;rw [Jfv htt,g124];rfl
    exact WX.dt ⟨rfl,rfl,rfl,rfl,rfl,rfl,rfl,rfl,rfl,rfl,rfl,by rw [ek];rfl,trivial⟩ (fun w' hw=>hw)
   refine Cc rfl (fun c130=>?_) (fun c130=>?_)
   ·refine Csr (Zv (OV.f0 2 rfl T.u93 rfl) (Zv (OV.ap (v:=.slice ta (nI ((List.range i).filter (testF g.cl (V++Jah y.x) A))).length tc) rfl T.u32 rfl (fun _ hw=>(Jbn (hw.it _ yG) (o:=2) rfl).1)) (Zm rfl (WL.br T.u32 T.z3 T.zr3 rfl rfl rfl ?_))));intro b134;refine WL.focus (ow':=rowI ta tc (nI ((List.range i).filter (testF g.cl (V++Jah y.x) A)))::oQ b134 [Value.int .i64 (i:Int)] 3::oQ b19 (tsC t) 85::oQ b15 (jgC ⟨(pick1 g.cl lead jo V),ka,kc,nI (Jaq V y.x),ta,tc,(nI ((List.range i).filter (testF g.cl (V++Jah y.x) A)))⟩) 93::oQ b33 (askL g.ts.length (fun k=>decide (k∈A) || (decide (k<i) && testF g.cl (V++Jah y.x) A k))) 3::own m29 (mapK iV (cntM (L++dedI (Jah y.x))))::oQ b7 (pgC ⟨aa,ac,(nI (Jbj g.cl)),ja,jc,js⟩) 35::rowI ka kc (nI (Jaq V y.x))::rowI va vc (dedI (Jah y.x))::rowI aa ac (nI (Jbj g.cl))::rowJ ja jc js::oQ b4 (pgC ⟨none,0,[],none,0,[]⟩) 35::oQ b2 (cgC g) 30::jnA js) (pmP [_,_,_,_] [3,0,1,2]) ?_;refine WL.append (news:=ints [(i:Int)]) rfl rfl T.apI (fun _ _=>Jd5 yG rfl) (Jdf [(i:Int)]) ⟨by omega,by unfold maxLen;omega⟩ rfl ?_;intro a135 c135;refine Zv (OV.f0 2 rfl T.u93 rfl) ?_;refine WL.focus perm3 (WL.cd (o:=2) rfl rfl rfl T.z32 (by show 2<3;omega) ?_);refine Nn ?_;have hnA:i∉A:=by have h9:=c130;unfold testF at h9;rw [xY,decide_eq_true_eq] at h9;exact h9.2
    refine Cr (Zm rfl (Zm rfl (Zv (OV.da (i:=i) rfl rfl T.u32 T.z3 (by omega)) ?_)));refine WL.val (OV.ap (v:=.int .i64 0) rfl T.u3 rfl (fun _ hw=>Jbp hw (show oQ b33 (askL g.ts.length (fun k=>decide (k∈A) || (decide (k<i) && testF g.cl (V++Jah y.x) A k))) 3∈_ by simp) (by rw [List.getElem?_toArray,Jfs (by omega)];simp [hnA]))) rfl ?_;refine Zv (OV.ie rfl rfl (by omega)) (Zv (OV.da (i:=i) rfl rfl T.u32 T.z3 (by omega)) ?_);refine WL.focus perm4 (WL.cd (o:=i) rfl rfl rfl T.z3 (by rw [Jfr];omega) ?_);refine Nl (Xb (Xn (Cr (Zv (OV.bh (j:=1) rfl rfl (by omega)) (Zm rfl (Nl ?_))))));have hal:(nI ((List.range (i+1)).filter (testF g.cl (V++Jah y.x) A)))=(nI ((List.range i).filter (testF g.cl (V++Jah y.x) A)))++[(i:Int)]:=by rw [Jck,if_pos c130];simp
    have el:(nI ((List.range i).filter (testF g.cl (V++Jah y.x) A))).length+1=((nI ((List.range i).filter (testF g.cl (V++Jah y.x) A)))++[(i:Int)]).length:=by simp
    have ef:ints (nI ((List.range i).filter (testF g.cl (V++Jah y.x) A)))++ints [(i:Int)]=ints ((nI ((List.range i).filter (testF g.cl (V++Jah y.x) A)))++[(i:Int)]):=by simp [ints]
    have ea:(askL g.ts.length (fun k=>decide (k∈A) || (decide (k<i) && testF g.cl (V++Jah y.x) A k))).set i (.int .i64 1)=askL g.ts.length (fun k=>decide (k∈A) || (decide (k<(i+1)) && testF g.cl (V++Jah y.x) A k)):=askL_set (by omega) (fun k hk=>by
     by_cases h:k=i
     ·subst h;rw [c130];simp
     ·rw [xP h,Bool.or_false,show decide (k<i+1)=decide (k<i) from decide_eq_decide.2 (by omega)])
    exact WX.et (i+1) a135 c135 Y10 (fun w' hw=>⟨by omega,by
     rw [el,ef,← hal] at hw;rw [← ea];exact hw.pik [[oQ b33 ((askL g.ts.length (fun k=>decide (k∈A) || (decide (k<i) && testF g.cl (V++Jah y.x) A k))).set i (.int .i64 1)) 3],[oQ b15 (jgC ⟨(pick1 g.cl lead jo V),ka,kc,nI (Jaq V y.x),a135,c135,(nI ((List.range (i+1)).filter (testF g.cl (V++Jah y.x) A)))⟩) 93],[rowI a135 c135 (nI ((List.range (i+1)).filter (testF g.cl (V++Jah y.x) A)))],[oQ b134 [Value.int .i64 (i:Int)] 3],[oQ b19 (tsC t) 85],[own m29 (mapK iV (cntM (L++dedI (Jah y.x))))],[oQ b7 (pgC ⟨aa,ac,(nI (Jbj g.cl)),ja,jc,js⟩) 35],[rowI ka kc (nI (Jaq V y.x))],[rowI va vc (dedI (Jah y.x))],rowI aa ac (nI (Jbj g.cl))::rowJ ja jc js::oQ b4 (pgC ⟨none,0,[],none,0,[]⟩) 35::oQ b2 (cgC g) 30::jnA js] [1,2,0,5,6,7,8,9] 10⟩) (by show g.ts.length - (i+1)<g.ts.length - i;omega)
   refine Ck (Xb (Xn (Cr (Zv (OV.bh (j:=1) rfl rfl (by omega)) (Zm rfl (Nl ?_))))));have hF:testF g.cl (V++Jah y.x) A i=false:=by simpa using c130
   have hal:(nI ((List.range (i+1)).filter (testF g.cl (V++Jah y.x) A)))=(nI ((List.range i).filter (testF g.cl (V++Jah y.x) A))):=by rw [Jck,if_neg (by rw [hF];simp),xX]
   have ea:askL g.ts.length (fun k=>decide (k∈A) || (decide (k<(i+1)) && testF g.cl (V++Jah y.x) A k))=askL g.ts.length (fun k=>decide (k∈A) || (decide (k<i) && testF g.cl (V++Jah y.x) A k)):=Jd7 fun k hk=>by
    by_cases h:k=i
    ·subst h;rw [hF];simp
    ·rw [show decide (k<i+1)=decide (k<i) from decide_eq_decide.2 (by omega)]
   exact WX.et (i+1) ta tc Y10 (fun w' hw=>⟨by omega,by
    rw [hal,ea];exact hw.drop⟩) (by show g.ts.length - (i+1)<g.ts.length - i;omega)
  refine Ce (Xe (Xe (Xh (Xn ?_))));have ets:(nI ((List.range i).filter (testF g.cl (V++Jah y.x) A)))=nI (Jb0 g.cl (V++Jah y.x) A):=by rw [show i=g.cl.ts.length by show i=g.ts.length;omega];rfl
  have eak:askL g.ts.length (fun k=>decide (k∈A) || (decide (k<i) && testF g.cl (V++Jah y.x) A k))=askL g.ts.length (fun k=>decide (k∈A++Jb0 g.cl (V++Jah y.x) A)):=Jd7 fun k hk=>by
   have em:(k∈Jb0 g.cl (V++Jah y.x) A)↔testF g.cl (V++Jah y.x) A k=true:=(Jen (n:=g.ts.length)).trans (and_iff_right hk);have hki:decide (k<i)=true:=xO (by omega);rw [hki,Bool.true_and,Bool.eq_iff_iff,Bool.or_eq_true,decide_eq_true_eq,decide_eq_true_eq,xS,em]
  rw [ets,eak];refine Cr (Zv (OV.f0 1 rfl T.u35 rfl) (Zv (OV.l1 (v:=.slice ja js.length jc) rfl T.u33 rfl yJ rfl) (Zv (OV.lN (cs:=jgC (⟨(pick1 g.cl lead jo V),ka,kc,nI (Jaq V y.x),ta,tc,nI (Jb0 g.cl (V++Jah y.x) A)⟩:JG)) rfl T.u93 rfl T.z93 yF) (WL.bo (cs:=jgC (⟨(pick1 g.cl lead jo V),ka,kc,nI (Jaq V y.x),ta,tc,nI (Jb0 g.cl (V++Jah y.x) A)⟩:JG)) T.u33 T.z93 T.zr93 rfl rfl (by omega) (by omega) rfl ?_))));intro b147;refine WL.focus (ow':=rowJ ja jc js::oQ b147 (jgC (⟨(pick1 g.cl lead jo V),ka,kc,nI (Jaq V y.x),ta,tc,nI (Jb0 g.cl (V++Jah y.x) A)⟩:JG)) 93::oQ b15 (jgC ⟨(pick1 g.cl lead jo V),ka,kc,nI (Jaq V y.x),ta,tc,(nI (Jb0 g.cl (V++Jah y.x) A))⟩) 93::rowI ta tc (nI (Jb0 g.cl (V++Jah y.x) A))::oQ b33 (askL g.ts.length (fun k=>decide (k∈A++Jb0 g.cl (V++Jah y.x) A))) 3::own m29 (mapK iV (cntM (L++dedI (Jah y.x))))::oQ b7 (pgC ⟨aa,ac,(nI (Jbj g.cl)),ja,jc,js⟩) 35::rowI ka kc (nI (Jaq V y.x))::rowI va vc (dedI (Jah y.x))::rowI aa ac (nI (Jbj g.cl))::oQ b4 (pgC ⟨none,0,[],none,0,[]⟩) 35::oQ b2 (cgC g) 30::jnA js) (pmP [_,_,_,_,_,_,_,_,_,_,_,_] [9,0,1,2,3,4,5,6,7,8,10,11]) ?_;refine WL.append (news:=jgC (⟨(pick1 g.cl lead jo V),ka,kc,nI (Jaq V y.x),ta,tc,nI (Jb0 g.cl (V++Jah y.x) A)⟩:JG)) rfl rfl T.apJ (fun _ _=>Jdx yG rfl) (jgC_one _) ⟨by omega,by unfold maxLen;omega⟩ rfl ?_;intro a148 c148;refine Zv (OV.f0 1 rfl T.u35 rfl) ?_;refine WL.focus perm6 (WL.cd (o:=1) rfl rfl rfl T.z33 (by show 1<2;omega) ?_);refine Nl (Xb ?_);have el:js.length+1=(js++[(⟨(pick1 g.cl lead jo V),ka,kc,nI (Jaq V y.x),ta,tc,nI (Jb0 g.cl (V++Jah y.x) A)⟩:JG)]).length:=by simp
  have ef:js.flatMap jgC++jgC (⟨(pick1 g.cl lead jo V),ka,kc,nI (Jaq V y.x),ta,tc,nI (Jb0 g.cl (V++Jah y.x) A)⟩:JG)=(js++[(⟨(pick1 g.cl lead jo V),ka,kc,nI (Jaq V y.x),ta,tc,nI (Jb0 g.cl (V++Jah y.x) A)⟩:JG)]).flatMap jgC:=by simp
  have hnk:g.bd.length - jo.length=(g.bd.length - (jo++[(pick1 g.cl lead jo V)]).length)+1:=by rw [xL,xQ];omega
  exact WX.round7 (js++[(⟨(pick1 g.cl lead jo V),ka,kc,nI (Jaq V y.x),ta,tc,nI (Jb0 g.cl (V++Jah y.x) A)⟩:JG)]) a148 c148 (L++dedI (Jah y.x)) (jo++[(pick1 g.cl lead jo V)]) (V++Jah y.x) (A++Jb0 g.cl (V++Jah y.x) A) Y6 (fun w' hw=>⟨⟨by rw [xT,hjo];rfl,hLV1,by rw [xL,xL,xQ];omega,
   ⟨dn++[⟨(pick1 g.cl lead jo V),Jaq V y.x,Jb0 g.cl (V++Jah y.x) A⟩],by
    rw [hdn,hnk,xF];congr 1;show (⟨(pick1 g.cl lead jo V),Jaq V (clA g.cl (pick1 g.cl lead jo V)),Jb0 g.cl (V++Jah (clA g.cl (pick1 g.cl lead jo V))) A⟩::mkR g.cl lead _ _ (V++Jah (clA g.cl (pick1 g.cl lead jo V))) (A++Jb0 g.cl (V++Jah (clA g.cl (pick1 g.cl lead jo V))) A):List Jn)=_;rw [Jgh ht];rfl,by unfold jnEq at hjd ⊢;rw [xT,xT,hjd];rfl⟩,
   by rw [xL,xQ];omega,List.nodup_append.2 ⟨hnd,by simp,fun x hx z hz=>by simp only [xI] at hz;subst hz;rintro rfl;exact hanj hx⟩,fun k hk=>by
    rcases List.mem_append.1 hk with h | h
    ·exact hjb k h
    ·simp only [xI] at h;rw [h];exact hab⟩,by
   rw [el,ef] at hw;rw [jnA_snoc];refine Hw.Sat.pick [[oQ b7 (pgC ⟨aa,ac,(nI (Jbj g.cl)),a148,c148,js++[(⟨(pick1 g.cl lead jo V),ka,kc,nI (Jaq V y.x),ta,tc,nI (Jb0 g.cl (V++Jah y.x) A)⟩:JG)]⟩) 35],[rowJ a148 c148 (js++[(⟨(pick1 g.cl lead jo V),ka,kc,nI (Jaq V y.x),ta,tc,nI (Jb0 g.cl (V++Jah y.x) A)⟩:JG)])],[oQ b147 (jgC (⟨(pick1 g.cl lead jo V),ka,kc,nI (Jaq V y.x),ta,tc,nI (Jb0 g.cl (V++Jah y.x) A)⟩:JG)) 93],[oQ b15 (jgC ⟨(pick1 g.cl lead jo V),ka,kc,nI (Jaq V y.x),ta,tc,(nI (Jb0 g.cl (V++Jah y.x) A))⟩) 93],[rowI ta tc (nI (Jb0 g.cl (V++Jah y.x) A))],[oQ b33 (askL g.ts.length (fun k=>decide (k∈A++Jb0 g.cl (V++Jah y.x) A))) 3],[own m29 (mapK iV (cntM (L++dedI (Jah y.x))))],[rowI ka kc (nI (Jaq V y.x))],[rowI va vc (dedI (Jah y.x))],[rowI aa ac (nI (Jbj g.cl))],[oQ b4 (pgC ⟨none,0,[],none,0,[]⟩) 35],[oQ b2 (cgC g) 30],jnA js] [0,6,5,9,1,10,11,12,7,4] 13 rfl (by decide) (by decide) ?_;exact hw⟩) (by show g.bd.length - (js++[(⟨(pick1 g.cl lead jo V),ka,kc,nI (Jaq V y.x),ta,tc,nI (Jb0 g.cl (V++Jah y.x) A)⟩:JG)]).length<g.bd.length - js.length;rw [xL,xQ];omega)
 refine Ce (Xe (Xe (Xh (Xn (Csr (Zv (OV.lN (cs:=pgC ⟨aa,ac,(nI (Jbj g.cl)),ja,jc,js⟩) rfl T.u35 rfl T.z35 yF) ?_))))));refine WL.focus perm5 (WL.aj (vs:=pgC ⟨aa,ac,(nI (Jbj g.cl)),ja,jc,js⟩) rfl rfl rfl T.z35 rfl ?_);refine Za rfl (Nn (WC.ay ?_));have hjl:js.length=jo.length:=by rw [← hjo,xE]
 have hj9:g.bd.length - jo.length=0:=by omega
 rw [hj9] at hdn;have hdn2:makeP g.cl lead=dn:=by rw [hdn];exact xX _
 refine WX.gn (cs:=pgC ⟨aa,ac,(nI (Jbj g.cl)),ja,jc,js⟩) rfl rfl rfl rfl T.u35 rfl T.z35 (fun w' hw j v hj=>Jbt hw yF j v hj) (fun w' hw=>⟨⟨aa,ac,(nI (Jbj g.cl)),ja,jc,js⟩,rfl,⟨rfl,by rw [hdn2];exact hjd⟩,?_⟩);exact (hw.pik [[oQ b4 (pgC ⟨aa,ac,(nI (Jbj g.cl)),ja,jc,js⟩) 35],[oQ b7 (pgC ⟨aa,ac,(nI (Jbj g.cl)),ja,jc,js⟩) 35],[own m29 (mapK iV (cntM L))],[oQ b33 (askL g.ts.length (fun k=>decide (k∈A))) 3],[rowI aa ac (nI (Jbj g.cl))],[rowJ ja jc js],[oQ b2 (cgC g) 30],jnA js] [4,5,7] 8).turned0
end Go.Proofs.YtdgigbopibdflaaGreatDoor
namespace Go.Hw
set_option linter.unusedVariables false
set_option linter.unusedSimpArgs false
open Go Go.RowKit Go.Proofs Go.Shelf
theorem made_flat (zc:List Value)(m:Nat)(h0:0<zc.length):madeCells zc.toArray (m*zc.length)=((List.replicate m ()).flatMap fun _=>zc).toArray:=by
 apply Array.ext
 ·simp [madeCells,Jcp (enc:=fun _:Unit=>zc) (k:=zc.length) (fun _=>rfl)]
 ·intro i h1 h2;have hl:i<m*zc.length:=by simpa [madeCells] using h1
  have hi:i / zc.length<m:=Nat.div_lt_of_lt_mul (by rw [Nat.mul_comm];exact hl);have hj:i % zc.length<zc.length:=Nat.mod_lt _ h0;have e:=Jcq (enc:=fun _:Unit=>zc) (k:=zc.length) (fun _=>rfl) (List.replicate m ()) (i / zc.length) (i % zc.length) () (by rw [List.getElem?_replicate,if_pos hi]) hj;rw [Nat.div_add_mod'] at e;have e2:((List.replicate m ()).flatMap fun _=>zc)[i]?=some (zc[i % zc.length]'hj):=by rw [e,xD hj]
  have e3:=(List.getElem?_eq_some_iff.1 e2).2;simp only [madeCells,Array.getElem_ofFn,List.getElem_toArray];rw [e3];simp [hj]
theorem WL.dp {P:Program}{w0 ws:World}{M I:Nat→Prop}{ow:List Item}{ops:Array Oper}{Q:Post}{n:Nat}{ds:DS}{e:Env}{rest:List Oper}{t lt T:TypeId}{p:String}{af:Array Edge}{k m:Nat}{x y:Operand}{zc:List Value}{bytes:Nat} 
  (hx:ev e x=some (.int .i64 (m:Int))) (hy:ev e y=some (.int .i64 (m:Int))) (hu:P.underlying lt=some (.slice T)) (hz:P.sz T=some zc.length) (hzr:P.zr T=some zc.toArray) (h0:0<zc.length) (hb:(P.info? T).map (·.bytes)=some bytes) (hm:bytes*m≤281474976710656∧m≤9223372036854775807) (hk:Nat.blt k n=true)
  (h:∀ b,WL P ops Q n ds ((k,.slice (some ⟨b,0,none⟩) m m)::e) (Sat w0 M I ws (oQ b ((List.replicate m ()).flatMap fun _=>zc) T::ow)) rest) :
  WL P ops Q n ds e (Sat w0 M I ws ow) (⟨some k,.makeSlice lt x y,t,p,af,none⟩::rest):=by
 refine WL.fi (ι:=Nat) (vv:=fun b=>.slice (some ⟨b,0,none⟩) m m) (SS:=fun b=>Sat w0 M I ws (oQ b ((List.replicate m ()).flatMap fun _=>zc) T::ow)) ?_ hk h;intro a w ha hw;unfold Program.sz at hz;unfold Program.zr at hzr;obtain ⟨i,hi,hsz⟩:=Option.map_eq_some_iff.1 hz;obtain ⟨i2,hi2,h2⟩:=Option.bind_eq_some_iff.1 hzr;obtain ⟨zv,hzv,hzc⟩:=Option.map_eq_some_iff.1 h2;obtain ⟨i3,hi3,hby⟩:=Option.map_eq_some_iff.1 hb;obtain rfl:=xH (hi.symm.trans hi2);obtain rfl:=xH (hi.symm.trans hi3)
 have hr:=run_make (P:=P) w lt T i zv hu hi hzv .i64 .i64 (m:Int) (m:Int) (by omega) (Int.le_refl _) (by
  have h':((bytes*m:Nat):Int)≤((281474976710656:Nat):Int):=Int.ofNat_le.2 hm.1;rw [Int.natCast_mul] at h';rw [hby];exact h') (by omega)
 have hmc:madeCells zv.cells ((m:Int).toNat*i.size)=((List.replicate m ()).flatMap fun _=>zc).toArray:=by
  rw [hzc,hsz,xN];exact made_flat zc m h0
 rw [hmc] at hr;refine ⟨w.heap.size,w.alloc (.cells ((List.replicate m ()).flatMap fun _=>zc).toArray T),?_,hw.fresh (Fr.alloc _ _) (Jde _ _) (fun b hb=>by simp only [own] at hb;subst hb;simp)⟩;simp [execOp,ha.eval hx,ha.eval hy,hr]
theorem WL.eu {P:Program}{w0 ws:World}{M I:Nat→Prop}{ow:List Item}{ops:Array Oper}{Q:Post}{n:Nat}{ds:DS}{e:Env}{rest:List Oper}{t:TypeId}{p:String}{af:Array Edge}{k:Nat}{v:Value}{g:Operand}{f:FuncId}{caps:List Value}{xs:List Operand}{vs:List Value}{ats:Array TypeId}(hf:bodied P f=true)(hg:ev e g=some (.func (.func f) #[] caps.toArray))(hv:evs e xs=some vs)(hk:Nat.blt k n=true) 
  (hc:∀ w,Sat w0 M I ws ow w→Calls P f (vs++caps).toArray w fun en w'=>en=.returned v∧Fr0 w w')
  (h:WL P ops Q n ds ((k,v)::e) (Sat w0 M I ws ow) rest):WL P ops Q n ds e (Sat w0 M I ws ow) (⟨some k,.call ⟨.value g,xs.toArray,ats⟩,t,p,af,none⟩::rest):=
 WL.ew (ι:=Unit) (vv:=fun _=>v) (SS:=fun _=>Sat w0 M I ws ow) hf hg hv hk (fun w hw=>(hc w hw).mono (fun _ _ ⟨h1,h2⟩=>⟨(),h1,hw.keep h2⟩)) (fun _=>h)
variable {P:Program} {ρ:Ren} {w:World} {T:TypeId} {b c:Nat}
theorem sortFunc0_calls (L:SlLaysF.n6 P ρ){α:Type}(enc:α→Value)(h1:∀ x,(enc x).oneCell'=true)(cf:α→α→Int)(hO:Go.Sort.SWO (ltOf cf))(g:Nat)(hg:bodied P g=true)(a:Option Addr)(xs:List α)(w:World) 
  (hA:Holds [row T 1 a xs.length c (xs.map enc)] w) (hcmp:∀ q,a=some q→∀ w',Fr (fun i=>i=q.block) w w'→∀ x y,Calls P g #[enc x,enc y] w' fun e w''=>e=.returned (.int .i64 (cf x y))∧Fr0 w' w'') (hsz:xs.length<4611686018427387904) :
  Calls P (ρ.f 6) #[.slice a xs.length c,.func (.func g) #[] #[]] w fun e w'=>e=.returned (.tuple #[])∧∃ ys:List α,ys.Perm xs∧ys.Pairwise (fun x y=>ltOf cf y x=false) ∧
   Turns [row T 1 a xs.length c (xs.map enc)] [row T 1 a ys.length c (ys.map enc)] w w':=by
 cases xs with
 | nil=>
  refine (AnyF.slices_SortFunc_none (P:=P) (ρ:=ρ) { L with } a c (.func (.func g) #[] #[]) w).mono ?_;rintro e w' ⟨rfl,rfl⟩;exact ⟨rfl,[],List.Perm.refl _,List.Pairwise.nil,Turns.refl hA⟩
 | cons x0 xs=>
  haveI:Inhabited α:=⟨x0⟩
  have hφ:=hA.φ _ yF
  have hbase:∃ b,a=some ⟨b,0,none⟩:=by
   have h2:w.ownsRow 0 T 1 (.slice a (x0::xs).length c) (x0::xs).length ((x0::xs).map enc):=hφ;rcases h2.2 with ⟨hv,h0⟩ | ⟨g,cc,cur,hv,_⟩
   ·simp at h0
   ·simp only [Value.slice.injEq] at hv;exact ⟨g,hv.1⟩
  obtain ⟨b,rfl⟩:=hbase;have hlt:b<w.heap.size:=hA.lt _ yF b ⟨_,rfl,rfl⟩
  have hcon:=Any.slices_SortFunc L enc h1 cf hO g #[] b 0 c (x0::xs).toArray w (fun args w=>Jep hg args w)
   (fun m os dk hs x y=>(hcmp _ rfl _ sort_fr x y).mono fun e w' ⟨he,hw⟩=>⟨he,Fr.grown hw⟩) (row_holds hφ) hlt (by simpa using hsz)
  have e0:(x0::xs).toArray.size=(x0::xs).length:=by simp
  rw [e0] at hcon;refine hcon.mono ?_;rintro e w' ⟨rfl,d',n,os,hp,hs,rfl⟩;obtain ⟨hp1,hp2⟩:=permIn_perm (d:=(x0::xs).toArray) (by rw [e0];exact hp);exact ⟨rfl,d'.toList,by simpa using hp1,sortedIn_pairwise (by rw [hp2,e0]) hs,sort_turns hA (by rw [hp2,e0])⟩
end Go.Hw
namespace Go.Proofs
set_option linter.unusedSimpArgs false
set_option linter.unusedVariables false
open Go Go.Shelf
set_option maxRecDepth 100000
def Tryz.sortR_ren:Go.Shelf.Ren:=⟨fun | 6=>53 | 15=>112 | 14=>111 | 28=>163 | 29=>164 | 20=>155 | 21=>156 | 22=>157 | 23=>158 | 24=>159 | 25=>160 | 26=>161 | 27=>162 | 46=>208 | 47=>209 | 48=>210 | 49=>211 | 50=>212 | 57=>230 | n=>n,fun | 22=>49 | 24=>24 | 25=>114 | 3=>3 | 39=>184 | 0=>0 | 53=>228 | 55=>230 | 4=>4 | 46=>221 | 45=>220 | 50=>225 | 5=>5 | 9=>9 | 66=>277 | 70=>281 | 76=>292 | 77=>293 | n=>n,fun | n=>n⟩
theorem Tryz.sortR:Go.Proofs.SlLaysF.n6 Tryz.prog Tryz.sortR_ren:={
 mixed:=by kernel_rfl
 f6:=⟨Tryz.f53.name,by decide,Tryz.func53.trans (congrArg some (by kernel_rfl))⟩
 f14:=⟨Tryz.f111.name,by decide,Tryz.func111.trans (congrArg some (by kernel_rfl))⟩
 f15:=Tryz.func112.trans (congrArg some (by kernel_rfl))
 f20:=⟨Tryz.f155.name,by decide,Tryz.func155.trans (congrArg some (by kernel_rfl))⟩
 f21:=⟨Tryz.f156.name,by decide,Tryz.func156.trans (congrArg some (by kernel_rfl))⟩
 f22:=⟨Tryz.f157.name,by decide,Tryz.func157.trans (congrArg some (by kernel_rfl))⟩
 f23:=⟨Tryz.f158.name,by decide,Tryz.func158.trans (congrArg some (by kernel_rfl))⟩
 f24:=⟨Tryz.f159.name,by decide,Tryz.func159.trans (congrArg some (by kernel_rfl))⟩
 f25:=⟨Tryz.f160.name,by decide,Tryz.func160.trans (congrArg some (by kernel_rfl))⟩
 f26:=⟨Tryz.f161.name,by decide,Tryz.func161.trans (congrArg some (by kernel_rfl))⟩
 f27:=⟨Tryz.f162.name,by decide,Tryz.func162.trans (congrArg some (by kernel_rfl))⟩
 f28:=Tryz.func163.trans (congrArg some (by kernel_rfl))
 f29:=Tryz.func164.trans (congrArg some (by kernel_rfl))
 f46:=⟨Tryz.f208.name,by decide,Tryz.func208.trans (congrArg some (by kernel_rfl))⟩
 f47:=Tryz.func209.trans (congrArg some (by kernel_rfl))
 f48:=Tryz.func210.trans (congrArg some (by kernel_rfl))
 f49:=⟨Tryz.f211.name,by decide,Tryz.func211.trans (congrArg some (by kernel_rfl))⟩
 f50:=⟨Tryz.f212.name,by decide,Tryz.func212.trans (congrArg some (by kernel_rfl))⟩
 f57:=⟨Tryz.f230.name,by decide,Tryz.func230.trans (congrArg some (by kernel_rfl))⟩
 t0:=Tryz.underlying0
 a0:=Tryz.isAgg0
 z0:=Tryz.sizeOf0
 v0:=Tryz.zeroValue0
 t3:=Tryz.underlying3
 a3:=Tryz.isAgg3
 z3:=Tryz.sizeOf3
 v3:=Tryz.zeroValue3
 t4:=Tryz.underlying4
 a4:=Tryz.isAgg4
 z4:=Tryz.sizeOf4
 v4:=Tryz.zeroValue4
 t5:=Tryz.underlying5
 a5:=Tryz.isAgg5
 z5:=Tryz.sizeOf5
 v5:=Tryz.zeroValue5
 t9:=Tryz.underlying9
 a9:=Tryz.isAgg9
 z9:=Tryz.sizeOf9
 v9:=Tryz.zeroValue9
 t22:=Tryz.underlying49
 a22:=Tryz.isAgg49
 z22:=Tryz.sizeOf49
 v22:=Tryz.zeroValue49
 a24:=Tryz.isAgg24
 z24:=Tryz.sizeOf24
 t25:=Tryz.underlying114
 a25:=Tryz.isAgg114
 z25:=Tryz.sizeOf114
 v25:=Tryz.zeroValue114
 t39:=Tryz.underlying184
 a39:=Tryz.isAgg184
 z39:=Tryz.sizeOf184
 v39:=Tryz.zeroValue184
 t45:=Tryz.underlying220
 a45:=Tryz.isAgg220
 z45:=Tryz.sizeOf220
 v45:=Tryz.zeroValue220
 t46:=Tryz.underlying221
 a46:=Tryz.isAgg221
 z46:=Tryz.sizeOf221
 v46:=Tryz.zeroValue221
 t50:=Tryz.underlying225
 a50:=Tryz.isAgg225
 z50:=Tryz.sizeOf225
 v50:=Tryz.zeroValue225
 t53:=Tryz.underlying228
 a53:=Tryz.isAgg228
 z53:=Tryz.sizeOf228
 v53:=Tryz.zeroValue228
 t55:=Tryz.underlying230
 a55:=Tryz.isAgg230
 z55:=Tryz.sizeOf230
 v55:=Tryz.zeroValue230
 t66:=Tryz.underlying277
 a66:=Tryz.isAgg277
 z66:=Tryz.sizeOf277
 v66:=Tryz.zeroValue277
 t70:=Tryz.underlying281
 a70:=Tryz.isAgg281
 z70:=Tryz.sizeOf281
 v70:=Tryz.zeroValue281
 t76:=Tryz.underlying292
 a76:=Tryz.isAgg292
 z76:=Tryz.sizeOf292
 v76:=Tryz.zeroValue292
 t77:=Tryz.underlying293
 a77:=Tryz.isAgg293
 z77:=Tryz.sizeOf293
 v77:=Tryz.zeroValue293 }
end Go.Proofs
