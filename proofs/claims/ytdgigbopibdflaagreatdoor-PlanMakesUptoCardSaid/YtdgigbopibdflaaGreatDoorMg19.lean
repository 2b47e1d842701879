/- Contracts of functions of the program: what each returns and leaves in memory. Printed by gen.py and walk.py. -/
import Derived.Test.YtdgigbopibdflaaGreatDoorMg18
import Derived.Test.YtdgigbopibdflaaGreatDoorMg14
import Derived.Test.YtdgigbopibdflaaGreatDoorHxA
import Derived.Test.YtdgigbopibdflaaGreatDoorMg13
set_option maxRecDepth 10000
namespace Go.Proofs.YtdgigbopibdflaaGreatDoor
open Go Go.Hw
set_option linter.unusedSimpArgs false
set_option linter.unusedVariables false
def BA:AG:=⟨⟨T0,⟨#[98,101,104,105,110,100]⟩,[]⟩,none,0⟩
def TSB:Ts:=⟨903,T0,T0⟩
def Jfu (w:World):Prop:=∀ j v,(tsC TSB)[j]?=some v→w.cell? ⟨0,j,none⟩=some v
theorem Jfu.keeps {w w':World}(h:Jfu w)(k:Keeps w w'):Jfu w':=fun j v hj=>k _ _ (h j v hj)
abbrev rowAB (a:Option Addr)(c:Nat)(zs:List AG):Hw.Item:=row 26 5 a (zs.length+1) c ((zs++[BA]).flatMap agC)
abbrev argB (y:AG):Hw.Item:=rowL2 y.a y.c y.x.args
abbrev rowSB (a:Option Addr)(c:Nat)(ts:List Ts):Hw.Item:=row 85 7 a (ts.length+1) c ((ts++[TSB]).flatMap tsC)
structure LG where
 a:Option Addr
 c:Nat
 zs:List AG
structure LGok (ys:List AG) (z:LG):Prop where
 x:z.zs.map AG.x=ys.map AG.x
 c:ys.length+1≤z.c
 y:∀ y∈z.zs,y.x.args.length+1≤y.c
theorem tm_eq3 (d:Nat)(k n:Int)(s:ByteArray)(k' n':Int)(s':ByteArray)(w:World):(Op.equalIn (d+2) 23 (.agg #[.int .i64 k,.int .i64 n,.string s]) (.agg #[.int .i64 k',.int .i64 n',.string s'])).run Tryz.prog w=.ok (decide (k=k'∧n=n'∧s=s')) w:=by
 have h:=Jig d ⟨k,n,s⟩ ⟨k',n',s'⟩ w;rw [show decide ((⟨k,n,s⟩:Tm)=⟨k',n',s'⟩)=decide (k=k'∧n=n'∧s=s') from decide_eq_decide.2 (by simp)] at h;exact h
set_option maxRecDepth 100000 in
theorem ts_equal (d:Nat)(a b:Ts)(w:World):(Op.equalIn (d+3) 85 (tsV a) (tsV b)).run Tryz.prog w=.ok (decide (a=b)) w:=by
 rw [run_equalIn_struct w (d+2) 85 _ _ (by simp only [Program.fieldsOf,T.u85]) (by kernel_rfl)];obtain ⟨o,⟨k,n,s⟩,⟨k2,n2,s2⟩⟩:=a;obtain ⟨o',⟨k',n',s'⟩,⟨k2',n2',s2'⟩⟩:=b;simp only [Program.fieldsOf,T.u85];simp [Op.eqFields,part,tsC,tmC,Jcy T.u3,Jcy T.u23,aggD,run_equalIn_int w _ _ _ _ _ _ T.u3,tm_eq3]
 by_cases h1:o=o' <;> by_cases h2:k=k' <;> by_cases h3:n=n' <;> by_cases h4:s=s' <;> by_cases h5:k2=k2' <;> by_cases h6:n2=n2' <;> by_cases h7:s2=s2' <;> simp [h1,h2,h3,h4,h5,h6,h7]
theorem OV.eqlTs {n:Nat}{ds:DS}{e:Env}{S:World→Prop}{dst:Option Tmp}{t:TypeId}{p:String}{af:Array Edge}{g:Option (Nat × Bool)}{x y:Operand}{a b:Ts}(hx:ev e x=some (tsV a))(hy:ev e y=some (tsV b)):OV Tryz.prog n ds e S ⟨dst,.binOp .eql 85 x y 85,t,p,af,g⟩ (.bool (decide (a=b))):=fun _ w ha _=>by
 simp [execOp,ha.eval hx,ha.eval hy,run_eqGuard_agg _ _ _ _ _ _ _ (show Program.eqGuardType Tryz.prog (Program.depth Tryz.prog) 85=false by kernel_rfl),run_eql_struct,ts_equal 9997]
theorem OV.neqTs {n:Nat}{ds:DS}{e:Env}{S:World→Prop}{dst:Option Tmp}{t:TypeId}{p:String}{af:Array Edge}{g:Option (Nat × Bool)}{x y:Operand}{a b:Ts}(hx:ev e x=some (tsV a))(hy:ev e y=some (tsV b)):OV Tryz.prog n ds e S ⟨dst,.binOp .neq 85 x y 85,t,p,af,g⟩ (.bool (!decide (a=b))):=fun _ w ha _=>by
 simp [execOp,ha.eval hx,ha.eval hy,run_eqGuard_agg _ _ _ _ _ _ _ (show Program.eqGuardType Tryz.prog (Program.depth Tryz.prog) 85=false by kernel_rfl),run_neq_struct,ts_equal 9997]
theorem Src.of_rs {a:Option Addr}{ts:List Ts}{S:World→Prop}(hn:a=none→ts.length=0)(h:∀ w,S w→RS w a ts):Src S a ts.length 7 (ts.flatMap tsC):=by
 refine ⟨by rw [Jcp Jim],hn,fun w hw q hq j v hj=>?_⟩;have hlen:j<ts.length*7:=by have:=(List.getElem?_eq_some_iff.1 hj).1;rwa [Jcp Jim] at this
 obtain ⟨y,hy⟩:∃ y,ts[j / 7]?=some y:=⟨_,xD (by omega)⟩
 have h1:=Jcq Jim ts (j / 7) (j % 7) y hy (by omega);rw [show j / 7*7+j % 7=j by omega,hj] at h1;have h2:=(h w hw).at_ q hq (j / 7) y hy (j % 7) v h1.symm;rw [← Jdz,show j / 7*7+j % 7=j by omega] at h2;exact h2
theorem Jci (ys:List AG)(a:Option Addr)(c:Nat)(hm:ys.length≤1048576)(hl:∀ y∈ys,y.x.args.length≤1048576)(w:World)(hB:Jdj w)(hr:RA w a ys):Calls Tryz.prog 29 #[.slice a ys.length c] w fun e w'=>∃ z:LG,e=.returned (.slice z.a ys.length z.c)∧LGok ys z∧Turns [] (rowAB z.a z.c z.zs::z.zs.map argB) w w':=by
 refine Jbi (args:=[.slice a ys.length c]) (fun _=>False) Tryz.func29 rfl Tryz.ntmps29 rfl rfl ?_;refine Csr (Za rfl (Nn (Csr (Za rfl (Nn (Cs (Csr (Za rfl (Nn (Cb (WC.weak (S':=Sat0 w (row 26 5 none 0 0 []::[])) (fun w' hw=>hw.rowNil 26 5) ?_)))))))))))
 refine WC.d8 (fun (i:Nat) (la:Option Addr) (lc:Nat) (zs:List AG)=>[(0,.slice a ys.length c),(3,.slice la zs.length lc),(4,.int .i64 (i:Int))])
   (fun i la lc zs w'=>(i≤ys.length∧zs.length=i∧zs.map AG.x=(ys.take i).map AG.x∧∀ y∈zs,y.x.args.length+1≤y.c)∧Sat0 w (rowAt la lc zs::zs.map argB) w')
   (fun i _ _ _=>ys.length - i) 0 none 0 [] Y3 (fun w' hw=>⟨⟨by omega,rfl,rfl,fun y hy=>by cases hy⟩,hw⟩) ?_
 intro i la lc zs;refine WC.pure (fun hi=>?_);obtain ⟨hi,hzl,hzx,hzc⟩:=hi;refine Cs (Csr (Zm rfl (Zm rfl ?_)))
 first
 | (refine WL.val (OV.ad rfl T.u27) rfl ?_;trace "ALT Jci#0 c04edde8 0")
 | (refine WL.val (OV.bg rfl T.u27) rfl ?_;trace "ALT Jci#0 c04edde8 1")
 refine Zv (OV.cu rfl rfl) (Nn ?_);refine Cc rfl (fun c8=>?_) (fun c8=>?_)
 ·refine Ck (Xn (Cs (Cb (Cr (Zm rfl (Zm rfl (Zm rfl ?_)))))));obtain ⟨q,y,hq,hy,hym,hry,hcy⟩:=hr.get (i:=i) (by omega);refine Zv ((OV.ae (show _=some (Value.slice (some q) ys.length c) by rw [← hq];rfl) rfl T.u27 T.z26 (by omega)).cast (u:=.pointer (some (q.add (i*5)))) (by rw [xN])) (Zv (OV.am (cs:=agC y) rfl T.u26 rfl T.z26 (fun _ hw j v hj=>hw.keeps _ _ (hcy j v hj))) (WL.cT (ι:=Option Addr × Nat) (vs:=[atV y.x y.a y.c]) (vv:=fun z=>atV y.x z.1 z.2) (pp:=fun z=>y.x.args.length+1≤z.2) [] (AA:=fun z=>[rowL2 z.1 z.2 y.x.args]) rfl (fun w' hw' _=>(Jed y.x y.a y.c (hl y hym) w' (hB.keeps hw'.keeps) (hry.keeps hw'.keeps)).mono (fun en w'' ⟨z,h1,h2,h3⟩=>⟨z,h1,h2,h3⟩)) ?_));rintro ⟨xa,xc⟩ hxc;refine WL.bo (cs:=agC (⟨y.x,xa,xc⟩:AG)) T.u27 T.z26 T.zr26 rfl rfl (by omega) (by omega) rfl ?_;intro b17;refine WL.focus (ow':=rowAt la lc zs::oQ b17 (agC (⟨y.x,xa,xc⟩:AG)) 26::rowL2 xa xc y.x.args::zs.map argB) (pmP [_,_,_] [2,0,1]) ?_;refine WL.append (news:=agC (⟨y.x,xa,xc⟩:AG)) rfl rfl T.apA (fun _ _=>Jdx yG rfl) (Jgm _) ⟨by omega,by unfold maxLen;omega⟩ rfl ?_;intro a18 c18;refine Za rfl (Nl (Xb (Xn (Cr (Zm rfl (Zv (OV.bh (j:=1) rfl rfl (by omega)) (Za rfl (Nl ?_))))))));have el:zs.length+1=(zs++[(⟨y.x,xa,xc⟩:AG)]).length:=by simp
  have ef:zs.flatMap agC++agC (⟨y.x,xa,xc⟩:AG)=(zs++[(⟨y.x,xa,xc⟩:AG)]).flatMap agC:=by simp
  exact WX.cg (i+1) a18 c18 (zs++[(⟨y.x,xa,xc⟩:AG)]) ⟨rfl,by rw [← el];rfl,rfl,trivial⟩ (fun w' hw=>⟨⟨by omega,by simp [hzl],by rw [Jb1 hy,xT,xT,hzx];rfl,fun z hz=>by
   rcases List.mem_append.1 hz with h | h
   ·exact hzc z h
   ·simp only [xI] at h;rw [h];exact hxc⟩,by
   rw [el,ef] at hw;rw [xT];exact hw.pik [[rowAt a18 c18 (zs++[(⟨y.x,xa,xc⟩:AG)])],[oQ b17 (agC (⟨y.x,xa,xc⟩:AG)) 26],[rowL2 xa xc y.x.args],zs.map argB] [0,3,2] 4⟩) (by show ys.length - (i+1)<ys.length - i;omega)
 refine Ce (Xe (Xe (Xh (Xn (Csr (Zm rfl (Zv (OV.bf (xs:=[(1,.const (.string BA.x.name))]) (pl:=[(0,3),(3,1),(4,1)]) (cs:=agC BA) T.u26 T.zr26 (by kernel_rfl) rfl (Jax (us:=[_]) rfl rfl yU rfl)) (WL.bo (cs:=agC BA) T.u27 T.z26 T.zr26 rfl rfl (by omega) (by omega) rfl ?_))))))));intro b21;refine WL.focus (ow':=rowAt la lc zs::oQ b21 (agC BA) 26::zs.map argB) (pmP [_,_] [1,0]) ?_;refine WL.append (news:=agC BA) rfl rfl T.apA (fun _ _=>Jdx yG rfl) (Jgm _) ⟨by omega,by unfold maxLen;omega⟩ rfl ?_;intro a22 c22;rw [show zs.flatMap agC++agC BA=(zs++[BA]).flatMap agC by simp];refine Za rfl (Nn (Cs ?_));refine WC.jl (fun w' hw=>Jgt (hw.it (rowAB a22 c22 zs) yF)) (fun hcap=>?_);refine Cr (Zm rfl (Zm rfl ?_))
 first
 | (refine WL.val (OV.ad rfl T.u27) rfl ?_;trace "ALT Jci#1 c04edde8 0")
 | (refine WL.val (OV.bg rfl T.u27) rfl ?_;trace "ALT Jci#1 c04edde8 1")
 refine Zv (OV.e7 (h:=ys.length) rfl T.u27 T.z26 rfl (by omega)) (Za rfl (Nn (WC.ay ?_)));rw [xK (by omega)] at hzx;exact WX.ret1 rfl rfl rfl (fun w' hw=>⟨⟨a22,c22,zs⟩,rfl,⟨hzx,by show ys.length+1≤c22;omega,hzc⟩,(hw.pik [[rowAB a22 c22 zs],[oQ b21 (agC BA) 26],zs.map argB] [0,2] 3).turned0⟩)
theorem Jch (ts:List Ts)(a1 a2:Option Addr)(c1 c2:Nat)(hl:ts.length≤1099511627776)(w:World)(hr1:RS w a1 ts)(hr2:RS w a2 ts):Calls Tryz.prog 45 #[.slice a1 ts.length c1,.slice a2 ts.length c2] w fun e w'=>e=.returned (.bool true)∧Fr0 w w':=by
 refine Jbi (args:=[.slice a1 ts.length c1,.slice a2 ts.length c2]) (fun _=>False) Tryz.func45 rfl Tryz.ntmps45 rfl rfl ?_;refine Csr (Za rfl (Nn (Cs (Csr (Zm rfl ?_)))))
 first
 | (refine WL.val (OV.ad rfl T.u28) rfl ?_;trace "ALT Jch#0 c04edde8 0")
 | (refine WL.val (OV.bg rfl T.u28) rfl ?_;trace "ALT Jch#0 c04edde8 1")
 refine Zm rfl ?_
 first
 | (refine WL.val (OV.ad rfl T.u28) rfl ?_;trace "ALT Jch#1 c04edde8 0")
 | (refine WL.val (OV.bg rfl T.u28) rfl ?_;trace "ALT Jch#1 c04edde8 1")
 refine Zv ((OV.fb rfl rfl).cast (u:=.bool false) (by simp)) (Nn (WC.ca (show _=some (Value.bool false) from by rfl) ?_));refine Ck (Xn (Cs (Csr (Za rfl (Nn (Cb ?_))))))
 refine WC.bz (fun (i:Nat)=>[(0,.slice a1 ts.length c1),(1,.slice a2 ts.length c2),(5,.int .i64 (i:Int))])
   (fun i w'=>i≤ts.length∧Sat0 w ([]) w')
   (fun i=>ts.length - i) 0 Y3 (fun w' hw=>⟨by omega,hw⟩) ?_
 intro i;refine WC.pure (fun hi=>?_);refine Cs (Csr (Zm rfl (Zm rfl ?_)))
 first
 | (refine WL.val (OV.ad rfl T.u28) rfl ?_;trace "ALT Jch#2 c04edde8 0")
 | (refine WL.val (OV.bg rfl T.u28) rfl ?_;trace "ALT Jch#2 c04edde8 1")
 refine Zv (OV.cu rfl rfl) (Nn ?_);refine Cc rfl (fun c14=>?_) (fun c14=>?_)
 ·refine Ck (Xn (Cs (Cb (Cs ?_))));obtain ⟨q1,t,hq1,ht,htm,hc1⟩:=hr1.get (i:=i) (by omega);obtain ⟨q2,t2,hq2,ht2,_,hc2⟩:=hr2.get (i:=i) (by omega);obtain rfl:t=t2:=by rw [ht] at ht2;exact xH ht2
  refine Hq [] (m:=9) rfl ?_;refine Hf 0 rfl (OV.cj rfl) (Hf 1 rfl (OV.cj rfl) (Hf 2 rfl ((OV.ae (show _=some (Value.slice (some q1) ts.length c1) by rw [← hq1];rfl) rfl T.u28 T.z85 (by omega)).cast (u:=.pointer (some (q1.add (i*7)))) (by rw [xN])) (Ht 3 rfl (OV.am (cs:=tsC t) rfl T.u85 rfl T.z85 (fun _ hw j v hj=>hw.keeps _ _ (hc1 j v hj))) (Hf 4 rfl (OV.cj rfl) (Hf 5 rfl (OV.cj rfl) (Hf 6 rfl ((OV.ae (show _=some (Value.slice (some q2) ts.length c2) by rw [← hq2];rfl) rfl T.u28 T.z85 (by omega)).cast (u:=.pointer (some (q2.add (i*7)))) (by rw [xN])) (Ht 7 rfl (OV.am (cs:=tsC t) rfl T.u85 rfl T.z85 (fun _ hw j v hj=>hw.keeps _ _ (hc2 j v hj))) (Hf 8 rfl ((OV.neqTs (a:=t) (b:=t) rfl rfl).cast (u:=.bool false) (by simp)) (He (Xn (WC.ca (show _=some (Value.bool false) from by rfl) ?_)))))))))));refine Ck (Xb (Xn (Cr (Zm rfl (Zv (OV.bh (j:=1) rfl rfl (by omega)) (Za rfl (Nl ?_)))))));exact WX.au (i+1) Y3 (fun w' hw=>⟨by omega,hw⟩) (by show ts.length - (i+1)<ts.length - i;omega)
 refine Ce (Xe (Xe (Xh (Xn (Csr (Za rfl (Nn (WC.ay ?_))))))));exact WX.ret1 rfl rfl rfl (fun w' hw=>⟨rfl,hw.fr⟩)
def lcI (q:CG):List Hw.Item:=rowL2 q.hd.a q.hd.c q.hd.x.args::rowAB q.ba q.bc q.bd::(q.bd.map argB++[rowSB q.ta q.tc q.ts])
structure LCok (g q:CG):Prop where
 cl:q.cl=g.cl
 hc:q.hd.x.args.length+1≤q.hd.c
 bc:q.bd.length+1≤q.bc
 yc:∀ y∈q.bd,y.x.args.length+1≤y.c
 tc:q.ts.length+1≤q.tc
set_option maxHeartbeats 2000000 in
theorem Jar (g:CG)(hs:CS g)(w:World)(hB:Jdj w)(hT:Jfu w)(hr:RC w g):Calls Tryz.prog 6 #[cgV g] w fun e w'=>∃ q:CG,e=.returned (cgV q)∧LCok g q∧Turns [] (lcI q) w w':=by
 have hst:=hs.tl;have hsa:=(hs.at_ g.hd (Or.inl rfl)).1;refine Jbi (args:=[cgV g]) (fun _=>False) Tryz.func6 rfl Tryz.ntmps6 rfl rfl ?_;refine Csr (WL.box rfl rfl rfl ?_);intro b1;refine WL.alloc T.zr30 rfl ?_;intro b2;refine Nn (Cs ?_);refine WC.io (fun (z:Nat × Option Addr × Nat × LG)=>[(1,yX b1),(2,yX b2),(3,yX z.1)]) (fun (z:Nat × Option Addr × Nat × LG)=>fun w'=>(g.hd.x.args.length+1≤z.2.2.1∧LGok g.bd z.2.2.2)∧Sat0 w (oQ z.1 ([.int .i64 g.hd.x.b.kind,.int .i64 g.hd.x.b.n,.string g.hd.x.b.s,.string g.hd.x.name,.slice z.2.1 g.hd.x.args.length z.2.2.1,.slice z.2.2.2.a g.bd.length z.2.2.2.c,.slice none 0 0]:List Value) 30::rowL2 z.2.1 z.2.2.1 g.hd.x.args::rowAB z.2.2.2.a z.2.2.2.c z.2.2.2.zs::(z.2.2.2.zs.map argB++[oQ b2 (cgC ⟨⟨⟨T0,E0,[]⟩,none,0⟩,none,0,[],none,0,[]⟩) 30,oQ b1 (cgC g) 30])) w') ?_ ?_
 ·refine Hd (fun w'=>w'.heap[b1]?=some (.cells (cgC g).toArray 30 (0,0))) [] (fun _ hw=>hw.it (oQ b1 (cgC g) 30) (by simp)) (m:=9) rfl ?_
  first
  | (refine Hf 0 rfl (OV.f0 0 rfl T.u30 rfl) ?_;trace "ALT Jar#0 182ae830 0")
  | (refine Hf 0 rfl (OV.ag (off:=0) rfl T.u30 rfl) ?_;trace "ALT Jar#0 182ae830 1")
  refine Ht 1 rfl (OV.am (cs:=agC g.hd) rfl T.u26 rfl T.z26 (fun _ hw j v hj=>by rw [Jav];exact Jcz hw (o:=0) (cs':=agC g.hd) rfl j v hj)) ?_
  first
  | (refine Hf 3 rfl (OV.f0 5 rfl T.u30 rfl) ?_;trace "ALT Jar#1 75ec517c 0")
  | (refine Hf 3 rfl (OV.ag (off:=5) rfl T.u30 rfl) ?_;trace "ALT Jar#1 75ec517c 1")
  refine Ht 4 rfl (OV.ap (v:=.slice g.ba g.bd.length g.bc) rfl T.u27 rfl (fun _ hw=>(Jbn hw (o:=5) rfl).1)) ?_;refine Hr (WH.two 2 7 rfl rfl (by kernel_rfl) (listed1:=[true,true,true,true,true,false,false,false,false]) rfl (listed2:=[true,true,false,true,true,false,false,true,false]) rfl (fl1:=false) rfl (fl2:=false) rfl ?_ ?_)
  ·refine WL.cT (ι:=Option Addr × Nat) (vs:=[atV g.hd.x g.hd.a g.hd.c]) (vv:=fun z=>atV g.hd.x z.1 z.2) (pp:=fun z=>g.hd.x.args.length+1≤z.2) [] (AA:=fun z=>[rowL2 z.1 z.2 g.hd.x.args]) rfl (fun w' hw' _=>(Jed g.hd.x g.hd.a g.hd.c (by omega) w' (hB.keeps hw'.keeps) (hr.hd.keeps hw'.keeps)).mono (fun en w'' ⟨z,h1,h2,h3⟩=>⟨z,h1,h2,h3⟩)) ?_;rintro ⟨ha,hc⟩ hhc;refine Hc (fun _=>(fun _ hw=>hw.it (oQ b1 (cgC g) 30) (by simp))) ?_;refine Hr (WH.two 5 7 rfl rfl (by kernel_rfl) (listed1:=[true,true,true,true,true,true,false,false,false]) rfl (listed2:=[true,true,true,true,true,false,false,true,false]) rfl (fl1:=false) rfl (fl2:=false) rfl ?_ ?_)
   ·refine WL.cT (ι:=LG) (vs:=[.slice g.ba g.bd.length g.bc]) (vv:=fun z=>.slice z.a g.bd.length z.c) (pp:=fun z=>LGok g.bd z) [] (AA:=fun z=>rowAB z.a z.c z.zs::z.zs.map argB) rfl (fun w' hw' _=>Jci g.bd g.ba g.bc hs.bl (fun y hy=>by have:=(hs.at_ y (Or.inr hy)).1;omega) w' (hB.keeps hw'.keeps) (hr.bd.keeps hw'.keeps)) ?_;rintro ⟨la,lc,zs⟩ hlg;refine Hc (fun _=>(fun _ hw=>hw.it (oQ b1 (cgC g) 30) (by simp))) ?_;refine Hf 6 rfl (OV.bf (xs:=[(0,.tmp 6),(1,.tmp 9)]) (pl:=[(0,5),(5,1),(6,1)]) (cs:=[.int .i64 g.hd.x.b.kind,.int .i64 g.hd.x.b.n,.string g.hd.x.b.s,.string g.hd.x.name,.slice ha g.hd.x.args.length hc,.slice la g.bd.length lc,.slice none 0 0]) T.u30 T.zr30 (by kernel_rfl) rfl (Jax (us:=agC ⟨g.hd.x,ha,hc⟩) rfl rfl yU (Jax (us:=[_]) rfl rfl yU rfl))) (Ho 7 rfl (fl':=false) rfl ?_);refine WL.alloc T.zr30 rfl ?_;intro b3;refine Hc (fun _=>(fun _ hw=>hw.it (oQ b1 (cgC g) 30) (by simp))) ?_;refine Ho 8 rfl (fl':=false) rfl ?_;refine WL.aj (vs:=[.int .i64 g.hd.x.b.kind,.int .i64 g.hd.x.b.n,.string g.hd.x.b.s,.string g.hd.x.name,.slice ha g.hd.x.args.length hc,.slice la g.bd.length lc,.slice none 0 0]) rfl rfl rfl T.z30 rfl ?_;refine Hc (fun _=>(fun _ hw=>hw.it (oQ b1 (cgC g) 30) (by simp))) ?_;refine He ?_;exact WX.ei (b3,ha,hc,(⟨la,lc,zs⟩:LG)) Y3 (fun w' hw=>⟨⟨hhc,hlg⟩,hw.pik [[oQ b3 ([.int .i64 g.hd.x.b.kind,.int .i64 g.hd.x.b.n,.string g.hd.x.b.s,.string g.hd.x.name,.slice ha g.hd.x.args.length hc,.slice la g.bd.length lc,.slice none 0 0]:List Value) 30],(rowAB la lc zs::zs.map argB),[rowL2 ha hc g.hd.x.args],[oQ b2 (cgC ⟨⟨⟨T0,E0,[]⟩,none,0⟩,none,0,[],none,0,[]⟩) 30],[oQ b1 (cgC g) 30]] [0,2,1,3,4] 5⟩)
   refine WL.alloc T.zr30 rfl ?_;intro b3;refine Hc (fun _=>(fun _ hw=>hw.it (oQ b1 (cgC g) 30) (by simp))) ?_;refine Ho 5 rfl (fl':=false) rfl ?_;refine WL.cT (ι:=LG) (vs:=[.slice g.ba g.bd.length g.bc]) (vv:=fun z=>.slice z.a g.bd.length z.c) (pp:=fun z=>LGok g.bd z) [] (AA:=fun z=>rowAB z.a z.c z.zs::z.zs.map argB) rfl (fun w' hw' _=>Jci g.bd g.ba g.bc hs.bl (fun y hy=>by have:=(hs.at_ y (Or.inr hy)).1;omega) w' (hB.keeps hw'.keeps) (hr.bd.keeps hw'.keeps)) ?_;rintro ⟨la,lc,zs⟩ hlg;refine Hc (fun _=>(fun _ hw=>hw.it (oQ b1 (cgC g) 30) (by simp))) ?_;refine Hf 6 rfl (OV.bf (xs:=[(0,.tmp 6),(1,.tmp 9)]) (pl:=[(0,5),(5,1),(6,1)]) (cs:=[.int .i64 g.hd.x.b.kind,.int .i64 g.hd.x.b.n,.string g.hd.x.b.s,.string g.hd.x.name,.slice ha g.hd.x.args.length hc,.slice la g.bd.length lc,.slice none 0 0]) T.u30 T.zr30 (by kernel_rfl) rfl (Jax (us:=agC ⟨g.hd.x,ha,hc⟩) rfl rfl yU (Jax (us:=[_]) rfl rfl yU rfl))) (Ho 8 rfl (fl':=false) rfl ?_);refine WL.focus (ow':=oQ b3 (cgC ⟨⟨⟨T0,E0,[]⟩,none,0⟩,none,0,[],none,0,[]⟩) 30::((rowAB la lc zs::zs.map argB)++(rowL2 ha hc g.hd.x.args::oQ b2 (cgC ⟨⟨⟨T0,E0,[]⟩,none,0⟩,none,0,[],none,0,[]⟩) 30::oQ b1 (cgC g) 30::[]))) (pmC [(rowAB la lc zs::zs.map argB),[oQ b3 (cgC ⟨⟨⟨T0,E0,[]⟩,none,0⟩,none,0,[],none,0,[]⟩) 30],[rowL2 ha hc g.hd.x.args],[oQ b2 (cgC ⟨⟨⟨T0,E0,[]⟩,none,0⟩,none,0,[],none,0,[]⟩) 30],[oQ b1 (cgC g) 30]] [1,0,2,3,4]) ?_;refine WL.aj (vs:=[.int .i64 g.hd.x.b.kind,.int .i64 g.hd.x.b.n,.string g.hd.x.b.s,.string g.hd.x.name,.slice ha g.hd.x.args.length hc,.slice la g.bd.length lc,.slice none 0 0]) rfl rfl rfl T.z30 rfl ?_;refine Hc (fun _=>(fun _ hw=>hw.it (oQ b1 (cgC g) 30) (by simp))) ?_;refine He ?_;exact WX.ei (b3,ha,hc,(⟨la,lc,zs⟩:LG)) Y3 (fun w' hw=>⟨⟨hhc,hlg⟩,hw.pik [[oQ b3 ([.int .i64 g.hd.x.b.kind,.int .i64 g.hd.x.b.n,.string g.hd.x.b.s,.string g.hd.x.name,.slice ha g.hd.x.args.length hc,.slice la g.bd.length lc,.slice none 0 0]:List Value) 30],(rowAB la lc zs::zs.map argB),[rowL2 ha hc g.hd.x.args],[oQ b2 (cgC ⟨⟨⟨T0,E0,[]⟩,none,0⟩,none,0,[],none,0,[]⟩) 30],[oQ b1 (cgC g) 30]] [0,2,1,3,4] 5⟩)
  refine WL.alloc T.zr30 rfl ?_;intro b3;refine Hc (fun _=>(fun _ hw=>hw.it (oQ b1 (cgC g) 30) (by simp))) ?_;refine Ho 2 rfl (fl':=false) rfl ?_;refine WL.cT (ι:=Option Addr × Nat) (vs:=[atV g.hd.x g.hd.a g.hd.c]) (vv:=fun z=>atV g.hd.x z.1 z.2) (pp:=fun z=>g.hd.x.args.length+1≤z.2) [] (AA:=fun z=>[rowL2 z.1 z.2 g.hd.x.args]) rfl (fun w' hw' _=>(Jed g.hd.x g.hd.a g.hd.c (by omega) w' (hB.keeps hw'.keeps) (hr.hd.keeps hw'.keeps)).mono (fun en w'' ⟨z,h1,h2,h3⟩=>⟨z,h1,h2,h3⟩)) ?_;rintro ⟨ha,hc⟩ hhc;refine Hc (fun _=>(fun _ hw=>hw.it (oQ b1 (cgC g) 30) (by simp))) ?_;refine Ho 5 rfl (fl':=false) rfl ?_;refine WL.cT (ι:=LG) (vs:=[.slice g.ba g.bd.length g.bc]) (vv:=fun z=>.slice z.a g.bd.length z.c) (pp:=fun z=>LGok g.bd z) [] (AA:=fun z=>rowAB z.a z.c z.zs::z.zs.map argB) rfl (fun w' hw' _=>Jci g.bd g.ba g.bc hs.bl (fun y hy=>by have:=(hs.at_ y (Or.inr hy)).1;omega) w' (hB.keeps hw'.keeps) (hr.bd.keeps hw'.keeps)) ?_;rintro ⟨la,lc,zs⟩ hlg;refine Hc (fun _=>(fun _ hw=>hw.it (oQ b1 (cgC g) 30) (by simp))) ?_;refine Hf 6 rfl (OV.bf (xs:=[(0,.tmp 6),(1,.tmp 9)]) (pl:=[(0,5),(5,1),(6,1)]) (cs:=[.int .i64 g.hd.x.b.kind,.int .i64 g.hd.x.b.n,.string g.hd.x.b.s,.string g.hd.x.name,.slice ha g.hd.x.args.length hc,.slice la g.bd.length lc,.slice none 0 0]) T.u30 T.zr30 (by kernel_rfl) rfl (Jax (us:=agC ⟨g.hd.x,ha,hc⟩) rfl rfl yU (Jax (us:=[_]) rfl rfl yU rfl))) (Ho 8 rfl (fl':=false) rfl ?_);refine WL.focus (ow':=oQ b3 (cgC ⟨⟨⟨T0,E0,[]⟩,none,0⟩,none,0,[],none,0,[]⟩) 30::((rowAB la lc zs::zs.map argB)++(rowL2 ha hc g.hd.x.args::oQ b2 (cgC ⟨⟨⟨T0,E0,[]⟩,none,0⟩,none,0,[],none,0,[]⟩) 30::oQ b1 (cgC g) 30::[]))) (pmC [(rowAB la lc zs::zs.map argB),[rowL2 ha hc g.hd.x.args],[oQ b3 (cgC ⟨⟨⟨T0,E0,[]⟩,none,0⟩,none,0,[],none,0,[]⟩) 30],[oQ b2 (cgC ⟨⟨⟨T0,E0,[]⟩,none,0⟩,none,0,[],none,0,[]⟩) 30],[oQ b1 (cgC g) 30]] [2,0,1,3,4]) ?_;refine WL.aj (vs:=[.int .i64 g.hd.x.b.kind,.int .i64 g.hd.x.b.n,.string g.hd.x.b.s,.string g.hd.x.name,.slice ha g.hd.x.args.length hc,.slice la g.bd.length lc,.slice none 0 0]) rfl rfl rfl T.z30 rfl ?_;refine Hc (fun _=>(fun _ hw=>hw.it (oQ b1 (cgC g) 30) (by simp))) ?_;refine He ?_;exact WX.ei (b3,ha,hc,(⟨la,lc,zs⟩:LG)) Y3 (fun w' hw=>⟨⟨hhc,hlg⟩,hw.pik [[oQ b3 ([.int .i64 g.hd.x.b.kind,.int .i64 g.hd.x.b.n,.string g.hd.x.b.s,.string g.hd.x.name,.slice ha g.hd.x.args.length hc,.slice la g.bd.length lc,.slice none 0 0]:List Value) 30],(rowAB la lc zs::zs.map argB),[rowL2 ha hc g.hd.x.args],[oQ b2 (cgC ⟨⟨⟨T0,E0,[]⟩,none,0⟩,none,0,[],none,0,[]⟩) 30],[oQ b1 (cgC g) 30]] [0,2,1,3,4] 5⟩)
 rintro ⟨b3,ha,hc,⟨la,lc,zs⟩⟩;refine WC.pure (fun hh=>?_);obtain ⟨hhc,hlg⟩:=hh;dsimp only at hhc hlg ⊢;refine Csr ?_
 first
 | (refine WL.val (OV.f0 6 rfl T.u30 rfl) rfl ?_;trace "ALT Jar#2 13d2c21b 0")
 | (refine WL.val (OV.ag (off:=6) rfl T.u30 rfl) rfl ?_;trace "ALT Jar#2 13d2c21b 1")
 refine Zv (OV.l1 (v:=.slice none 0 0) rfl T.u28 rfl yF rfl) ?_
 first
 | (refine WL.val (OV.f0 6 rfl T.u30 rfl) rfl ?_;trace "ALT Jar#3 13d2c21b 0")
 | (refine WL.val (OV.ag (off:=6) rfl T.u30 rfl) rfl ?_;trace "ALT Jar#3 13d2c21b 1")
 refine Zv (OV.ap (v:=.slice g.ta g.ts.length g.tc) rfl T.u28 rfl (fun _ hw=>(Jbn (hw.it (oQ b1 (cgC g) 30) (by simp)) (o:=6) rfl).1)) (WL.weak (S':=Sat0 w (row 85 7 none 0 0 []::oQ b3 ([.int .i64 g.hd.x.b.kind,.int .i64 g.hd.x.b.n,.string g.hd.x.b.s,.string g.hd.x.name,.slice ha g.hd.x.args.length hc,.slice la g.bd.length lc,.slice none 0 0]:List Value) 30::rowL2 ha hc g.hd.x.args::rowAB la lc zs::(zs.map argB++[oQ b2 (cgC ⟨⟨⟨T0,E0,[]⟩,none,0⟩,none,0,[],none,0,[]⟩) 30,oQ b1 (cgC g) 30]))) (fun w' hw=>hw.rowNil 85 7) ?_);refine WL.append (news:=g.ts.flatMap tsC) rfl rfl T.apS (fun _ _=>Src.of_rs hr.ts.nil (fun _ hw=>hr.ts.keeps hw.keeps)) (tss_one _) ⟨by omega,by unfold maxLen;omega⟩ rfl ?_;intro ta tc;simp only [xM,xW]
 first
 | (refine WL.val (OV.f0 6 rfl T.u30 rfl) rfl ?_;trace "ALT Jar#4 13d2c21b 0")
 | (refine WL.val (OV.ag (off:=6) rfl T.u30 rfl) rfl ?_;trace "ALT Jar#4 13d2c21b 1")
 refine WL.focus perm1 (WL.cd (o:=6) rfl rfl rfl T.z28 (by show 6<7;omega) ?_);refine Nn (Csr ?_)
 first
 | (refine WL.val (OV.f0 6 rfl T.u30 rfl) rfl ?_;trace "ALT Jar#5 13d2c21b 0")
 | (refine WL.val (OV.ag (off:=6) rfl T.u30 rfl) rfl ?_;trace "ALT Jar#5 13d2c21b 1")
 refine Zv (OV.l1 (v:=.slice ta g.ts.length tc) rfl T.u28 rfl yF rfl) (Zv (OV.am (cs:=tsC TSB) rfl T.u85 rfl T.z85 (fun _ hw j v hj=>by rw [Jav,xM];exact hw.keeps _ _ (hT j v hj))) (WL.bo (cs:=tsC TSB) T.u28 T.z85 T.zr85 rfl rfl (by omega) (by omega) rfl ?_));intro b20;refine WL.focus (ow':=row 85 7 ta g.ts.length tc (g.ts.flatMap tsC)::oQ b20 (tsC TSB) 85::oQ b3 ([.int .i64 g.hd.x.b.kind,.int .i64 g.hd.x.b.n,.string g.hd.x.b.s,.string g.hd.x.name,.slice ha g.hd.x.args.length hc,.slice la g.bd.length lc,.slice ta g.ts.length tc]:List Value) 30::rowL2 ha hc g.hd.x.args::rowAB la lc zs::(zs.map argB++[oQ b2 (cgC ⟨⟨⟨T0,E0,[]⟩,none,0⟩,none,0,[],none,0,[]⟩) 30,oQ b1 (cgC g) 30])) (pmP [_,_,_] [2,0,1]) ?_;refine WL.append (news:=tsC TSB) rfl rfl T.apS (fun _ _=>Jdx yG rfl) (Jit _) ⟨by omega,by unfold maxLen;omega⟩ rfl ?_;intro tb td;rw [show g.ts.flatMap tsC++tsC TSB=(g.ts++[TSB]).flatMap tsC by simp]
 first
 | (refine WL.val (OV.f0 6 rfl T.u30 rfl) rfl ?_;trace "ALT Jar#6 13d2c21b 0")
 | (refine WL.val (OV.ag (off:=6) rfl T.u30 rfl) rfl ?_;trace "ALT Jar#6 13d2c21b 1")
 refine WL.focus perm2 (WL.cd (o:=6) rfl rfl rfl T.z28 (by show 6<7;omega) ?_);refine Nn (Cs ?_);refine WC.jl (fun w' hw=>Jgt (hw.it (rowSB tb td g.ts) yG)) (fun hcap=>?_);refine Cr ?_
 first
 | (refine WL.val (OV.f0 6 rfl T.u30 rfl) rfl ?_;trace "ALT Jar#7 13d2c21b 0")
 | (refine WL.val (OV.ag (off:=6) rfl T.u30 rfl) rfl ?_;trace "ALT Jar#7 13d2c21b 1")
 refine Zv (OV.l1 (v:=.slice tb (g.ts.length+1) td) rfl T.u28 rfl yF rfl) ?_
 first
 | (refine WL.val (OV.f0 6 rfl T.u30 rfl) rfl ?_;trace "ALT Jar#8 13d2c21b 0")
 | (refine WL.val (OV.ag (off:=6) rfl T.u30 rfl) rfl ?_;trace "ALT Jar#8 13d2c21b 1")
 refine Zv (OV.ap (v:=.slice g.ta g.ts.length g.tc) rfl T.u28 rfl (fun _ hw=>(Jbn (hw.it (oQ b1 (cgC g) 30) (by simp)) (o:=6) rfl).1)) ?_
 first
 | (refine WL.val (OV.ad rfl T.u28) rfl ?_;trace "ALT Jar#9 c04edde8 0")
 | (refine WL.val (OV.bg rfl T.u28) rfl ?_;trace "ALT Jar#9 c04edde8 1")
 refine Zv (OV.e7 (h:=g.ts.length) rfl T.u28 T.z85 rfl (by omega)) ?_
 first
 | (refine WL.val (OV.f0 6 rfl T.u30 rfl) rfl ?_;trace "ALT Jar#10 13d2c21b 0")
 | (refine WL.val (OV.ag (off:=6) rfl T.u30 rfl) rfl ?_;trace "ALT Jar#10 13d2c21b 1")
 refine WL.cd (o:=6) rfl rfl rfl T.z28 (by show 6<7;omega) ?_;refine Nn (Csr (Zv (OV.lN (cs:=[.int .i64 g.hd.x.b.kind,.int .i64 g.hd.x.b.n,.string g.hd.x.b.s,.string g.hd.x.name,.slice ha g.hd.x.args.length hc,.slice la g.bd.length lc,.slice tb g.ts.length td]) rfl T.u30 rfl T.z30 yF) (WL.focus (ow':=oQ b2 (cgC ⟨⟨⟨T0,E0,[]⟩,none,0⟩,none,0,[],none,0,[]⟩) 30::oQ b3 ([.int .i64 g.hd.x.b.kind,.int .i64 g.hd.x.b.n,.string g.hd.x.b.s,.string g.hd.x.name,.slice ha g.hd.x.args.length hc,.slice la g.bd.length lc,.slice tb g.ts.length td]:List Value) 30::rowSB tb td g.ts::oQ b20 (tsC TSB) 85::rowL2 ha hc g.hd.x.args::rowAB la lc zs::(zs.map argB++[oQ b1 (cgC g) 30])) (pmC [[oQ b3 ([.int .i64 g.hd.x.b.kind,.int .i64 g.hd.x.b.n,.string g.hd.x.b.s,.string g.hd.x.name,.slice ha g.hd.x.args.length hc,.slice la g.bd.length lc,.slice tb g.ts.length td]:List Value) 30],[rowSB tb td g.ts],[oQ b20 (tsC TSB) 85],[rowL2 ha hc g.hd.x.args],[rowAB la lc zs],zs.map argB,[oQ b2 (cgC ⟨⟨⟨T0,E0,[]⟩,none,0⟩,none,0,[],none,0,[]⟩) 30],[oQ b1 (cgC g) 30]] [6,0,1,2,3,4,5,7]) ?_)));refine WL.aj (vs:=[.int .i64 g.hd.x.b.kind,.int .i64 g.hd.x.b.n,.string g.hd.x.b.s,.string g.hd.x.name,.slice ha g.hd.x.args.length hc,.slice la g.bd.length lc,.slice tb g.ts.length td]) rfl rfl rfl T.z30 rfl ?_;refine Nn (WC.ay ?_);have hzl:zs.length=g.bd.length:=by have h9:=congrArg List.length hlg.x;simpa using h9
 have e9:cgC ⟨⟨g.hd.x,ha,hc⟩,la,lc,zs,tb,td,g.ts⟩=([.int .i64 g.hd.x.b.kind,.int .i64 g.hd.x.b.n,.string g.hd.x.b.s,.string g.hd.x.name,.slice ha g.hd.x.args.length hc,.slice la g.bd.length lc,.slice tb g.ts.length td]:List Value):=by
  show [_,_,_,_,_,Value.slice la zs.length lc,_]=_;rw [hzl]
 refine WX.retC (cs:=[.int .i64 g.hd.x.b.kind,.int .i64 g.hd.x.b.n,.string g.hd.x.b.s,.string g.hd.x.name,.slice ha g.hd.x.args.length hc,.slice la g.bd.length lc,.slice tb g.ts.length td]) rfl rfl rfl T.u30 rfl T.z30 (fun w' hw j v hj=>Jbt hw yF j v hj) (fun w' hw=>⟨⟨⟨g.hd.x,ha,hc⟩,la,lc,zs,tb,td,g.ts⟩,congrArg (fun l:List Value=>Ending.returned (.agg l.toArray)) e9.symm,⟨by unfold CG.cl;rw [show zs.map AG.x=g.bd.map AG.x from hlg.x],hhc,by show zs.length+1≤lc;rw [hzl];exact hlg.c,hlg.y,by show g.ts.length+1≤td;omega⟩,?_⟩);exact (hw.pik [[oQ b2 ([.int .i64 g.hd.x.b.kind,.int .i64 g.hd.x.b.n,.string g.hd.x.b.s,.string g.hd.x.name,.slice ha g.hd.x.args.length hc,.slice la g.bd.length lc,.slice tb g.ts.length td]:List Value) 30],[oQ b3 ([.int .i64 g.hd.x.b.kind,.int .i64 g.hd.x.b.n,.string g.hd.x.b.s,.string g.hd.x.name,.slice ha g.hd.x.args.length hc,.slice la g.bd.length lc,.slice tb g.ts.length td]:List Value) 30],[rowSB tb td g.ts],[oQ b20 (tsC TSB) 85],[rowL2 ha hc g.hd.x.args],[rowAB la lc zs],zs.map argB,[oQ b1 (cgC g) 30]] [4,5,6,2] 8).turned0
section
open Go.ChangeShapes Go.WideShapes Go.ChangeAt Go.RowKit
variable {H:Type} {enc:TypeId × Value→H} {w:World} {base:Nat} {spare:Nat→Bool} {held:Bool}
theorem Jix {α β:Type}(f:α→List β)(wt:α→Nat)(h:∀ y,(f y).length≤wt y):∀ l:List α,(l.flatMap f).length≤(l.map wt).sum
 | []=>Nat.le_refl _
 | y::l=>by
  rw [List.flatMap_cons,xL,yA,List.sum_cons];have h1:=h y;have h2:=Jix f wt h l;omega
theorem clause_cs {g:CG}(h:wtC g≤1048576):CS g:=by
 have hc:=clause_ok h;unfold wtC at h;have hw:∀ y:AG,wtA y=y.x.name.size+y.x.args.length+7:=fun _=>rfl
 have hp:∀ y:AG,(plc y.x).length≤wtA y:=fun y=>by
  have h1:(plc y.x).length=y.x.args.length+1:=by simp [plc]
  have h2:=hw y;omega
 refine ⟨fun y hy=>?_,hc.2.1,hc.2.2,?_⟩
 ·have h2:wtA y≤1048576:=by
   rcases hy with rfl | hy
   ·omega
   ·have h2:=le_sum wtA hy;omega
  have h3:=hw y;omega
 ·have h1:(Jbu g.cl).length≤(g.bd.map wtA).sum:=by
   have h3:Jbu g.cl=g.bd.flatMap fun y=>plc y.x:=by show (g.bd.map AG.x).flatMap plc=_;rw [List.flatMap_map]
   rw [h3];exact Jix _ _ hp _
  have h2:(Jbx g.cl).length≤(g.ts.map fun _=>2).sum:=Jix _ _ (fun _=>Nat.le_refl _) _
  have h4:(g.ts.map fun _=>2).sum=2*g.ts.length:=by
   rw [List.map_const',List.sum_replicate_nat];exact Nat.mul_comm _ _
  have h5:=hp g.hd;show (plc g.hd.x++(Jbu g.cl++Jbx g.cl)).length≤_;rw [xL,xL];omega
set_option maxRecDepth 100000 in
theorem trod_testD {fuel:Nat}{cs:List Value}{x:DataW H × List MemPlace}(h:DataW.trod enc Tryz.prog w base spare held fuel 85 cs=some x):
  ∃ t:Ts,cs=tsC t∧x.1=.agg [.lit (.int .i64 t.op),.agg [.lit (.int .i64 t.l.kind),.lit (.int .i64 t.l.n),.lit (.string t.l.s.data.toList)],.agg [.lit (.int .i64 t.r.kind),.lit (.int .i64 t.r.n),.lit (.string t.r.s.data.toList)]]:=by
 obtain ⟨xs,n,rfl,rfl,hl,hxs,hf⟩:=DataW.trod_struct T.u85 h;have hl7:cs.length=7:=by rw [hl];kernel_rfl
 have cT:Program.cellsOf Tryz.prog 23=3:=by kernel_rfl
 have cI:Program.cellsOf Tryz.prog 3=1:=by kernel_rfl
 match cs,hl7 with
 | [v0,v1,v2,v3,v4,v5,v6],_=>
  match xs,hxs with
  | [x0,x1,x2],_=>
   have k0:DataW.trod enc Tryz.prog w base spare held n 3 [v0]=some x0:=by
    have k:DataW.trod enc Tryz.prog w base spare held n 3 (List.take (Program.cellsOf Tryz.prog 3) (List.drop 0 [v0,v1,v2,v3,v4,v5,v6]))=some x0:=hf 0 _ rfl;rw [cI] at k;exact k
   have k1:DataW.trod enc Tryz.prog w base spare held n 23 [v1,v2,v3]=some x1:=by
    have k:DataW.trod enc Tryz.prog w base spare held n 23 (List.take (Program.cellsOf Tryz.prog 23) (List.drop 1 [v0,v1,v2,v3,v4,v5,v6]))=some x1:=hf 1 _ rfl;rw [cT] at k;exact k
   have k2:DataW.trod enc Tryz.prog w base spare held n 23 [v4,v5,v6]=some x2:=by
    have k:DataW.trod enc Tryz.prog w base spare held n 23 (List.take (Program.cellsOf Tryz.prog 23) (List.drop 4 [v0,v1,v2,v3,v4,v5,v6]))=some x2:=hf 2 _ rfl;rw [cT] at k;exact k
   obtain ⟨op,e0,rfl,w0⟩:=DataW.trod_int T.u3 k0;obtain ⟨l,e1,_,_,d1⟩:=Jd0 k1;obtain ⟨r,e2,_,_,d2⟩:=Jd0 k2;simp only [tmC,List.cons.injEq,and_true] at e0 e1 e2;obtain ⟨rfl,rfl,rfl⟩:=e1;obtain ⟨rfl,rfl,rfl⟩:=e2;subst e0;refine ⟨⟨op,l,r⟩,rfl,?_⟩;simp only [yA,yB,d1,d2]
theorem behind_laid {fuel:Nat}{cs:Array Value}{q:List MemPlace}(hg:Program.globalNamed Tryz.prog "hearsay/hearsayref03.behindTerm"=some 2)(hv:w.var? Tryz.prog "hearsay/hearsayref03.behindTerm"=some cs)(hd:DataW.trod enc Tryz.prog w base spare held fuel 23 cs.toList=some (Rows.laid_hearsay_hearsayref03_behindTerm,q)):Jdj w:=by
 obtain ⟨t,e,_,_,ht⟩:=Jd0 hd
 have ht0:t=TB:=by
  simp only [Rows.laid_hearsay_hearsayref03_behindTerm,DataW.agg.injEq,List.cons.injEq,DataW.lit.injEq,Lit.int.injEq,true_and,Lit.string.injEq,and_true] at ht;obtain ⟨h1,h2,h3⟩:=ht;obtain ⟨k,n,s⟩:=t;simp only at h1 h2 h3;subst h1;subst h2
  have:s=⟨#[98,101,104,105,110,100]⟩:=by
   obtain ⟨⟨l⟩⟩:=s;have h4:([98,101,104,105,110,100]:List UInt8)=l:=h3;subst h4;rfl
  rw [this];rfl
 intro j v hj;rw [World.var?_cell hg hv j,← Array.getElem?_toList,e,ht0];exact hj
theorem test_laid {fuel:Nat}{cs:Array Value}{q:List MemPlace}(hg:Program.globalNamed Tryz.prog "hearsay/hearsayref03.behindTest"=some 0)(hv:w.var? Tryz.prog "hearsay/hearsayref03.behindTest"=some cs)(hd:DataW.trod enc Tryz.prog w base spare held fuel 85 cs.toList=some (Rows.laid_hearsay_hearsayref03_behindTest,q)):Jfu w:=by
 obtain ⟨t,e,ht⟩:=trod_testD hd
 have ht0:t=TSB:=by
  simp only [Rows.laid_hearsay_hearsayref03_behindTest,DataW.agg.injEq,List.cons.injEq,DataW.lit.injEq,Lit.int.injEq,true_and,Lit.string.injEq,and_true] at ht;obtain ⟨op,⟨k,n,⟨⟨s⟩⟩⟩,⟨k2,n2,⟨⟨s2⟩⟩⟩⟩:=t;simp only at ht;obtain ⟨rfl,⟨rfl,rfl,h1⟩,rfl,rfl,h2⟩:=ht;have h3:([]:List UInt8)=s:=h1;have h4:([]:List UInt8)=s2:=h2;subst h3;subst h4;rfl
 intro j v hj;rw [World.var?_cell hg hv j,← Array.getElem?_toList,e,ht0];exact hj
end
end Go.Proofs.YtdgigbopibdflaaGreatDoor
set_option maxRecDepth 10000
namespace Go.Proofs.YtdgigbopibdflaaGreatDoor
open Go Go.Hw
set_option linter.unusedSimpArgs false
set_option linter.unusedVariables false
end Go.Proofs.YtdgigbopibdflaaGreatDoor
set_option maxRecDepth 10000
namespace Go.Proofs.YtdgigbopibdflaaGreatDoor
open Go Go.Hw
set_option linter.unusedSimpArgs false
set_option linter.unusedVariables false
def varsD (ts:List Tm):List Int:=ts.foldl (fun acc t=>if varB t=true∧t.n∉acc then acc++[t.n] else acc) []
theorem Jf3 (ts:List Tm)(t:Tm):varsD (ts++[t])=if varB t=true∧t.n∉varsD ts then varsD ts++[t.n] else varsD ts:=by
 unfold varsD;rw [List.foldl_append];rfl
theorem Jf2 {ts:List Tm}{i:Nat}{t:Tm}(h:ts[i]?=some t):varsD (ts.take (i+1))=if varB t=true∧t.n∉varsD (ts.take i) then varsD (ts.take i)++[t.n] else varsD (ts.take i):=by
 rw [List.take_add_one,h];exact Jf3 _ _
theorem varsD_mem (ts:List Tm)(v:Int):v∈varsD ts↔∃ t∈ts,varB t=true∧t.n=v:=by
 induction ts using Jds with
 | h0=>simp [varsD]
 | h1 ts t ih=>
  rw [Jf3]
  by_cases hv:varB t=true
  ·by_cases hm:t.n∈varsD ts
   ·rw [if_neg (fun h=>h.2 hm),ih];constructor
    ·rintro ⟨u,hu,h⟩;exact ⟨u,by simp [hu],h⟩
    ·rintro ⟨u,hu,h1,h2⟩;rcases List.mem_append.1 hu with hu | hu
     ·exact ⟨u,hu,h1,h2⟩
     ·simp only [xI] at hu;subst hu;exact ih.1 (h2 ▸ hm)
   ·rw [if_pos ⟨hv,hm⟩,xS,ih];constructor
    ·rintro (⟨u,hu,h⟩ | h)
     ·exact ⟨u,by simp [hu],h⟩
     ·simp only [xI] at h;exact ⟨t,by simp,hv,h.symm⟩
    ·rintro ⟨u,hu,h1,h2⟩;rcases List.mem_append.1 hu with hu | hu
     ·exact .inl ⟨u,hu,h1,h2⟩
     ·simp only [xI] at hu;subst hu;exact .inr (by simp [h2])
  ·rw [if_neg (fun h=>hv h.1),ih];constructor
   ·rintro ⟨u,hu,h⟩;exact ⟨u,by simp [hu],h⟩
   ·rintro ⟨u,hu,h1,h2⟩;rcases List.mem_append.1 hu with hu | hu
    ·exact ⟨u,hu,h1,h2⟩
    ·simp only [xI] at hu;subst hu;exact absurd h1 hv
theorem varsD_len (ts:List Tm):(varsD ts).length≤ts.length:=by
 induction ts using Jds with
 | h0=>simp [varsD]
 | h1 ts t ih=>
  rw [Jf3]
  split <;> simp <;> omega
theorem among_calls (l:List Int)(v:Int)(a:Option Addr)(m c:Nat)(hm:m≤1099511627776)(w:World)(hr:RI w a m l):Calls Tryz.prog 99 #[.slice a m c,.int .i64 v] w fun e w'=>e=.returned (.bool (decide (v∈l)))∧Fr0 w w':=by
 refine Jbi (args:=[.slice a m c,.int .i64 v]) (fun _=>False) Tryz.func99 rfl Tryz.ntmps99 rfl rfl ?_;refine Csr (Za rfl (Nn (Cs (Csr (Za rfl (Nn (Cb ?_)))))));have e1:=hr.1
 refine WC.bz (fun (i:Nat)=>[(0,.slice a m c),(1,.int .i64 v),(5,.int .i64 (i:Int))])
   (fun i w'=>(i≤m∧v∉l.take i)∧Sat0 w ([]) w')
   (fun i=>m - i) 0 Y3 (fun w' hw=>⟨⟨by omega,by simp⟩,hw⟩) ?_
 intro i;refine WC.pure (fun hi=>?_);obtain ⟨hi,hz⟩:=hi;refine Cs (Csr (Zm rfl (Zm rfl (Zv (OV.ad rfl T.u32) (Zv (OV.cu rfl rfl) (Nn ?_))))));refine Cc rfl (fun c9=>?_) (fun c9=>?_)
 ·refine Ck (Xn (Cs (Cb (Csr (Zm rfl (Zm rfl ?_))))));have hil:i<l.length:=by omega
  obtain ⟨q1,rfl⟩:=hr.some (by omega);refine Zv (OV.indexSliceA (i:=i) rfl rfl T.u32 T.z3 (by omega)) (Zv (OV.ap (v:=.int .i64 (l.getD i 0)) rfl T.u3 rfl (fun _ hw=>(hr.sat hw).cell hil)) (Zm rfl (Zv (OV.dq rfl rfl) (Nn ?_))));refine Cc rfl (fun c17=>?_) (fun c17=>?_)
  ·refine Csr (Za rfl (Nn (WC.ay ?_)));refine Xq (Xr (Xr (Xq (Xr ?_))));exact WX.ret1 rfl rfl rfl (fun w' hw=>⟨by rw [xO (by rw [← c17,show l.getD i 0=l[i] by simp [hil]];exact List.getElem_mem hil)],hw.fr⟩)
  refine Ck (Xb (Xn (Cr (Zm rfl (Zv (OV.bh (j:=1) rfl rfl (by omega)) (Za rfl (Nl ?_)))))))
  exact WX.au (i+1) Y3 (fun w' hw=>⟨⟨by omega,by
   rw [List.take_add_one,(show l[i]?=some (l.getD i 0) by simp [hil])];intro hh;rcases List.mem_append.1 hh with h | h
   ·exact hz h
   ·simp at h;exact c17 (by simp [hil,h])⟩,hw⟩) (by show m - (i+1)<m - i;omega)
 refine Ce (Xe (Xe (Xh (Xn (Csr (Za rfl (Nn (WC.ay ?_))))))));exact WX.ret1 rfl rfl rfl (fun w' hw=>⟨by rw [xK (by omega)] at hz;rw [xP hz],hw.fr⟩)
theorem refPlaces_calls (x:At)(a:Option Addr)(c:Nat)(hl:x.args.length≤1048576)(w:World)(hr:RT w a x.args):Calls Tryz.prog 97 #[atV x a c] w fun e w'=>∃ b lc,e=.returned (.slice (some ⟨b,0,none⟩) (plc x).length lc)∧Turns [] [rowT (some ⟨b,0,none⟩) lc (plc x)] w w':=by
 refine Jbi (args:=[atV x a c]) (fun _=>False) Tryz.func97 rfl Tryz.ntmps97 rfl rfl ?_;refine Csr (WL.box rfl rfl rfl ?_);intro b1;refine Za rfl (Nn (Csr (Zv (OV.f0 0 rfl T.u26 rfl) (Zv (OV.am (cs:=tmC x.b) rfl T.u23 rfl T.z23 (fun _ hw j v hj=>by rw [Jav];exact Jbk hw yF (o:=0) (cs':=tmC x.b) rfl j v hj)) (WL.bo (cs:=tmC x.b) T.u24 T.z23 T.zr23 rfl rfl (by omega) (by omega) rfl ?_)))));intro b6;refine WL.weak (S':=Sat0 w (row 23 3 (some ⟨b6,0,none⟩) 1 1 (tmC x.b)::oQ b1 (atC x a c) 26::[])) (fun w' hw=>hw.asRow (m:=1) rfl (by decide)) ?_;refine Za rfl (Nn (Csr (Zm rfl (Zv (OV.f0 4 rfl T.u26 rfl) (Zv (OV.l1 (v:=.slice a x.args.length c) rfl T.u24 rfl yG rfl) (WL.append (news:=x.args.flatMap tmC) rfl rfl T.apT (fun _ _=>Src.of_rt hr.nil (fun _ hw=>hr.keeps hw.keeps)) (Je9 _) ⟨by omega,by unfold maxLen;omega⟩ rfl ?_))))));intro a10 c10;refine Za rfl (Nn (WC.ay ?_));have el:1+x.args.length=(plc x).length:=by simp [plc];omega
 have ef:tmC x.b++x.args.flatMap tmC=(plc x).flatMap tmC:=rfl;rw [el,ef];refine WX.jk (fun w' hw=>(show ∃ b,a10=some ⟨b,0,none⟩ from Jfd (hw.it (rowT a10 c10 (plc x)) yF) (by simp [plc]))) (fun hq=>?_);obtain ⟨bq,rfl⟩:=hq;exact WX.ret1 rfl rfl rfl (fun w' hw=>⟨bq,c10,rfl,(hw.pik [[rowT (some ⟨bq,0,none⟩) c10 (plc x)],[oQ b1 (atC x a c) 26]] [0] 2).turned0⟩)
set_option maxHeartbeats 1000000 in
theorem refVars_calls (x:At)(a:Option Addr)(c:Nat)(hl:x.args.length≤1048575)(w:World)(hr:RT w a x.args):Calls Tryz.prog 40 #[atV x a c] w fun e w'=>∃ la lc l,e=.returned (.slice la l.length lc)∧l=varsD (plc x)∧Turns [] [row 3 1 la l.length lc (ints l)] w w':=by
 refine Jbi (args:=[atV x a c]) (fun _=>False) Tryz.func40 rfl Tryz.ntmps40 rfl rfl ?_;refine Csr (WL.box rfl rfl rfl ?_);intro b1;refine Za rfl (Nn (Csr (Zv (OV.lN (cs:=atC x a c) rfl T.u26 rfl T.z26 yF) (WL.cT (ι:=Nat × Nat) (vs:=[atV x a c]) (vv:=fun q=>.slice (some ⟨q.1,0,none⟩) (plc x).length q.2) (pp:=fun _=>True) [] (AA:=fun q=>[rowT (some ⟨q.1,0,none⟩) q.2 (plc x)]) rfl (fun w' hw' _=>(refPlaces_calls x a c (by omega) w' (hr.keeps hw'.keeps)).mono (fun en w'' ⟨b,lc,q1,q2⟩=>⟨(b,lc),q1,trivial,q2⟩)) ?_))));rintro ⟨qx,xc⟩ _;refine Za rfl (Nn (Csr (Za rfl (Nn (Cs (Csr (Za rfl (Nn (Cb ?_)))))))));have hpl:(plc x).length=x.args.length+1:=rfl;refine WC.weak (S':=Sat0 w (row 3 1 none 0 0 []::rowT (some ⟨qx,0,none⟩) xc (plc x)::oQ b1 (atC x a c) 26::[])) (fun w' hw=>hw.rowNil 3 1) ?_
 refine WC.d8 (fun (i:Nat) (la:Option Addr) (lc:Nat) (l:List Int)=>[(3,.slice (some ⟨qx,0,none⟩) (plc x).length xc),(4,.slice la l.length lc),(5,.int .i64 (i:Int))])
   (fun i la lc l w'=>(i≤(plc x).length∧l.length≤i∧l=varsD ((plc x).take i))∧Sat0 w (row 3 1 la l.length lc (ints l)::rowT (some ⟨qx,0,none⟩) xc (plc x)::oQ b1 (atC x a c) 26::[]) w')
   (fun i _ _ _=>(plc x).length - i) 0 none 0 [] Y3 (fun w' hw=>⟨⟨by omega,Nat.le_refl _,rfl⟩,hw⟩) ?_
 intro i la lc l;refine WC.pure (fun hi=>?_);obtain ⟨hi,hll,hlv⟩:=hi;refine Cs (Csr (Zm rfl (Zm rfl (Zv (OV.ad rfl T.u24) (Zv (OV.cu rfl rfl) (Nn ?_))))));refine Cc rfl (fun c11=>?_) (fun c11=>?_)
 ·refine Ck (Xn (Cs (Cb (Csr (Zm rfl (Zm rfl ?_))))));obtain ⟨t,ht⟩:∃ t,(plc x)[i]?=some t:=⟨_,xD (by omega)⟩
  refine Zv ((OV.ae rfl rfl T.u24 T.z23 (by omega)).cast (u:=.pointer (some ((⟨qx,0,none⟩:Addr).add (i*3)))) (by rw [xN])) ?_;refine WL.val (OV.am (cs:=tmC t) rfl T.u23 rfl T.z23 (fun _ hw j v hj=>by have hj3:j<3:=(List.getElem?_eq_some_iff.1 hj).1;have h:=Je1 rfl (hw.it (rowT (some ⟨qx,0,none⟩) xc (plc x)) (by simp)) (i*3+j) v (by rw [Jcq Jdk _ i j t ht (by omega)];exact hj);rwa [Jdz] at h)) rfl ?_;refine WL.aw (v:=.bool (varB t)) (by kernel_rfl) rfl rfl (fun w' hw'=>Jcv t w') ?_;refine Zm rfl ?_;refine Zp (t:=19) rfl (fun g19=>?_) (fun g19=>?_)
  ·refine yW (Zm rfl (yW (Zm rfl (yW (Zm rfl (yW (Zv ((OV.ae rfl rfl T.u24 T.z23 (by omega)).cast (u:=.pointer (some ((⟨qx,0,none⟩:Addr).add (i*3)))) (by rw [xN])) (yW (Zv ((OV.fieldAddrA (off:=1) rfl T.u23 rfl).cast (u:=.pointer (some (((⟨qx,0,none⟩:Addr).add (i*3)).add 1))) rfl) (yW (Zv (OV.ap (v:=.int .i64 t.n) rfl T.u3 rfl (fun _ hw=>by have h:=Je1 rfl (hw.it (rowT (some ⟨qx,0,none⟩) xc (plc x)) (by simp)) (i*3+1) (.int .i64 t.n) (by rw [Jcq Jdk _ i 1 t ht (by omega)];rfl);rwa [Jdz] at h)) (yW (WL.aw (v:=.bool (decide (t.n∈l))) (by kernel_rfl) rfl rfl (fun w' hw'=>among_calls l t.n la l.length lc (by omega) w' (RI.of_row (c:=lc) hw' yF)) ?_)))))))))))));refine yW (Zv (OV.not rfl) (Zv (OV.ak rfl rfl) (Nn ?_)));refine Cc rfl (fun c28=>?_) (fun c28=>?_)
   ·refine Cr (Zm rfl (Zm rfl (Zm rfl (Zv ((OV.ae rfl rfl T.u24 T.z23 (by omega)).cast (u:=.pointer (some ((⟨qx,0,none⟩:Addr).add (i*3)))) (by rw [xN])) (Zv ((OV.fieldAddrA (off:=1) rfl T.u23 rfl).cast (u:=.pointer (some (((⟨qx,0,none⟩:Addr).add (i*3)).add 1))) rfl) (Zv (OV.ap (v:=.int .i64 t.n) rfl T.u3 rfl (fun _ hw=>by have h:=Je1 rfl (hw.it (rowT (some ⟨qx,0,none⟩) xc (plc x)) (by simp)) (i*3+1) (.int .i64 t.n) (by rw [Jcq Jdk _ i 1 t ht (by omega)];rfl);rwa [Jdz] at h)) (WL.br (v:=.int .i64 t.n) T.u32 T.z3 T.zr3 rfl rfl rfl ?_)))))));intro b35;refine WL.focus perm1 (WL.append (news:=[.int .i64 t.n]) rfl rfl T.apI (fun _ _=>Jd5 yG rfl) (Jdf [t.n]) ⟨by omega,by unfold maxLen;omega⟩ rfl ?_);intro a36 c36;refine Za rfl (Nl (Xb (Xn (Cr (Zm rfl (Zv (OV.bh (j:=1) rfl rfl (by omega)) (Za rfl (Nl ?_))))))));have hv:varB t=true∧t.n∉l:=⟨by simpa using g19,by simpa using c28⟩
    have el:l.length+1=(l++[t.n]).length:=by simp
    have ef:ints l++[.int .i64 t.n]=ints (l++[t.n]):=by simp [ints]
    exact WX.cg (i+1) a36 c36 (l++[t.n]) ⟨rfl,by rw [← el];rfl,rfl,trivial⟩ (fun w' hw=>⟨⟨by omega,by simp;omega,by rw [Jf2 ht,← hlv,if_pos hv]⟩,by
     rw [el,ef] at hw;exact hw.pik [[row 3 1 a36 (l++[t.n]).length c36 (ints (l++[t.n]))],[oQ b35 [Value.int .i64 t.n] 3],[rowT (some ⟨qx,0,none⟩) xc (plc x)],[oQ b1 (atC x a c) 26]] [0,2,3] 4⟩) (by show (plc x).length - (i+1)<(plc x).length - i;omega)
   refine Ck (Xb (Xn (Cr (Zm rfl (Zv (OV.bh (j:=1) rfl rfl (by omega)) (Za rfl (Nl ?_)))))));exact WX.cg (i+1) la lc l Y3 (fun w' hw=>⟨⟨by omega,by omega,by rw [Jf2 ht,← hlv,if_neg (fun h=>h.2 (by simpa using c28))]⟩,hw⟩) (by show (plc x).length - (i+1)<(plc x).length - i;omega)
  refine yV (yV (yV (yV (yV (yV (yV (yV (Zv (OV.ai rfl rfl) (Nn (WC.ca rfl ?_))))))))));refine Ck (Xb (Xn (Cr (Zm rfl (Zv (OV.bh (j:=1) rfl rfl (by omega)) (Za rfl (Nl ?_)))))));exact WX.cg (i+1) la lc l Y3 (fun w' hw=>⟨⟨by omega,by omega,by rw [Jf2 ht,← hlv,if_neg (fun h=>by rw [h.1] at g19;cases g19)]⟩,hw⟩) (by show (plc x).length - (i+1)<(plc x).length - i;omega)
 refine Ce (Xe (Xe (Xh (Xn (Csr (Zm rfl (Za rfl (Nn (WC.ay ?_)))))))));rw [xK (by omega)] at hlv;exact WX.ret1 rfl rfl rfl (fun w' hw=>⟨la,lc,l,rfl,hlv,(hw.pik [[row 3 1 la l.length lc (ints l)],[rowT (some ⟨qx,0,none⟩) xc (plc x)],[oQ b1 (atC x a c) 26]] [0] 3).turned0⟩)
theorem aheadF_vars {c:Cl}{i:Nat}:Jcc c i=true↔(varsT (clT c i)).length=0:=by
 unfold Jcc varsT;cases h1:varB (clT c i).l <;> cases h2:varB (clT c i).r <;> simp [h1,h2]
abbrev NXI (c:Cl)(jo:List Nat)(V:List Int)(i:Nat):Option Nat:=(List.range i).foldl (nxF c jo V) none
theorem Jgl (c:Cl)(jo:List Nat)(V:List Int)(i:Nat):NXI c jo V (i+1)=nxF c jo V (NXI c jo V i) i:=by
 unfold NXI;rw [List.range_succ,List.foldl_append];rfl
theorem Jjn (c:Cl)(jo:List Nat)(V:List Int):∀ (i:Nat) (y:Nat),NXI c jo V i=some y→y<i
 | 0,y,h=>by cases h
 | i+1,y,h=>by
  rw [Jgl] at h;unfold nxF at h
  split at h
  ·have:=Jjn c jo V i y h;omega
  ·split at h
   ·simp only [Option.some.injEq] at h;omega
   ·rename_i z hz
    split at h
    ·simp only [Option.some.injEq] at h;omega
    ·simp only [Option.some.injEq] at h;have:=Jjn c jo V i z hz;omega
abbrev oI (b:Option Nat):Int:=b.elim (-1:Int) fun z:Nat=>(z:Int)
theorem oI_neg {b:Option Nat}:oI b<0↔b=none:=by
 cases b with
 | none=>exact ⟨fun _=>rfl,fun _=>by show (-1:Int)<0;decide⟩
 | some z=>exact ⟨fun h=>by have h1:((z:Nat):Int)<0:=h;omega,fun h=>by cases h⟩
structure MS where
 ja:Option Addr
 jc:Nat
 js:List JG
 jo:List Nat
 joa:Option Addr
 joc:Nat
 V:List Int
 L:List Int
 va:Option Addr
 vc:Nat
 A:List Nat
 Q:List Nat
 qa:Option Addr
 qc:Nat
structure MSok (g:CG) (lead:Option Nat) (s:MS):Prop where
 jo:s.js.map JG.a=s.jo
 lv:∀ v,v∈s.L↔v∈s.V
 ll:s.L.length≤9*s.jo.length
 dn:∃ dn,makeP g.cl lead=dn++mkR g.cl lead (g.bd.length - s.jo.length) s.jo s.V s.A∧jnEq s.js dn
 le:s.jo.length≤g.bd.length
 nd:s.jo.Nodup
 lt:∀ i∈s.jo,i<g.bd.length
 aq:∀ i,i∈s.A↔i∈Jbj g.cl∨i∈s.Q
 ql:s.Q.length≤8*s.jo.length
theorem nI_mem {l:List Nat}{i:Nat}:(i:Int)∈nI l↔i∈l:=by
 unfold nI;rw [xR];exact ⟨fun ⟨x,hx,he⟩=>by rw [show i=x by omega];exact hx,fun h=>⟨i,h,rfl⟩⟩
theorem ints_nI_snoc (l:List Nat)(i:Nat):ints (nI l)++ints [(i:Int)]=ints (nI (l++[i])):=by simp [ints,nI]
theorem varsD_vars (x:At)(v:Int):v∈varsD (plc x)↔v∈Jah x:=by
 rw [varsD_mem,show Jah x=vnums (plc x) from rfl,mem_vnums]
theorem varsD_le {x:At}(h:chkA x=0):(varsD (plc x)).length≤9:=by
 have h1:=varsD_len (plc x);have h2:(plc x).length=x.args.length+1:=by simp [plc]
 have h3:=(chkA_zero.1 h).2.1;omega
theorem rmake_bad (g:CG)(hs:CS g)(lead:Int)(hb:refC g.cl lead≠0)(w:World)(hr:RC w g):Calls Tryz.prog 8 #[cgV g,.int .i64 lead] w fun e w'=>e=.returned (.tuple #[pgV ⟨none,0,[],none,0,[]⟩,.int .i64 (refC g.cl lead)])∧Fr0 w w':=by
 refine Jbi (args:=[cgV g,.int .i64 lead]) (fun _=>False) Tryz.func8 rfl Tryz.ntmps8 rfl rfl ?_;refine Csr (WL.box rfl rfl rfl ?_);intro b2;refine WL.alloc T.zr35 rfl ?_;intro b4;refine Za rfl (Nn (Csr (Zv (OV.lN (cs:=cgC g) rfl T.u30 rfl T.z30 yG) (Zm rfl (WL.aw (v:=.int .i64 (refC g.cl lead)) (by kernel_rfl) rfl rfl (fun w' hw'=>Jc1 g hs lead w' (hr.keeps hw'.keeps)) ?_)))));refine Za rfl (Nn (Cs (Csr (Zm rfl (Zv ((OV.fb rfl rfl).cast (u:=.bool true) (by rw [xP hb];rfl)) (Nn (WC.cm (show _=some (Value.bool true) from by rfl) ?_)))))));refine Csr (Zv (OV.bf (xs:=[]) (pl:=[(0,1),(1,1)]) (cs:=pgC ⟨none,0,[],none,0,[]⟩) T.u35 T.zr35 (by kernel_rfl) rfl rfl) (Zm rfl (WL.aj (vs:=pgC ⟨none,0,[],none,0,[]⟩) rfl rfl rfl T.z35 rfl ?_)));refine Za rfl (Nn (WC.ay ?_));refine Xr ?_;exact WX.gn (cs:=pgC ⟨none,0,[],none,0,[]⟩) rfl rfl rfl rfl T.u35 rfl T.z35 (fun w' hw j v hj=>Jbt hw yF j v hj) (fun w' hw=>⟨rfl,hw.fr⟩)
set_option maxHeartbeats 4000000 in
theorem Jan (g:CG)(hs:CS g)(hv:VC g.cl)(lead:Option Nat)(hld:∀ l,lead=some l→l<g.cl.bd.length)(w:World)(hr:RC w g):Calls Tryz.prog 8 #[cgV g,.int .i64 (leadI lead)] w fun e w'=>∃ p:PG,e=.returned (.tuple #[pgV p,.int .i64 0])∧(p.al=nI (Jbj g.cl)∧jnEq p.js (makeP g.cl lead))∧Turns [] (pgA p) w w':=by
 refine Jbi (args:=[cgV g,.int .i64 (leadI lead)]) (fun _=>False) Tryz.func8 rfl Tryz.ntmps8 rfl rfl ?_;refine Csr (WL.box rfl rfl rfl ?_);intro b2;refine WL.alloc T.zr35 rfl ?_;intro b4;refine Za rfl (Nn (Csr (Zv (OV.lN (cs:=cgC g) rfl T.u30 rfl T.z30 yG) (Zm rfl ?_))));have hrf:=refC_ok hv hld;refine WL.c0 (v:=.int .i64 0) (vs:=[cgV g,.int .i64 (leadI lead)]) (fun w' hw'=>(Jc1 g hs (leadI lead) w' (hr.keeps hw'.keeps)).mono (fun en w'' ⟨h1,h2⟩=>⟨by rw [h1,hrf],h2⟩)) ?_;refine Za rfl (Nn (Cs (Csr (Zm rfl (Zv ((OV.fb rfl rfl).cast (u:=.bool false) rfl) (Nn (WC.ca (show _=some (Value.bool false) from by rfl) ?_)))))));refine Ck (Xn (Csr (WL.alloc T.zr35 rfl ?_)));intro b7;refine Nn (Cs (Csr (Za rfl (Nn (Cb ?_)))));have hnb:g.cl.bd.length=g.bd.length:=xE _;have hts8:g.ts.length≤8:=hv.tl;have hbd8:g.bd.length≤8:=by rw [← hnb];exact hv.bl
 refine WC.weak (S':=Sat0 w (oQ b7 (pgC ⟨none,0,[],none,0,[]⟩) 35::row 3 1 none 0 0 []::oQ b4 (pgC ⟨none,0,[],none,0,[]⟩) 35::oQ b2 (cgC g) 30::[])) (fun w' hw=>(hw.rowNil 3 1).perm (pmP [_,_] [1,0])) ?_
 refine WC.ip (fun (i:Nat) (aa:Option Addr) (ac:Nat)=>[(1,.int .i64 (leadI lead)),(2,yX b2),(4,yX b4),(7,yX b7),(8,.int .i64 (i:Int))])
   (fun i aa ac w'=>i≤g.ts.length∧Sat0 w (oQ b7 (pgC ⟨aa,ac,(nI ((List.range i).filter (Jcc g.cl))),none,0,[]⟩) 35::rowI aa ac (nI ((List.range i).filter (Jcc g.cl)))::oQ b4 (pgC ⟨none,0,[],none,0,[]⟩) 35::oQ b2 (cgC g) 30::[]) w')
   (fun i _ _=>g.ts.length - i) 0 none 0 Y5 (fun w' hw=>⟨by omega,hw⟩) ?_
 intro i aa ac;refine WC.pure (fun hi=>?_);have hfl:=Jco (Jcc g.cl) i;have hfn:(nI ((List.range i).filter (Jcc g.cl))).length=((List.range i).filter (Jcc g.cl)).length:=xE _;refine Cs (Csr (Zm rfl ?_))
 first
 | (refine WL.val (OV.f0 6 rfl T.u30 rfl) rfl ?_;trace "ALT Jan#0 13d2c21b 0")
 | (refine WL.val (OV.ag (off:=6) rfl T.u30 rfl) rfl ?_;trace "ALT Jan#0 13d2c21b 1")
 refine Zv (OV.ap (v:=.slice g.ta g.ts.length g.tc) rfl T.u28 rfl (fun _ hw=>(Jbn (hw.it (oQ b2 (cgC g) 30) (by simp)) (o:=6) rfl).1)) ?_
 first
 | (refine WL.val (OV.ad rfl T.u28) rfl ?_;trace "ALT Jan#1 c04edde8 0")
 | (refine WL.val (OV.bg rfl T.u28) rfl ?_;trace "ALT Jan#1 c04edde8 1")
 refine Zv (OV.cu rfl rfl) (Nn ?_);refine Cc rfl (fun c28=>?_) (fun c28=>?_)
 ·refine Ck (Xn (Cs (Cb (Csr ?_))))
  first
  | (refine WL.val (OV.f0 6 rfl T.u30 rfl) rfl ?_;trace "ALT Jan#2 13d2c21b 0")
  | (refine WL.val (OV.ag (off:=6) rfl T.u30 rfl) rfl ?_;trace "ALT Jan#2 13d2c21b 1")
  refine Zv (OV.ap (v:=.slice g.ta g.ts.length g.tc) rfl T.u28 rfl (fun _ hw=>(Jbn (hw.it (oQ b2 (cgC g) 30) (by simp)) (o:=6) rfl).1)) (Zm rfl ?_);obtain ⟨q1,t,hq,ht,htm,hc⟩:=hr.ts.get (i:=i) (by omega);refine Zv ((OV.ae (show _=some (Value.slice (some q1) g.ts.length g.tc) by rw [← hq];rfl) rfl T.u28 T.z85 (by omega)).cast (u:=.pointer (some (q1.add (i*7)))) (by rw [xN])) (Zv (OV.am (cs:=tsC t) rfl T.u85 rfl T.z85 (fun _ hw j v hj=>hw.keeps _ _ (hc j v hj))) (WL.dh (ι:=Option Addr × Nat) (vv:=fun z=>.slice z.1 (varsT t).length z.2) (pp:=fun _=>True) [] (AA:=fun z=>[rowI z.1 z.2 (varsT t)]) rfl (by kernel_rfl) rfl rfl (fun w' hw' _=>(Jaz t (Jja (hv.ts t htm)).1 (Jja (hv.ts t htm)).2 w').mono (fun en w'' ⟨z,h1,h2⟩=>⟨z,h1,trivial,h2⟩)) ?_));rintro ⟨ua,uc⟩ _
  first
  | (refine WL.val (OV.ad rfl T.u32) rfl ?_;trace "ALT Jan#3 c04edde8 0")
  | (refine WL.val (OV.bg rfl T.u32) rfl ?_;trace "ALT Jan#3 c04edde8 1")
  refine Zv (OV.dq rfl rfl) (Nn ?_);refine Cc rfl (fun c38=>?_) (fun c38=>?_)
  ·refine Cr ?_
   first
   | (refine WL.val (OV.f0 0 rfl T.u35 rfl) rfl ?_;trace "ALT Jan#4 182ae830 0")
   | (refine WL.val (OV.ag (off:=0) rfl T.u35 rfl) rfl ?_;trace "ALT Jan#4 182ae830 1")
   refine Zv (OV.ap (v:=.slice aa (nI ((List.range i).filter (Jcc g.cl))).length ac) rfl T.u32 rfl (fun _ hw=>(Jbn (hw.it (oQ b7 (pgC ⟨aa,ac,(nI ((List.range i).filter (Jcc g.cl))),none,0,[]⟩) 35) (by simp)) (o:=0) rfl).1)) (Zm rfl (WL.br T.u32 T.z3 T.zr3 rfl rfl rfl ?_));intro b42;refine WL.focus (ow':=rowI aa ac (nI ((List.range i).filter (Jcc g.cl)))::oQ b42 [Value.int .i64 (i:Int)] 3::rowI ua uc (varsT t)::oQ b7 (pgC ⟨aa,ac,(nI ((List.range i).filter (Jcc g.cl))),none,0,[]⟩) 35::oQ b4 (pgC ⟨none,0,[],none,0,[]⟩) 35::oQ b2 (cgC g) 30::[]) (pmP [_,_,_,_] [3,0,1,2]) ?_;refine WL.append (news:=ints [(i:Int)]) rfl rfl T.apI (fun _ _=>Jd5 yG rfl) (Jdf [(i:Int)]) ⟨by omega,by unfold maxLen;omega⟩ rfl ?_;intro a43 c43
   first
   | (refine WL.val (OV.f0 0 rfl T.u35 rfl) rfl ?_;trace "ALT Jan#5 182ae830 0")
   | (refine WL.val (OV.ag (off:=0) rfl T.u35 rfl) rfl ?_;trace "ALT Jan#5 182ae830 1")
   refine WL.focus perm3 (WL.cd (o:=0) rfl rfl rfl T.z32 (by show 0<2;omega) ?_);refine Nl (Xb (Xn (Cr (Zm rfl (Zv (OV.bh (j:=1) rfl rfl (by omega)) (Za rfl (Nl ?_)))))));have hF:Jcc g.cl i=true:=aheadF_vars.2 (by rw [Jfv ht];omega);have hal:(nI ((List.range (i+1)).filter (Jcc g.cl)))=(nI ((List.range i).filter (Jcc g.cl)))++[(i:Int)]:=by rw [Jck,if_pos hF];simp
   have el:(nI ((List.range i).filter (Jcc g.cl))).length+1=((nI ((List.range i).filter (Jcc g.cl)))++[(i:Int)]).length:=by simp
   have ef:ints (nI ((List.range i).filter (Jcc g.cl)))++ints [(i:Int)]=ints ((nI ((List.range i).filter (Jcc g.cl)))++[(i:Int)]):=by simp [ints]
   exact WX.et (i+1) a43 c43 Y5 (fun w' hw=>⟨by omega,by
    rw [el,ef,← hal] at hw;exact hw.pik [[oQ b7 (pgC ⟨a43,c43,(nI ((List.range (i+1)).filter (Jcc g.cl))),none,0,[]⟩) 35],[rowI a43 c43 (nI ((List.range (i+1)).filter (Jcc g.cl)))],[oQ b42 [Value.int .i64 (i:Int)] 3],[rowI ua uc (varsT t)],[oQ b4 (pgC ⟨none,0,[],none,0,[]⟩) 35],[oQ b2 (cgC g) 30]] [0,1,4,5] 6⟩) (by show g.ts.length - (i+1)<g.ts.length - i;omega)
  refine Ck (Xb (Xn (Cr (Zm rfl (Zv (OV.bh (j:=1) rfl rfl (by omega)) (Za rfl (Nl ?_)))))));have hF:¬ Jcc g.cl i=true:=fun h=>by have h9:=aheadF_vars.1 h;rw [Jfv ht] at h9;omega
  have hal:(nI ((List.range (i+1)).filter (Jcc g.cl)))=(nI ((List.range i).filter (Jcc g.cl))):=by rw [Jck,if_neg hF,xX]
  exact WX.et (i+1) aa ac Y5 (fun w' hw=>⟨by omega,by rw [hal];exact hw.drop⟩) (by show g.ts.length - (i+1)<g.ts.length - i;omega)
 refine Ce (Xe (Xe (Xh (Xn (Csr (Za rfl (Nn (Csr (Za rfl (Nn (Csr (Za rfl (Nn (Cs (Cb ?_)))))))))))))));obtain rfl:i=g.ts.length:=by omega
 refine WC.weak (S':=Sat0 w (oQ b7 (pgC ⟨aa,ac,(nI (Jbj g.cl)),none,0,[]⟩) 35::row 3 1 none 0 0 []::row 3 1 none 0 0 []::row 3 1 none 0 0 []::rowI aa ac (nI (Jbj g.cl))::row 93 3 none 0 0 []::oQ b4 (pgC ⟨none,0,[],none,0,[]⟩) 35::oQ b2 (cgC g) 30::[])) (fun w' hw=>((((hw.rowNil 3 1).rowNil 3 1).rowNil 3 1).rowNil 93 3).perm (pmP [_,_,_,_,_,_,_,_] [4,1,2,3,5,0,6,7])) ?_;clear hi hfl hfn
 refine WC.bz (fun (s:MS)=>[(1,.int .i64 (leadI lead)),(2,yX b2),(4,yX b4),(7,yX b7),(9,.slice s.joa (nI s.jo).length s.joc),(10,.slice s.va s.L.length s.vc),(11,.slice s.qa (nI s.Q).length s.qc)])
   (fun s w'=>MSok g lead s∧Sat0 w (oQ b7 (pgC ⟨aa,ac,(nI (Jbj g.cl)),s.ja,s.jc,s.js⟩) 35::rowI s.joa s.joc (nI s.jo)::rowI s.va s.vc s.L::rowI s.qa s.qc (nI s.Q)::rowI aa ac (nI (Jbj g.cl))::rowJ s.ja s.jc s.js::oQ b4 (pgC ⟨none,0,[],none,0,[]⟩) 35::oQ b2 (cgC g) 30::jnA s.js) w')
   (fun s=>g.bd.length - s.jo.length) ⟨none,0,[],[],none,0,[],[],none,0,Jbj g.cl,[],none,0⟩ Y7 (fun w' hw=>⟨⟨rfl,fun v=>Iff.rfl,Nat.le_refl _,⟨[],by rw [← hnb];rfl,rfl⟩,Nat.zero_le _,List.nodup_nil,fun i hi=>(by cases hi),fun i=>(by simp),Nat.zero_le _⟩,hw⟩) ?_
 intro s;refine WC.pure (fun ok=>?_);obtain ⟨ja,jc,js,jo,joa,joc,V,L,va,vc,A,Q,qa,qc⟩:=s;obtain ⟨hjo,hLV,hLl,⟨dn,hdn,hjd⟩,hjn,hnd,hjb,hAQ,hQl⟩:=ok;dsimp only at hjo hLV hLl hdn hjd hjn hnd hjb hAQ hQl ⊢;refine Cs (Csr (Zm rfl ?_))
 first
 | (refine WL.val (OV.ad rfl T.u32) rfl ?_;trace "ALT Jan#6 c04edde8 0")
 | (refine WL.val (OV.bg rfl T.u32) rfl ?_;trace "ALT Jan#6 c04edde8 1")
 first
 | (refine WL.val (OV.f0 5 rfl T.u30 rfl) rfl ?_;trace "ALT Jan#7 75ec517c 0")
 | (refine WL.val (OV.ag (off:=5) rfl T.u30 rfl) rfl ?_;trace "ALT Jan#7 75ec517c 1")
 refine Zv (OV.ap (v:=.slice g.ba g.bd.length g.bc) rfl T.u27 rfl (fun _ hw=>(Jbn (hw.it (oQ b2 (cgC g) 30) (by simp)) (o:=5) rfl).1)) ?_
 first
 | (refine WL.val (OV.ad rfl T.u27) rfl ?_;trace "ALT Jan#8 c04edde8 0")
 | (refine WL.val (OV.bg rfl T.u27) rfl ?_;trace "ALT Jan#8 c04edde8 1")
 refine Zv (OV.cu rfl rfl) (Nn ?_);refine Cc rfl (fun c50=>?_) (fun c50=>?_)
 ·refine Ck (Xn (Cb (Cs ?_)));have hjl:js.length=jo.length:=by rw [← hjo,xE]
  have hnl:(nI jo).length=jo.length:=xE _;have hql2:(nI Q).length=Q.length:=xE _;have hjlt:jo.length<g.bd.length:=by omega
  obtain ⟨yn,hnx,hyj,hyb⟩:=next_ok (c:=g.cl) (V:=V) hnd (fun i hi=>by rw [hnb];exact hjb i hi) (by rw [hnb];omega);rw [hnb] at hyb
  have hab:(pick1 g.cl lead jo V)<g.bd.length:=by
   unfold pick1
   split
   ·rename_i h;obtain ⟨l,hl⟩:=Option.isSome_iff_exists.1 h.2;rw [hl];have:=hld l hl;rw [hnb] at this;exact this
   ·rw [hnx];exact hyb
  have hanj:(pick1 g.cl lead jo V)∉jo:=by
   unfold pick1
   split
   ·rename_i h;rw [h.1];simp
   ·rw [hnx];exact hyj
  refine Cr (Za rfl (Nn (Cs (Csr (Za rfl (Nn (Cb ?_)))))))
  refine WC.bz (fun (i:Nat)=>[(1,.int .i64 (leadI lead)),(2,yX b2),(4,yX b4),(7,yX b7),(9,.slice joa (nI jo).length joc),(10,.slice va L.length vc),(11,.slice qa (nI Q).length qc),(12,.int .i64 (oI (NXI g.cl jo V i))),(13,.int .i64 (i:Int))])
    (fun i w'=>i≤g.bd.length∧Sat0 w (oQ b7 (pgC ⟨aa,ac,(nI (Jbj g.cl)),ja,jc,js⟩) 35::rowI joa joc (nI jo)::rowI va vc L::rowI qa qc (nI Q)::rowI aa ac (nI (Jbj g.cl))::rowJ ja jc js::oQ b4 (pgC ⟨none,0,[],none,0,[]⟩) 35::oQ b2 (cgC g) 30::jnA js) w')
    (fun i=>g.bd.length - i) 0 Y9 (fun w' hw=>⟨by omega,hw⟩) ?_
  intro i;refine WC.pure (fun hi=>?_);refine Cs (Csr (Zm rfl ?_))
  first
  | (refine WL.val (OV.f0 5 rfl T.u30 rfl) rfl ?_;trace "ALT Jan#9 75ec517c 0")
  | (refine WL.val (OV.ag (off:=5) rfl T.u30 rfl) rfl ?_;trace "ALT Jan#9 75ec517c 1")
  refine Zv (OV.ap (v:=.slice g.ba g.bd.length g.bc) rfl T.u27 rfl (fun _ hw=>(Jbn (hw.it (oQ b2 (cgC g) 30) (by simp)) (o:=5) rfl).1)) ?_
  first
  | (refine WL.val (OV.ad rfl T.u27) rfl ?_;trace "ALT Jan#10 c04edde8 0")
  | (refine WL.val (OV.bg rfl T.u27) rfl ?_;trace "ALT Jan#10 c04edde8 1")
  refine Zv (OV.cu rfl rfl) (Nn ?_);refine Cc rfl (fun c55=>?_) (fun c55=>?_)
  ·refine Ck (Xn (Cs (Cb (Cs (Hd (fun w'=>w'.heap[b2]?=some (.cells (cgC g).toArray 30 (0,0))∧Keeps w w') [] (fun _ hw=>⟨hw.it (oQ b2 (cgC g) 30) (by simp),hw.keeps⟩) (m:=22) rfl ?_)))));refine Hf 0 rfl (OV.cj rfl) (Hf 1 rfl (OV.cj rfl) (Ho 2 rfl (fl':=false) rfl ?_));refine WL.c0 (v:=.bool (decide ((i:Int)∈nI jo))) (vs:=[.slice joa (nI jo).length joc,.int .i64 (i:Int)]) (fun w' hw'=>Jd4 (nI jo) joa joc (i:Int) (by omega) w' (RI.of_row (c:=joc) hw' yG)) ?_;refine Hc (fun _=>(fun _ hw=>⟨hw.it (oQ b2 (cgC g) 30) (by simp),hw.keeps⟩)) ?_;refine Hf 3 rfl (OV.not rfl) (Hf 4 rfl (OV.cj rfl) ?_);refine Hp (t:=62) rfl (fun g62=>?_) (fun g62=>?_)
   ·refine Hfg 5 rfl rfl rfl rfl (OV.cj rfl) (Hfg 6 rfl rfl rfl rfl (OV.cu rfl rfl) (Hfg 7 rfl rfl rfl rfl (OV.cj rfl) ?_));refine Hp (t:=65) rfl (fun g65=>?_) (fun g65=>?_)
    ·refine Hs 8 rfl rfl rfl rfl (Hs 9 rfl rfl rfl rfl (Hs 10 rfl rfl rfl rfl (Hs 11 rfl rfl rfl rfl (Hs 12 rfl rfl rfl rfl (Hs 13 rfl rfl rfl rfl (Hs 14 rfl rfl rfl rfl (Hs 15 rfl rfl rfl rfl (Hs 16 rfl rfl rfl rfl (Hs 17 rfl rfl rfl rfl (Hs 18 rfl rfl rfl rfl (Ho 19 rfl (fl':=false) rfl ?_)))))))))));refine yV (Hc (fun _=>(fun _ hw=>⟨hw.it (oQ b2 (cgC g) 30) (by simp),hw.keeps⟩)) ?_);refine Hfg 20 rfl rfl rfl rfl (OV.ak rfl rfl) (Hf 21 rfl (OV.ak rfl rfl) (He (Xn (WC.cm (show _=some (Value.bool true) from by rfl) ?_))));refine Cr (Zm rfl (Za rfl (Nl (Xb (Xn (Cr (Zm rfl (Zv (OV.bh (j:=1) rfl rfl (by omega)) (Za rfl (Nl ?_))))))))))
     have hnx1:NXI g.cl jo V (i+1)=some i:=by
      rw [Jgl];unfold nxF;rw [if_neg (show i∉jo from fun h=>by have h9:=nI_mem.2 h;simp [h9] at g62)];rw [oI_neg.1 g65]
     exact WX.au (i+1) ⟨rfl,rfl,rfl,rfl,rfl,rfl,rfl,by rw [hnx1];rfl,rfl,trivial⟩ (fun w' hw=>⟨by omega,hw⟩) (by show g.bd.length - (i+1)<g.bd.length - i;omega)
    first
    | (refine Hfg 8 rfl rfl rfl rfl (OV.f0 5 rfl T.u30 rfl) ?_;trace "ALT Jan#11 75ec517c 0")
    | (refine Hfg 8 rfl rfl rfl rfl (OV.ag (off:=5) rfl T.u30 rfl) ?_;trace "ALT Jan#11 75ec517c 1")
    refine Htg 9 rfl rfl rfl rfl (OV.ap (v:=.slice g.ba g.bd.length g.bc) rfl T.u27 rfl (fun _ hw=>(Jbn hw.1 (o:=5) rfl).1)) (Hfg 10 rfl rfl rfl rfl (OV.cj rfl) ?_);obtain ⟨qy,y,hq,hy,hym,hry,hc⟩:=hr.bd.get (i:=i) (by omega);refine Hfg 11 rfl rfl rfl rfl ((OV.ae (show _=some (Value.slice (some qy) g.bd.length g.bc) by rw [← hq];rfl) rfl T.u27 T.z26 (by omega)).cast (u:=.pointer (some (qy.add (i*5)))) (by rw [xN])) (Htg 12 rfl rfl rfl rfl (OV.am (cs:=agC y) rfl T.u26 rfl T.z26 (fun _ hw j v hj=>hw.2 _ _ (hc j v hj))) ?_)
    first
    | (refine Hfg 13 rfl rfl rfl rfl (OV.f0 5 rfl T.u30 rfl) ?_;trace "ALT Jan#12 75ec517c 0")
    | (refine Hfg 13 rfl rfl rfl rfl (OV.ag (off:=5) rfl T.u30 rfl) ?_;trace "ALT Jan#12 75ec517c 1")
    refine Htg 14 rfl rfl rfl rfl (OV.ap (v:=.slice g.ba g.bd.length g.bc) rfl T.u27 rfl (fun _ hw=>(Jbn hw.1 (o:=5) rfl).1)) (Hfg 15 rfl rfl rfl rfl (OV.cj rfl) ?_)
    obtain ⟨yn,hyn⟩:∃ yn,NXI g.cl jo V i=some yn:=by
     cases h:NXI g.cl jo V i with
     | none=>exact absurd (oI_neg.2 h) g65
     | some z=>exact ⟨z,rfl⟩
    have hynl:=Jjn _ _ _ _ _ hyn;obtain ⟨qz,z,hqz,hz,hzm,hrz,hcz⟩:=hr.bd.get (i:=yn) (by omega);refine Hfg 16 rfl rfl rfl rfl ((OV.ae (show _=some (Value.slice (some qz) g.bd.length g.bc) by rw [← hqz];rfl) (show _=some (Value.int .i64 ((yn:Nat):Int)) by rw [← show oI (NXI g.cl jo V i)=(yn:Int) by rw [hyn];rfl];rfl) T.u27 T.z26 (by omega)).cast (u:=.pointer (some (qz.add (yn*5)))) (by rw [xN])) (Htg 17 rfl rfl rfl rfl (OV.am (cs:=agC z) rfl T.u26 rfl T.z26 (fun _ hw j v hj=>hw.2 _ _ (hcz j v hj))) (Hfg 18 rfl rfl rfl rfl (OV.cj rfl) (Ho 19 rfl (fl':=false) rfl ?_)));refine yW (WL.c0 (v:=.bool (btr V y.x z.x)) (vs:=[atV y.x y.a y.c,atV z.x z.a z.c,.slice va L.length vc]) (fun w' hw'=>(Jbw y.x z.x (Jjj (hv.bd y.x (List.mem_map.2 ⟨y,hym,rfl⟩))) (Jjj (hv.bd z.x (List.mem_map.2 ⟨z,hzm,rfl⟩))) y.a z.a y.c z.c L va vc (hs.at_ y (Or.inr hym)).1 (hs.at_ z (Or.inr hzm)).1 (by omega) w' (hry.keeps hw'.keeps) (hrz.keeps hw'.keeps) (RI.of_row (c:=vc) hw' yH)).mono (fun en w'' ⟨h8,h9⟩=>⟨by rw [h8,btr_congr hLV],h9⟩)) ?_);refine Hc (fun _=>(fun _ hw=>⟨hw.it (oQ b2 (cgC g) 30) (by simp),hw.keeps⟩)) ?_;refine Hfg 20 rfl rfl rfl rfl (OV.ai rfl rfl) (Hf 21 rfl (OV.ak rfl rfl) (He (Xn ?_)));refine Cc rfl (fun c79=>?_) (fun c79=>?_)
    ·refine Cr (Zm rfl (Za rfl (Nl (Xb (Xn (Cr (Zm rfl (Zv (OV.bh (j:=1) rfl rfl (by omega)) (Za rfl (Nl ?_))))))))))
     have hnx1:NXI g.cl jo V (i+1)=some i:=by
      rw [Jgl];unfold nxF;rw [if_neg (show i∉jo from fun h=>by have h9:=nI_mem.2 h;simp [h9] at g62)];rw [hyn];simp only [Jgh hy,Jgh hz,c79,if_true]
     exact WX.au (i+1) ⟨rfl,rfl,rfl,rfl,rfl,rfl,rfl,by rw [hnx1];rfl,rfl,trivial⟩ (fun w' hw=>⟨by omega,hw⟩) (by show g.bd.length - (i+1)<g.bd.length - i;omega)
    refine Ck (Xb (Xn (Cr (Zm rfl (Zv (OV.bh (j:=1) rfl rfl (by omega)) (Za rfl (Nl ?_)))))))
    have hnx1:NXI g.cl jo V (i+1)=some yn:=by
     rw [Jgl];unfold nxF;rw [if_neg (show i∉jo from fun h=>by have h9:=nI_mem.2 h;simp [h9] at g62)];rw [hyn];simp only [Jgh hy,Jgh hz];rw [if_neg (by simpa using c79)]
    exact WX.au (i+1) ⟨rfl,rfl,rfl,rfl,rfl,rfl,rfl,by rw [hnx1,← hyn];rfl,rfl,trivial⟩ (fun w' hw=>⟨by omega,hw⟩) (by show g.bd.length - (i+1)<g.bd.length - i;omega)
   refine Hs 5 rfl rfl rfl rfl (Hs 6 rfl rfl rfl rfl (Hs 7 rfl rfl rfl rfl (Hu 8 rfl rfl rfl (Hu 9 rfl rfl rfl (Hu 10 rfl rfl rfl (Hu 11 rfl rfl rfl (Hu 12 rfl rfl rfl (Hu 13 rfl rfl rfl (Hu 14 rfl rfl rfl (Hu 15 rfl rfl rfl (Hu 16 rfl rfl rfl (Hu 17 rfl rfl rfl (Hu 18 rfl rfl rfl (Ho 19 rfl (fl':=false) rfl ?_))))))))))))));refine Zu rfl rfl (Hc (fun _=>(fun _ hw=>⟨hw.it (oQ b2 (cgC g) 30) (by simp),hw.keeps⟩)) ?_);refine Hs 20 rfl rfl rfl rfl (Hf 21 rfl (OV.ai rfl rfl) (He (Xn (WC.ca (show _=some (Value.bool false) from by rfl) ?_))));refine Ck (Xb (Xn (Cr (Zm rfl (Zv (OV.bh (j:=1) rfl rfl (by omega)) (Za rfl (Nl ?_)))))))
   have hnx1:NXI g.cl jo V (i+1)=NXI g.cl jo V i:=by
    rw [Jgl];unfold nxF;rw [if_pos (show i∈jo from nI_mem.1 (by simpa using g62))]
   exact WX.au (i+1) ⟨rfl,rfl,rfl,rfl,rfl,rfl,rfl,by rw [hnx1];rfl,rfl,trivial⟩ (fun w' hw=>⟨by omega,hw⟩) (by show g.bd.length - (i+1)<g.bd.length - i;omega)
  refine Ce (Xe (Xe (Xh (Xn (Cs (Cs ?_))))));refine WC.fw [(1,.int .i64 (leadI lead)),(2,yX b2),(4,yX b4),(7,yX b7),(9,.slice joa (nI jo).length joc),(10,.slice va L.length vc),(11,.slice qa (nI Q).length qc),(12,.int .i64 ((yn:Nat):Int)),(87,.bool (decide (jo=[]∧lead.isSome=true)))] (Sat0 w (oQ b7 (pgC ⟨aa,ac,(nI (Jbj g.cl)),ja,jc,js⟩) 35::rowI joa joc (nI jo)::rowI va vc L::rowI qa qc (nI Q)::rowI aa ac (nI (Jbj g.cl))::rowJ ja jc js::oQ b4 (pgC ⟨none,0,[],none,0,[]⟩) 35::oQ b2 (cgC g) 30::jnA js)) ?_ ?_
  ·obtain rfl:i=g.bd.length:=by omega
   have hnx2:NXI g.cl jo V g.bd.length=some yn:=by rw [← hnx,← hnb];rfl
   rw [hnx2];refine Cr (Zm rfl ?_)
   first
   | (refine WL.val (OV.ad rfl T.u32) rfl ?_;trace "ALT Jan#13 c04edde8 0")
   | (refine WL.val (OV.bg rfl T.u32) rfl ?_;trace "ALT Jan#13 c04edde8 1")
   refine Zv (OV.dq rfl rfl) (Zm rfl ?_);refine Zp (t:=84) rfl (fun g84=>?_) (fun g84=>?_)
   ·refine yW (Zm rfl (yW (Zv (OV.fx rfl rfl) (Zv (OV.ak rfl rfl) (Nl ?_)))));have ej:jo=[]:=List.length_eq_zero_iff.1 (by omega)
    have el:decide (leadI lead≥0)=decide (jo=[]∧lead.isSome=true):=by
     unfold leadI;cases lead with
     | none=>simp
     | some l=>rw [show (Option.elim (some l) (-1:Int) fun l:Nat=>(l:Int))=(l:Int) from rfl,xO (by omega),xO ⟨ej,rfl⟩]
    exact WX.dt ⟨rfl,rfl,rfl,rfl,rfl,rfl,rfl,rfl,by rw [← el];rfl,trivial⟩ (fun w' hw=>hw)
   refine yV (yV (Zv (OV.ai rfl rfl) (Nl ?_)));have ej:jo≠[]:=fun h=>by rw [h] at g84;exact g84 rfl
   exact WX.dt ⟨rfl,rfl,rfl,rfl,rfl,rfl,rfl,rfl,by rw [show decide (jo=[]∧lead.isSome=true)=false from xP (fun h=>ej h.1)];rfl,trivial⟩ (fun w' hw=>hw)
  refine WC.fw [(1,.int .i64 (leadI lead)),(2,yX b2),(4,yX b4),(7,yX b7),(9,.slice joa (nI jo).length joc),(10,.slice va L.length vc),(11,.slice qa (nI Q).length qc),(12,.int .i64 (((pick1 g.cl lead jo V):Nat):Int))] (Sat0 w (oQ b7 (pgC ⟨aa,ac,(nI (Jbj g.cl)),ja,jc,js⟩) 35::rowI joa joc (nI jo)::rowI va vc L::rowI qa qc (nI Q)::rowI aa ac (nI (Jbj g.cl))::rowJ ja jc js::oQ b4 (pgC ⟨none,0,[],none,0,[]⟩) 35::oQ b2 (cgC g) 30::jnA js)) ?_ ?_
  ·refine Cc rfl (fun c87=>?_) (fun c87=>?_)
   ·refine Cr (Zm rfl (Za rfl (Nl ?_)))
    have ep:leadI lead=(((pick1 g.cl lead jo V):Nat):Int):=by
     unfold pick1 leadI;rw [if_pos c87];obtain ⟨l,hl⟩:=Option.isSome_iff_exists.1 c87.2;rw [hl];rfl
    exact WX.dt ⟨rfl,rfl,rfl,rfl,rfl,rfl,rfl,by rw [← ep];rfl,trivial⟩ (fun w' hw=>hw)
   refine Ck ?_
   have ep:(yn:Int)=(((pick1 g.cl lead jo V):Nat):Int):=by
    unfold pick1;rw [if_neg c87,hnx];rfl
   exact WX.dt ⟨rfl,rfl,rfl,rfl,rfl,rfl,rfl,by rw [← ep];rfl,trivial⟩ (fun w' hw=>hw)
  refine Csr (Zm rfl ?_)
  first
  | (refine WL.val (OV.f0 5 rfl T.u30 rfl) rfl ?_;trace "ALT Jan#14 75ec517c 0")
  | (refine WL.val (OV.ag (off:=5) rfl T.u30 rfl) rfl ?_;trace "ALT Jan#14 75ec517c 1")
  refine Zv (OV.ap (v:=.slice g.ba g.bd.length g.bc) rfl T.u27 rfl (fun _ hw=>(Jbn (hw.it (oQ b2 (cgC g) 30) (by simp)) (o:=5) rfl).1)) (Zm rfl ?_);obtain ⟨q1,y,hq,ht,htm,hra,hc⟩:=hr.bd.get (i:=(pick1 g.cl lead jo V)) hab;refine Zv ((OV.ae (show _=some (Value.slice (some q1) g.bd.length g.bc) by rw [← hq];rfl) rfl T.u27 T.z26 (by omega)).cast (u:=.pointer (some (q1.add ((pick1 g.cl lead jo V)*5)))) (by rw [xN])) (Zv (OV.am (cs:=agC y) rfl T.u26 rfl T.z26 (fun _ hw j v hj=>hw.keeps _ _ (hc j v hj))) (Zm rfl ?_));have hch:chkA y.x=0:=hv.bd y.x (List.mem_map.2 ⟨y,htm,rfl⟩);have hsy:=hs.at_ y (Or.inr htm);refine WL.cT (ι:=Option Addr × Nat) (vs:=[atV y.x y.a y.c,.slice va L.length vc]) (vv:=fun z=>.slice z.1 (nI (Jaq V y.x)).length z.2) (pp:=fun _=>True) [] (AA:=fun z=>[rowI z.1 z.2 (nI (Jaq V y.x))]) rfl (fun w' hw' _=>?_) ?_
  ·have h9:=Jdw y.x (Jjj hch) y.a y.c L va vc hsy.1 (by omega) w' (hra.keeps hw'.keeps) (RI.of_row (c:=vc) hw' yH);rw [Jee hLV] at h9;exact h9.mono (fun en w'' ⟨z,h1,h2⟩=>⟨z,h1,trivial,h2⟩)
  rintro ⟨ka,kc⟩ _;refine Zv (OV.bf (xs:=[(0,.tmp 89),(1,.tmp 96)]) (pl:=[(0,1),(1,1),(2,1)]) (cs:=jgC (⟨(pick1 g.cl lead jo V),ka,kc,nI (Jaq V y.x),none,0,[]⟩:JG)) T.u93 T.zr93 (by kernel_rfl) rfl (Jax (us:=[_]) rfl rfl yU (Jax (us:=[_]) rfl rfl yU rfl))) (WL.alloc T.zr93 rfl ?_);intro b14;refine WL.aj (vs:=jgC (⟨(pick1 g.cl lead jo V),ka,kc,nI (Jaq V y.x),none,0,[]⟩:JG)) rfl rfl rfl T.z93 rfl ?_;refine Nn (Csr (Zm rfl (Zm rfl (WL.br T.u32 T.z3 T.zr3 rfl rfl rfl ?_))));intro b100;refine WL.focus (ow':=rowI joa joc (nI jo)::oQ b100 [Value.int .i64 ((pick1 g.cl lead jo V):Nat)] 3::oQ b14 (jgC ⟨(pick1 g.cl lead jo V),ka,kc,nI (Jaq V y.x),none,0,[]⟩) 93::rowI ka kc (nI (Jaq V y.x))::oQ b7 (pgC ⟨aa,ac,(nI (Jbj g.cl)),ja,jc,js⟩) 35::rowI va vc L::rowI qa qc (nI Q)::rowI aa ac (nI (Jbj g.cl))::rowJ ja jc js::oQ b4 (pgC ⟨none,0,[],none,0,[]⟩) 35::oQ b2 (cgC g) 30::jnA js) (pmP [_,_,_,_,_] [4,0,1,2,3]) ?_;refine WL.append (news:=ints [(((pick1 g.cl lead jo V):Nat):Int)]) rfl rfl T.apI (fun _ _=>Jd5 yG rfl) (Jdf [(((pick1 g.cl lead jo V):Nat):Int)]) ⟨by omega,by unfold maxLen;omega⟩ rfl ?_;intro jpa jpc;rw [ints_nI_snoc,show (nI jo).length+1=(nI (jo++[(pick1 g.cl lead jo V)])).length by simp];refine Za rfl (Nn (Csr (Zm rfl ?_)))
  first
  | (refine WL.val (OV.f0 5 rfl T.u30 rfl) rfl ?_;trace "ALT Jan#15 75ec517c 0")
  | (refine WL.val (OV.ag (off:=5) rfl T.u30 rfl) rfl ?_;trace "ALT Jan#15 75ec517c 1")
  refine Zv (OV.ap (v:=.slice g.ba g.bd.length g.bc) rfl T.u27 rfl (fun _ hw=>(Jbn (hw.it (oQ b2 (cgC g) 30) (by simp)) (o:=5) rfl).1)) (Zm rfl (Zv ((OV.ae (show _=some (Value.slice (some q1) g.bd.length g.bc) by rw [← hq];rfl) rfl T.u27 T.z26 (by omega)).cast (u:=.pointer (some (q1.add ((pick1 g.cl lead jo V)*5)))) (by rw [xN])) (Zv (OV.am (cs:=agC y) rfl T.u26 rfl T.z26 (fun _ hw j v hj=>hw.keeps _ _ (hc j v hj))) (WL.cT (ι:=Option Addr × Nat) (vs:=[atV y.x y.a y.c]) (vv:=fun z=>.slice z.1 (varsD (plc y.x)).length z.2) (pp:=fun _=>True) [] (AA:=fun xx=>[row 3 1 xx.1 (varsD (plc y.x)).length xx.2 (ints (varsD (plc y.x)))]) rfl (fun w' hw' _=>(refVars_calls y.x y.a y.c hsy.1 w' (hra.keeps hw'.keeps)).mono (fun en w'' ⟨la,lc,l,h1,h2,h3⟩=>⟨(la,lc),by rw [h1,h2],trivial,by rw [← h2];exact h3⟩)) ?_))));rintro ⟨xa,xc⟩ _;have hxl:=varsD_le hch;refine WL.focus (ow':=rowI va vc L::row 3 1 xa (varsD (plc y.x)).length xc (ints (varsD (plc y.x)))::rowI jpa jpc (nI (jo++[(pick1 g.cl lead jo V)]))::oQ b100 [Value.int .i64 ((pick1 g.cl lead jo V):Nat)] 3::oQ b14 (jgC ⟨(pick1 g.cl lead jo V),ka,kc,nI (Jaq V y.x),none,0,[]⟩) 93::rowI ka kc (nI (Jaq V y.x))::oQ b7 (pgC ⟨aa,ac,(nI (Jbj g.cl)),ja,jc,js⟩) 35::rowI qa qc (nI Q)::rowI aa ac (nI (Jbj g.cl))::rowJ ja jc js::oQ b4 (pgC ⟨none,0,[],none,0,[]⟩) 35::oQ b2 (cgC g) 30::jnA js) (pmP [_,_,_,_,_,_,_] [6,0,1,2,3,4,5]) ?_;refine WL.append (news:=ints (varsD (plc y.x))) rfl rfl T.apI (fun _ hw=>Src.of_rowI hw yG) (Jdf _) ⟨by omega,by unfold maxLen;omega⟩ rfl ?_;intro wa wc;rw [show L.length+(varsD (plc y.x)).length=(L++varsD (plc y.x)).length from (xL ..).symm,show ints L++ints (varsD (plc y.x))=ints (L++varsD (plc y.x)) by simp [ints]];refine Za rfl (Nn (Cs (Csr (Za rfl (Nn (Cb ?_))))));have hLV1:∀ v,v∈(L++varsD (plc y.x))↔v∈(V++Jah y.x):=fun v=>by rw [xS,xS,varsD_vars,hLV]
  refine WC.weak (S':=Sat0 w (oQ b14 (jgC ⟨(pick1 g.cl lead jo V),ka,kc,nI (Jaq V y.x),none,0,(nI ((List.range 0).filter (testF g.cl (V++Jah y.x) A)))⟩) 93::row 3 1 none 0 0 []::rowI qa qc (nI (Q++(List.range 0).filter (testF g.cl (V++Jah y.x) A)))::oQ b7 (pgC ⟨aa,ac,(nI (Jbj g.cl)),ja,jc,js⟩) 35::rowI jpa jpc (nI (jo++[(pick1 g.cl lead jo V)]))::rowI wa wc (L++varsD (plc y.x))::rowI ka kc (nI (Jaq V y.x))::row 3 1 xa (varsD (plc y.x)).length xc (ints (varsD (plc y.x)))::rowI aa ac (nI (Jbj g.cl))::rowJ ja jc js::oQ b4 (pgC ⟨none,0,[],none,0,[]⟩) 35::oQ b2 (cgC g) 30::jnA js)) (fun w' hw=>by
   rw [show (nI (Q++(List.range 0).filter (testF g.cl (V++Jah y.x) A)))=nI Q by simp];exact (hw.rowNil 3 1).pick [[row 3 1 none 0 0 []],[rowI wa wc (L++varsD (plc y.x))],[row 3 1 xa (varsD (plc y.x)).length xc (ints (varsD (plc y.x)))],[rowI jpa jpc (nI (jo++[(pick1 g.cl lead jo V)]))],[oQ b100 [Value.int .i64 ((pick1 g.cl lead jo V):Nat)] 3],[oQ b14 (jgC ⟨(pick1 g.cl lead jo V),ka,kc,nI (Jaq V y.x),none,0,[]⟩) 93],[rowI ka kc (nI (Jaq V y.x))],[oQ b7 (pgC ⟨aa,ac,(nI (Jbj g.cl)),ja,jc,js⟩) 35],[rowI qa qc (nI Q)],[rowI aa ac (nI (Jbj g.cl))],[rowJ ja jc js],[oQ b4 (pgC ⟨none,0,[],none,0,[]⟩) 35],[oQ b2 (cgC g) 30],jnA js] [5,0,8,7,3,1,6,2,9,10,11,12,13] 14 rfl (by decide) (by decide)) ?_
  refine WC.loop5 (fun (i:Nat) (ta:Option Addr) (tc:Nat) (qa:Option Addr) (qc:Nat)=>[(1,.int .i64 (leadI lead)),(2,yX b2),(4,yX b4),(7,yX b7),(9,.slice jpa (nI (jo++[(pick1 g.cl lead jo V)])).length jpc),(10,.slice wa (L++varsD (plc y.x)).length wc),(14,yX b14),(11,.slice qa (nI (Q++(List.range i).filter (testF g.cl (V++Jah y.x) A))).length qc),(15,.int .i64 (i:Int))])
    (fun i ta tc qa qc w'=>i≤g.ts.length∧Sat0 w (oQ b14 (jgC ⟨(pick1 g.cl lead jo V),ka,kc,nI (Jaq V y.x),ta,tc,(nI ((List.range i).filter (testF g.cl (V++Jah y.x) A)))⟩) 93::rowI ta tc (nI ((List.range i).filter (testF g.cl (V++Jah y.x) A)))::rowI qa qc (nI (Q++(List.range i).filter (testF g.cl (V++Jah y.x) A)))::oQ b7 (pgC ⟨aa,ac,(nI (Jbj g.cl)),ja,jc,js⟩) 35::rowI jpa jpc (nI (jo++[(pick1 g.cl lead jo V)]))::rowI wa wc (L++varsD (plc y.x))::rowI ka kc (nI (Jaq V y.x))::row 3 1 xa (varsD (plc y.x)).length xc (ints (varsD (plc y.x)))::rowI aa ac (nI (Jbj g.cl))::rowJ ja jc js::oQ b4 (pgC ⟨none,0,[],none,0,[]⟩) 35::oQ b2 (cgC g) 30::jnA js) w')
    (fun i _ _ _ _=>g.ts.length - i) 0 none 0 qa qc ⟨rfl,rfl,rfl,rfl,rfl,rfl,rfl,by simp only [List.range_zero,List.filter_nil,xX];rfl,rfl,trivial⟩ (fun w' hw=>⟨by omega,hw⟩) ?_
  clear qa qc;intro i ta tc qa qc;refine WC.pure (fun hi=>?_);have hfl:=Jco (testF g.cl (V++Jah y.x) A) i;have hfn:(nI ((List.range i).filter (testF g.cl (V++Jah y.x) A))).length=((List.range i).filter (testF g.cl (V++Jah y.x) A)).length:=xE _;have hfq:(nI (Q++(List.range i).filter (testF g.cl (V++Jah y.x) A))).length=Q.length+((List.range i).filter (testF g.cl (V++Jah y.x) A)).length:=by rw [xE,xL]
  have hL1l:(L++varsD (plc y.x)).length=L.length+(varsD (plc y.x)).length:=xL;refine Cs (Csr (Zm rfl ?_))
  first
  | (refine WL.val (OV.f0 6 rfl T.u30 rfl) rfl ?_;trace "ALT Jan#16 13d2c21b 0")
  | (refine WL.val (OV.ag (off:=6) rfl T.u30 rfl) rfl ?_;trace "ALT Jan#16 13d2c21b 1")
  refine Zv (OV.ap (v:=.slice g.ta g.ts.length g.tc) rfl T.u28 rfl (fun _ hw=>(Jbn (hw.it (oQ b2 (cgC g) 30) (by simp)) (o:=6) rfl).1)) ?_
  first
  | (refine WL.val (OV.ad rfl T.u28) rfl ?_;trace "ALT Jan#17 c04edde8 0")
  | (refine WL.val (OV.bg rfl T.u28) rfl ?_;trace "ALT Jan#17 c04edde8 1")
  refine Zv (OV.cu rfl rfl) (Nn ?_);refine Cc rfl (fun c114=>?_) (fun c114=>?_)
  ·refine Ck (Xn (Cs (Cb (Csr ?_))))
   first
   | (refine WL.val (OV.f0 6 rfl T.u30 rfl) rfl ?_;trace "ALT Jan#18 13d2c21b 0")
   | (refine WL.val (OV.ag (off:=6) rfl T.u30 rfl) rfl ?_;trace "ALT Jan#18 13d2c21b 1")
   refine Zv (OV.ap (v:=.slice g.ta g.ts.length g.tc) rfl T.u28 rfl (fun _ hw=>(Jbn (hw.it (oQ b2 (cgC g) 30) (by simp)) (o:=6) rfl).1)) (Zm rfl ?_);obtain ⟨q3,t,hqt,htt,htm,hct⟩:=hr.ts.get (i:=i) (by omega);have hvtl:(varsT t).length≤2:=by unfold varsT;rw [xE];exact List.length_filter_le _ _
   have hiQ:i∈Q++(List.range i).filter (testF g.cl (V++Jah y.x) A)↔i∈Q:=by rw [xS,Jen];exact ⟨fun h=>h.elim id fun h=>by omega,Or.inl⟩
   refine Zv ((OV.ae (show _=some (Value.slice (some q3) g.ts.length g.tc) by rw [← hqt];rfl) rfl T.u28 T.z85 (by omega)).cast (u:=.pointer (some (q3.add (i*7)))) (by rw [xN])) (Zv (OV.am (cs:=tsC t) rfl T.u85 rfl T.z85 (fun _ hw j v hj=>hw.keeps _ _ (hct j v hj))) (WL.dh (ι:=Option Addr × Nat) (vv:=fun z=>.slice z.1 (varsT t).length z.2) (pp:=fun _=>True) [] (AA:=fun z=>[rowI z.1 z.2 (varsT t)]) rfl (by kernel_rfl) rfl rfl (fun w' hw' _=>(Jaz t (Jja (hv.ts t htm)).1 (Jja (hv.ts t htm)).2 w').mono (fun en w'' ⟨z,h1,h2⟩=>⟨z,h1,trivial,h2⟩)) ?_));rintro ⟨ua,uc⟩ _;refine Za rfl (Nn (Cs ?_));refine WC.fw [(1,.int .i64 (leadI lead)),(2,yX b2),(4,yX b4),(7,yX b7),(9,.slice jpa (nI (jo++[(pick1 g.cl lead jo V)])).length jpc),(10,.slice wa (L++varsD (plc y.x)).length wc),(14,yX b14),(11,.slice qa (nI (Q++(List.range i).filter (testF g.cl (V++Jah y.x) A))).length qc),(15,.int .i64 (i:Int)),(136,.bool (testF g.cl (V++Jah y.x) A i))] (Sat0 w (rowI ua uc (varsT t)::oQ b14 (jgC ⟨(pick1 g.cl lead jo V),ka,kc,nI (Jaq V y.x),ta,tc,(nI ((List.range i).filter (testF g.cl (V++Jah y.x) A)))⟩) 93::rowI ta tc (nI ((List.range i).filter (testF g.cl (V++Jah y.x) A)))::rowI qa qc (nI (Q++(List.range i).filter (testF g.cl (V++Jah y.x) A)))::oQ b7 (pgC ⟨aa,ac,(nI (Jbj g.cl)),ja,jc,js⟩) 35::rowI jpa jpc (nI (jo++[(pick1 g.cl lead jo V)]))::rowI wa wc (L++varsD (plc y.x))::rowI ka kc (nI (Jaq V y.x))::row 3 1 xa (varsD (plc y.x)).length xc (ints (varsD (plc y.x)))::rowI aa ac (nI (Jbj g.cl))::rowJ ja jc js::oQ b4 (pgC ⟨none,0,[],none,0,[]⟩) 35::oQ b2 (cgC g) 30::jnA js)) ?_ ?_
   ·refine Cr (Zm rfl ?_)
    first
    | (refine WL.val (OV.ad rfl T.u32) rfl ?_;trace "ALT Jan#19 c04edde8 0")
    | (refine WL.val (OV.bg rfl T.u32) rfl ?_;trace "ALT Jan#19 c04edde8 1")
    refine Zv (OV.ia rfl rfl) (Zm rfl ?_);refine Zp (t:=126) rfl (fun g126=>?_) (fun g126=>?_)
    ·refine yW (Zm rfl (yW (Zm rfl (yW (WL.c0 (v:=.bool (decide ((i:Int)∈(nI (Q++(List.range i).filter (testF g.cl (V++Jah y.x) A)))))) (vs:=[.slice qa (nI (Q++(List.range i).filter (testF g.cl (V++Jah y.x) A))).length qc,.int .i64 (i:Int)]) (fun w' hw'=>Jd4 (nI (Q++(List.range i).filter (testF g.cl (V++Jah y.x) A))) qa qc (i:Int) (by omega) w' (RI.of_row (c:=qc) hw' yI)) ?_)))));refine yW (Zv (OV.not rfl) (Zv (OV.ak rfl rfl) (Zm rfl ?_)));refine Zp (t:=132) rfl (fun g132=>?_) (fun g132=>?_)
     ·refine yW (Zm rfl (yW (Zm rfl (yW (WL.c0 (v:=.bool (decide (∀ x∈varsT t,x∈(L++varsD (plc y.x))))) (vs:=[.slice ua (varsT t).length uc,.slice wa (L++varsD (plc y.x)).length wc]) (fun w' hw'=>Jel (varsT t) (L++varsD (plc y.x)) ua wa uc wc (by omega) (by omega) w' (RI.of_row (c:=uc) hw' yF) (RI.of_row (c:=wc) hw' yL)) ?_)))));refine Zv (OV.ak rfl rfl) (Nl ?_)
      have ek:testF g.cl (V++Jah y.x) A i=decide (∀ x∈varsT t,x∈(L++varsD (plc y.x))):=by
       unfold testF;rw [Jfv htt,show decide (i∉A)=true from xO fun h=>(hAQ i).1 h |>.elim (fun h=>by have h9:=aheadF_vars.1 ((Jen (n:=g.ts.length)).1 h).2;rw [Jfv htt] at h9;omega) (fun h=>absurd (nI_mem.2 (hiQ.2 h)) (by simpa using g132)),Bool.and_true,Bool.eq_iff_iff,ready_iff,decide_eq_true_eq];exact forall_congr' fun x=>imp_congr_right fun _=>(hLV1 x).symm
      exact WX.dt ⟨rfl,rfl,rfl,rfl,rfl,rfl,rfl,rfl,rfl,by rw [ek];rfl,trivial⟩ (fun w' hw=>hw)
     refine yV (yV (yV (Zv (OV.ai rfl rfl) (Nl ?_))));have hin:i∈Q:=hiQ.1 (nI_mem.1 (by simpa using g132));have ek:testF g.cl (V++Jah y.x) A i=false:=by unfold testF;rw [xP (fun h=>h ((hAQ i).2 (Or.inr hin))),Bool.and_false]
     exact WX.dt ⟨rfl,rfl,rfl,rfl,rfl,rfl,rfl,rfl,rfl,by rw [ek];rfl,trivial⟩ (fun w' hw=>hw)
    refine yV (yV (yV (yV (Zv (OV.ai rfl rfl) (Zm rfl (yV (yV (yV (Zv (OV.ai rfl rfl) (Nl ?_))))))))));have hin:i∈Jbj g.cl:=(Jen (n:=g.ts.length)).2 ⟨by omega,aheadF_vars.2 (by rw [Jfv htt];omega)⟩;have ek:testF g.cl (V++Jah y.x) A i=false:=by unfold testF;rw [xP (fun h=>h ((hAQ i).2 (Or.inl hin))),Bool.and_false]
    exact WX.dt ⟨rfl,rfl,rfl,rfl,rfl,rfl,rfl,rfl,rfl,by rw [ek];rfl,trivial⟩ (fun w' hw=>hw)
   refine Cc rfl (fun c136=>?_) (fun c136=>?_)
   ·refine Csr ?_
    first
    | (refine WL.val (OV.f0 2 rfl T.u93 rfl) rfl ?_;trace "ALT Jan#20 a6112a0d 0")
    | (refine WL.val (OV.ag (off:=2) rfl T.u93 rfl) rfl ?_;trace "ALT Jan#20 a6112a0d 1")
    refine Zv (OV.ap (v:=.slice ta (nI ((List.range i).filter (testF g.cl (V++Jah y.x) A))).length tc) rfl T.u32 rfl (fun _ hw=>(Jbn (hw.it (oQ b14 (jgC ⟨(pick1 g.cl lead jo V),ka,kc,nI (Jaq V y.x),ta,tc,(nI ((List.range i).filter (testF g.cl (V++Jah y.x) A)))⟩) 93) (by simp)) (o:=2) rfl).1)) (Zm rfl (WL.br T.u32 T.z3 T.zr3 rfl rfl rfl ?_));intro b140;have hal:(nI ((List.range (i+1)).filter (testF g.cl (V++Jah y.x) A)))=(nI ((List.range i).filter (testF g.cl (V++Jah y.x) A)))++[(i:Int)]:=by rw [Jck,if_pos c136];simp
    refine WL.focus (ow':=rowI ta tc (nI ((List.range i).filter (testF g.cl (V++Jah y.x) A)))::oQ b140 [Value.int .i64 (i:Int)] 3::rowI ua uc (varsT t)::oQ b14 (jgC ⟨(pick1 g.cl lead jo V),ka,kc,nI (Jaq V y.x),ta,tc,(nI ((List.range i).filter (testF g.cl (V++Jah y.x) A)))⟩) 93::rowI qa qc (nI (Q++(List.range i).filter (testF g.cl (V++Jah y.x) A)))::oQ b7 (pgC ⟨aa,ac,(nI (Jbj g.cl)),ja,jc,js⟩) 35::rowI jpa jpc (nI (jo++[(pick1 g.cl lead jo V)]))::rowI wa wc (L++varsD (plc y.x))::rowI ka kc (nI (Jaq V y.x))::row 3 1 xa (varsD (plc y.x)).length xc (ints (varsD (plc y.x)))::rowI aa ac (nI (Jbj g.cl))::rowJ ja jc js::oQ b4 (pgC ⟨none,0,[],none,0,[]⟩) 35::oQ b2 (cgC g) 30::jnA js) (pmP [_,_,_,_,_] [3,0,1,2,4]) ?_;refine WL.append (news:=ints [(i:Int)]) rfl rfl T.apI (fun _ _=>Jd5 yG rfl) (Jdf [(i:Int)]) ⟨by omega,by unfold maxLen;omega⟩ rfl ?_;intro a141 c141;rw [show (nI ((List.range i).filter (testF g.cl (V++Jah y.x) A))).length+1=((nI ((List.range i).filter (testF g.cl (V++Jah y.x) A)))++[(i:Int)]).length by rw [xL,xQ],show ints (nI ((List.range i).filter (testF g.cl (V++Jah y.x) A)))++ints [(i:Int)]=ints ((nI ((List.range i).filter (testF g.cl (V++Jah y.x) A)))++[(i:Int)]) by simp [ints],← hal]
    first
    | (refine WL.val (OV.f0 2 rfl T.u93 rfl) rfl ?_;trace "ALT Jan#21 a6112a0d 0")
    | (refine WL.val (OV.ag (off:=2) rfl T.u93 rfl) rfl ?_;trace "ALT Jan#21 a6112a0d 1")
    refine WL.focus perm3 (WL.cd (o:=2) rfl rfl rfl T.z32 (by show 2<3;omega) ?_);refine Nn (Cr (Zm rfl (Zm rfl (WL.br T.u32 T.z3 T.zr3 rfl rfl rfl ?_))));intro b145;have haq:(nI (Q++(List.range (i+1)).filter (testF g.cl (V++Jah y.x) A)))=(nI (Q++(List.range i).filter (testF g.cl (V++Jah y.x) A)))++[(i:Int)]:=by rw [Jck,if_pos c136,← xF];simp [nI]
    refine WL.focus (ow':=rowI qa qc (nI (Q++(List.range i).filter (testF g.cl (V++Jah y.x) A)))::oQ b145 [Value.int .i64 (i:Int)] 3::oQ b14 (jgC ⟨(pick1 g.cl lead jo V),ka,kc,nI (Jaq V y.x),a141,c141,(nI ((List.range (i+1)).filter (testF g.cl (V++Jah y.x) A)))⟩) 93::rowI a141 c141 (nI ((List.range (i+1)).filter (testF g.cl (V++Jah y.x) A)))::oQ b140 [Value.int .i64 (i:Int)] 3::rowI ua uc (varsT t)::oQ b7 (pgC ⟨aa,ac,(nI (Jbj g.cl)),ja,jc,js⟩) 35::rowI jpa jpc (nI (jo++[(pick1 g.cl lead jo V)]))::rowI wa wc (L++varsD (plc y.x))::rowI ka kc (nI (Jaq V y.x))::row 3 1 xa (varsD (plc y.x)).length xc (ints (varsD (plc y.x)))::rowI aa ac (nI (Jbj g.cl))::rowJ ja jc js::oQ b4 (pgC ⟨none,0,[],none,0,[]⟩) 35::oQ b2 (cgC g) 30::jnA js) (pmP [_,_,_,_,_,_] [5,0,1,2,3,4]) ?_;refine WL.append (news:=ints [(i:Int)]) rfl rfl T.apI (fun _ _=>Jd5 yG rfl) (Jdf [(i:Int)]) ⟨by omega,by unfold maxLen;omega⟩ rfl ?_;intro a146 c146;rw [show (nI (Q++(List.range i).filter (testF g.cl (V++Jah y.x) A))).length+1=((nI (Q++(List.range i).filter (testF g.cl (V++Jah y.x) A)))++[(i:Int)]).length by rw [xL,xQ],show ints (nI (Q++(List.range i).filter (testF g.cl (V++Jah y.x) A)))++ints [(i:Int)]=ints ((nI (Q++(List.range i).filter (testF g.cl (V++Jah y.x) A)))++[(i:Int)]) by simp [ints],← haq];refine Za rfl (Nl (Xb (Xn (Cr (Zm rfl (Zv (OV.bh (j:=1) rfl rfl (by omega)) (Za rfl (Nl ?_))))))));exact WX.round5 (i+1) a141 c141 a146 c146 Y9 (fun w' hw=>⟨by omega,hw.pik [[rowI a146 c146 (nI (Q++(List.range (i+1)).filter (testF g.cl (V++Jah y.x) A)))],[oQ b145 [Value.int .i64 (i:Int)] 3],[oQ b14 (jgC ⟨(pick1 g.cl lead jo V),ka,kc,nI (Jaq V y.x),a141,c141,(nI ((List.range (i+1)).filter (testF g.cl (V++Jah y.x) A)))⟩) 93],[rowI a141 c141 (nI ((List.range (i+1)).filter (testF g.cl (V++Jah y.x) A)))],[oQ b140 [Value.int .i64 (i:Int)] 3],[rowI ua uc (varsT t)],oQ b7 (pgC ⟨aa,ac,(nI (Jbj g.cl)),ja,jc,js⟩) 35::rowI jpa jpc (nI (jo++[(pick1 g.cl lead jo V)]))::rowI wa wc (L++varsD (plc y.x))::rowI ka kc (nI (Jaq V y.x))::row 3 1 xa (varsD (plc y.x)).length xc (ints (varsD (plc y.x)))::rowI aa ac (nI (Jbj g.cl))::rowJ ja jc js::oQ b4 (pgC ⟨none,0,[],none,0,[]⟩) 35::oQ b2 (cgC g) 30::jnA js] [2,3,0,6] 7⟩) (by show g.ts.length - (i+1)<g.ts.length - i;omega)
   refine Ck (Xb (Xn (Cr (Zm rfl (Zv (OV.bh (j:=1) rfl rfl (by omega)) (Za rfl (Nl ?_)))))));have hal:(List.range (i+1)).filter (testF g.cl (V++Jah y.x) A)=(List.range i).filter (testF g.cl (V++Jah y.x) A):=by rw [Jck,if_neg (by simpa using c136),xX]
   exact WX.round5 (i+1) ta tc qa qc ⟨rfl,rfl,rfl,rfl,rfl,rfl,rfl,by rw [hal];rfl,rfl,trivial⟩ (fun w' hw=>⟨by omega,by rw [hal];exact hw.drop⟩) (by show g.ts.length - (i+1)<g.ts.length - i;omega)
  refine Ce (Xe (Xe (Xh (Xn ?_))));have er:(List.range i).filter (testF g.cl (V++Jah y.x) A)=Jb0 g.cl (V++Jah y.x) A:=by rw [show i=g.cl.ts.length by show i=g.ts.length;omega];rfl
  rw [er];refine Cr ?_
  first
  | (refine WL.val (OV.f0 1 rfl T.u35 rfl) rfl ?_;trace "ALT Jan#22 d61bba88 0")
  | (refine WL.val (OV.ag (off:=1) rfl T.u35 rfl) rfl ?_;trace "ALT Jan#22 d61bba88 1")
  refine Zv (OV.ap (v:=.slice ja js.length jc) rfl T.u33 rfl (fun _ hw=>(Jbn (hw.it (oQ b7 (pgC ⟨aa,ac,(nI (Jbj g.cl)),ja,jc,js⟩) 35) (by simp)) (o:=1) rfl).1)) (Zv (OV.lN (cs:=jgC (⟨(pick1 g.cl lead jo V),ka,kc,nI (Jaq V y.x),ta,tc,nI (Jb0 g.cl (V++Jah y.x) A)⟩:JG)) rfl T.u93 rfl T.z93 yF) (WL.bo (cs:=jgC (⟨(pick1 g.cl lead jo V),ka,kc,nI (Jaq V y.x),ta,tc,nI (Jb0 g.cl (V++Jah y.x) A)⟩:JG)) T.u33 T.z93 T.zr93 rfl rfl (by omega) (by omega) rfl ?_));intro b150;refine WL.focus (ow':=rowJ ja jc js::oQ b150 (jgC (⟨(pick1 g.cl lead jo V),ka,kc,nI (Jaq V y.x),ta,tc,nI (Jb0 g.cl (V++Jah y.x) A)⟩:JG)) 93::oQ b14 (jgC ⟨(pick1 g.cl lead jo V),ka,kc,nI (Jaq V y.x),ta,tc,(nI (Jb0 g.cl (V++Jah y.x) A))⟩) 93::rowI ta tc (nI (Jb0 g.cl (V++Jah y.x) A))::rowI qa qc (nI (Q++Jb0 g.cl (V++Jah y.x) A))::oQ b7 (pgC ⟨aa,ac,(nI (Jbj g.cl)),ja,jc,js⟩) 35::rowI jpa jpc (nI (jo++[(pick1 g.cl lead jo V)]))::rowI wa wc (L++varsD (plc y.x))::rowI ka kc (nI (Jaq V y.x))::row 3 1 xa (varsD (plc y.x)).length xc (ints (varsD (plc y.x)))::rowI aa ac (nI (Jbj g.cl))::oQ b4 (pgC ⟨none,0,[],none,0,[]⟩) 35::oQ b2 (cgC g) 30::jnA js) (pmP [_,_,_,_,_,_,_,_,_,_,_,_,_] [10,0,1,2,3,4,5,6,7,8,9,11,12]) ?_;refine WL.append (news:=jgC (⟨(pick1 g.cl lead jo V),ka,kc,nI (Jaq V y.x),ta,tc,nI (Jb0 g.cl (V++Jah y.x) A)⟩:JG)) rfl rfl T.apJ (fun _ _=>Jdx yG rfl) (jgC_one _) ⟨by omega,by unfold maxLen;omega⟩ rfl ?_;intro a151 c151
  first
  | (refine WL.val (OV.f0 1 rfl T.u35 rfl) rfl ?_;trace "ALT Jan#23 d61bba88 0")
  | (refine WL.val (OV.ag (off:=1) rfl T.u35 rfl) rfl ?_;trace "ALT Jan#23 d61bba88 1")
  refine WL.focus perm5 (WL.cd (o:=1) rfl rfl rfl T.z33 (by show 1<2;omega) ?_);refine Nl (Xb ?_);have el:js.length+1=(js++[(⟨(pick1 g.cl lead jo V),ka,kc,nI (Jaq V y.x),ta,tc,nI (Jb0 g.cl (V++Jah y.x) A)⟩:JG)]).length:=by simp
  have ef:js.flatMap jgC++jgC (⟨(pick1 g.cl lead jo V),ka,kc,nI (Jaq V y.x),ta,tc,nI (Jb0 g.cl (V++Jah y.x) A)⟩:JG)=(js++[(⟨(pick1 g.cl lead jo V),ka,kc,nI (Jaq V y.x),ta,tc,nI (Jb0 g.cl (V++Jah y.x) A)⟩:JG)]).flatMap jgC:=by simp
  have hnk:g.bd.length - jo.length=(g.bd.length - (jo++[(pick1 g.cl lead jo V)]).length)+1:=by rw [xL,xQ];omega
  have htl8:(Jb0 g.cl (V++Jah y.x) A).length≤8:=Nat.le_trans (Jco _ _) hts8
  exact WX.au (⟨a151,c151,js++[(⟨(pick1 g.cl lead jo V),ka,kc,nI (Jaq V y.x),ta,tc,nI (Jb0 g.cl (V++Jah y.x) A)⟩:JG)],jo++[(pick1 g.cl lead jo V)],jpa,jpc,(V++Jah y.x),(L++varsD (plc y.x)),wa,wc,A++Jb0 g.cl (V++Jah y.x) A,Q++Jb0 g.cl (V++Jah y.x) A,qa,qc⟩:MS) Y7 (fun w' hw=>⟨⟨by show (js++[_]).map JG.a=_;rw [xT,hjo];rfl,hLV1,by show (L++varsD (plc y.x)).length≤9*(jo++[_]).length;rw [xL,xL,xQ];omega,
   ⟨dn++[⟨(pick1 g.cl lead jo V),Jaq V y.x,Jb0 g.cl (V++Jah y.x) A⟩],by
    show makeP g.cl lead=_++mkR g.cl lead (g.bd.length - (jo++[(pick1 g.cl lead jo V)]).length) _ _ _;rw [hdn,hnk,xF];congr 1;show (⟨(pick1 g.cl lead jo V),Jaq V (clA g.cl (pick1 g.cl lead jo V)),Jb0 g.cl (V++Jah (clA g.cl (pick1 g.cl lead jo V))) A⟩::mkR g.cl lead _ _ (V++Jah (clA g.cl (pick1 g.cl lead jo V))) (A++Jb0 g.cl (V++Jah (clA g.cl (pick1 g.cl lead jo V))) A):List Jn)=_;rw [Jgh ht];rfl,by unfold jnEq at hjd ⊢;rw [xT,xT,hjd];rfl⟩,
   by show (jo++[_]).length≤_;rw [xL,xQ];omega,List.nodup_append.2 ⟨hnd,by simp,fun x hx z hz=>by simp only [xI] at hz;subst hz;rintro rfl;exact hanj hx⟩,fun k hk=>by
    rcases List.mem_append.1 hk with h | h
    ·exact hjb k h
    ·simp only [xI] at h;rw [h];exact hab,fun k=>by show k∈A++_↔_∨k∈Q++_;rw [xS,xS,hAQ,or_assoc],by show (Q++_).length≤8*(jo++[_]).length;rw [xL,xL,xQ];omega⟩,by
   rw [el,ef] at hw;show Sat0 w (oQ b7 (pgC ⟨aa,ac,(nI (Jbj g.cl)),a151,c151,js++[(⟨(pick1 g.cl lead jo V),ka,kc,nI (Jaq V y.x),ta,tc,nI (Jb0 g.cl (V++Jah y.x) A)⟩:JG)]⟩) 35::rowI jpa jpc (nI (jo++[(pick1 g.cl lead jo V)]))::rowI wa wc (L++varsD (plc y.x))::rowI qa qc (nI (Q++Jb0 g.cl (V++Jah y.x) A))::rowI aa ac (nI (Jbj g.cl))::rowJ a151 c151 (js++[(⟨(pick1 g.cl lead jo V),ka,kc,nI (Jaq V y.x),ta,tc,nI (Jb0 g.cl (V++Jah y.x) A)⟩:JG)])::oQ b4 (pgC ⟨none,0,[],none,0,[]⟩) 35::oQ b2 (cgC g) 30::jnA (js++[(⟨(pick1 g.cl lead jo V),ka,kc,nI (Jaq V y.x),ta,tc,nI (Jb0 g.cl (V++Jah y.x) A)⟩:JG)])) w';rw [jnA_snoc];refine Hw.Sat.pick [[oQ b7 (pgC ⟨aa,ac,(nI (Jbj g.cl)),a151,c151,js++[(⟨(pick1 g.cl lead jo V),ka,kc,nI (Jaq V y.x),ta,tc,nI (Jb0 g.cl (V++Jah y.x) A)⟩:JG)]⟩) 35],[rowJ a151 c151 (js++[(⟨(pick1 g.cl lead jo V),ka,kc,nI (Jaq V y.x),ta,tc,nI (Jb0 g.cl (V++Jah y.x) A)⟩:JG)])],[oQ b150 (jgC (⟨(pick1 g.cl lead jo V),ka,kc,nI (Jaq V y.x),ta,tc,nI (Jb0 g.cl (V++Jah y.x) A)⟩:JG)) 93],[oQ b14 (jgC ⟨(pick1 g.cl lead jo V),ka,kc,nI (Jaq V y.x),ta,tc,(nI (Jb0 g.cl (V++Jah y.x) A))⟩) 93],[rowI ta tc (nI (Jb0 g.cl (V++Jah y.x) A))],[rowI qa qc (nI (Q++Jb0 g.cl (V++Jah y.x) A))],[rowI jpa jpc (nI (jo++[(pick1 g.cl lead jo V)]))],[rowI wa wc (L++varsD (plc y.x))],[rowI ka kc (nI (Jaq V y.x))],[row 3 1 xa (varsD (plc y.x)).length xc (ints (varsD (plc y.x)))],[rowI aa ac (nI (Jbj g.cl))],[oQ b4 (pgC ⟨none,0,[],none,0,[]⟩) 35],[oQ b2 (cgC g) 30],jnA js] [0,6,7,5,10,1,11,12,13,8,4] 14 rfl (by decide) (by decide) ?_;exact hw⟩) (by show g.bd.length - (jo++[_]).length<g.bd.length - jo.length;rw [xL,xQ];omega)
 refine Ce (Xe (Xe (Xh (Xn (Csr (Zv (OV.lN (cs:=pgC ⟨aa,ac,(nI (Jbj g.cl)),ja,jc,js⟩) rfl T.u35 rfl T.z35 yF) ?_))))));refine WL.focus perm6 (WL.aj (vs:=pgC ⟨aa,ac,(nI (Jbj g.cl)),ja,jc,js⟩) rfl rfl rfl T.z35 rfl ?_);refine Za rfl (Nn (WC.ay ?_));have hnl:(nI jo).length=jo.length:=xE _;have hj9:g.bd.length - jo.length=0:=by omega
 rw [hj9] at hdn;have hdn2:makeP g.cl lead=dn:=by rw [hdn];exact xX _
 refine WX.gn (cs:=pgC ⟨aa,ac,(nI (Jbj g.cl)),ja,jc,js⟩) rfl rfl rfl rfl T.u35 rfl T.z35 (fun w' hw j v hj=>Jbt hw yF j v hj) (fun w' hw=>⟨⟨aa,ac,(nI (Jbj g.cl)),ja,jc,js⟩,rfl,⟨rfl,by rw [hdn2];exact hjd⟩,?_⟩);exact (hw.pik [[oQ b4 (pgC ⟨aa,ac,(nI (Jbj g.cl)),ja,jc,js⟩) 35],[oQ b7 (pgC ⟨aa,ac,(nI (Jbj g.cl)),ja,jc,js⟩) 35],[rowI joa joc (nI jo)],[rowI va vc L],[rowI qa qc (nI Q)],[rowI aa ac (nI (Jbj g.cl))],[rowJ ja jc js],[oQ b2 (cgC g) 30],jnA js] [5,6,8] 9).turned0
end Go.Proofs.YtdgigbopibdflaaGreatDoor
