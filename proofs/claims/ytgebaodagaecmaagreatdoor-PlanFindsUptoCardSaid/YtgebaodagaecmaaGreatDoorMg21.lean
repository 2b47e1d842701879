/- Contracts of functions of the program: what each returns and leaves in memory. Printed by gen.py and walk.py. A new slice of structs; slices.SortFunc on elements of one cell where cmp lays blocks. The library's sort of rows lies in the loaded program as on the kit's shelf. -/
import Derived.Test.YtgebaodagaecmaaGreatDoorMg20
import Derived.Test.YtgebaodagaecmaaGreatDoorHxA
import Derived.Test.YtgebaodagaecmaaGreatDoorMg19
import Derived.Test.YtgebaodagaecmaaGreatDoorMg14
import Derived.Test.YtgebaodagaecmaaGreatDoorProg
set_option maxRecDepth 10000
namespace Go.Proofs.YtgebaodagaecmaaGreatDoor
open Go Go.Hw
set_option linter.unusedSimpArgs false
set_option linter.unusedVariables false
def askL (nt:Nat)(p:Nat→Bool):List Value:=(List.range nt).map fun i=>.int .i64 (if p i=true then 1 else 0)
theorem Jju (nt:Nat)(p:Nat→Bool):(askL nt p).length=nt:=by simp [askL]
theorem Jjv {nt i:Nat}{p:Nat→Bool}(h:i<nt):(askL nt p)[i]?=some (.int .i64 (if p i=true then 1 else 0)):=by
 unfold askL;rw [xG,List.getElem?_range h];rfl
theorem Jfz {nt:Nat}{p q:Nat→Bool}(h:∀ k,k<nt→p k=q k):askL nt p=askL nt q:=by
 unfold askL;exact List.map_congr_left fun k hk=>by rw [h k (List.mem_range.1 hk)]
theorem askL_set {nt i:Nat}{p q:Nat→Bool}(h:i<nt)(hq:∀ k,k<nt→q k=(p k || decide (k=i))):(askL nt p).set i (.int .i64 1)=askL nt q:=by
 refine List.ext_getElem? fun k=>?_
 by_cases hk:k<nt
 ·rw [Jjv hk,hq k hk]
  by_cases hki:k=i
  ·subst hki;rw [List.getElem?_set_self (by rw [Jju];exact hk),xO rfl,Bool.or_true,if_pos rfl]
  ·rw [List.getElem?_set_ne (fun e=>hki e.symm),Jjv hk,xP hki,Bool.or_false]
 ·rw [xV (by rw [List.length_set,Jju];omega),xV (by rw [Jju];omega)]
theorem askL_zero (nt:Nat):List.replicate nt (Value.int .i64 0)=askL nt (fun _=>false):=by
 refine List.ext_getElem? fun k=>?_
 by_cases hk:k<nt
 ·rw [Jjv hk,List.getElem?_replicate,if_pos hk];rfl
 ·rw [xV (by rw [List.length_replicate];omega),xV (by rw [Jju];omega)]
structure PG where
 aa:Option Addr
 ac:Nat
 al:List Int
 ja:Option Addr
 jc:Nat
 js:List JG
def pgC (p:PG):List Value:=[.slice p.aa p.al.length p.ac,.slice p.ja p.js.length p.jc]
abbrev pgV (p:PG):Value:=.agg (pgC p).toArray
def jgI (y:JG):List Hw.Item:=[rowI y.ka y.kc y.kn,rowI y.ta y.tc y.ts]
abbrev jnA (ys:List JG):List Hw.Item:=ys.flatMap jgI
def pgA (p:PG):List Hw.Item:=rowI p.aa p.ac p.al::rowJ p.ja p.jc p.js::jnA p.js
theorem jnA_snoc (ys:List JG)(y:JG):jnA (ys++[y])=jnA ys++[rowI y.ka y.kc y.kn,rowI y.ta y.tc y.ts]:=by unfold jnA;rw [List.flatMap_append];simp [jgI]
def jnEq (js:List JG)(l:List Jn):Prop:=js.map (fun y=>(y.a,y.kn,y.ts))=l.map fun j=>(j.a,nI j.kn,nI j.ts)
def leadI (lead:Option Nat):Int:=lead.elim (-1:Int) fun l:Nat=>(l:Int)
def Jdv (c:Cl)(i:Nat):Bool:=!varB (clT c i).l && !varB (clT c i).r
def testF (c:Cl)(V:List Int)(A:List Nat)(i:Nat):Bool:=Jip V (clT c i) && decide (i∉A)
theorem mem_rangeF {n k:Nat}{p:Nat→Bool}:k∈(List.range n).filter p↔k<n∧p k=true:=by rw [List.mem_filter,List.mem_range]
theorem refC_ok {c:Cl}(hc:VC c){lead:Option Nat}(hl:∀ l,lead=some l→l<c.bd.length):refC c (leadI lead)=0:=by
 unfold refC;rw [if_neg (fun h=>h hc.chk),if_neg];unfold leadI;cases lead with
 | none=>simp only [Option.elim_none];omega
 | some l=>have:=hl l rfl;simp only [Option.elim_some];omega
theorem vars_len {x:At}(h:chkA x=0):(dedI (Jaq x)).length≤9:=by
 have h1:=dedI_len (Jaq x);have h2:=Jlr (plc x);have h3:(plc x).length=x.args.length+1:=by simp [plc]
 have h4:=(chkA_zero.1 h).2.1;have h5:Jaq x=vnums (plc x):=rfl;rw [h5] at h1 ⊢;omega
theorem make_bad (g:CG)(hs:CS g)(lead:Int)(hb:refC g.cl lead≠0)(w:World)(hN:Jdb w)(hC:Jjz w)(hr:RC w g):Calls Tryz.prog 39 #[cgV g,.int .i64 lead] w fun e w'=>e=.returned (.tuple #[pgV ⟨none,0,[],none,0,[]⟩,.int .i64 (refC g.cl lead)])∧Fr0 w w':=by
 refine Jbo (args:=[cgV g,.int .i64 lead]) (fun _=>False) Tryz.func39 rfl Tryz.ntmps39 rfl rfl ?_;refine Csr (WL.box rfl rfl rfl ?_);intro b2;refine WL.alloc T.zr87 rfl ?_;intro b4;refine Za rfl (Nn (Cs (Csr (Zv (OV.lN (cs:=cgC g) rfl T.u32 rfl T.z32 yI) (Zm rfl (WL.au (v:=.int .i64 (refC g.cl lead)) (by kernel_rfl) rfl rfl (fun w' hw'=>refused_calls g hs lead w' (hN.keeps hw'.keeps) (hC.keeps hw'.keeps) (hr.keeps hw'.keeps)) ?_))))));refine Za rfl (Nn (Csr (Zm rfl (Zv ((OV.iu rfl rfl).cast (u:=.bool true) (by rw [xP hb];rfl)) (Nn (WC.co (show _=some (Value.bool true) from by rfl) ?_))))));refine Csr (Zv (OV.ao (xs:=[]) (pl:=[(0,1),(1,1)]) (cs:=pgC ⟨none,0,[],none,0,[]⟩) T.u87 T.zr87 (by kernel_rfl) rfl rfl) (Zm rfl (WL.ag (vs:=pgC ⟨none,0,[],none,0,[]⟩) rfl rfl rfl T.z87 rfl ?_)));refine Za rfl (Nn (WC.az ?_));refine Xr ?_;exact WX.my (cs:=pgC ⟨none,0,[],none,0,[]⟩) rfl rfl rfl rfl T.u87 rfl T.z87 (fun w' hw j v hj=>Jbh hw yH j v hj) (fun w' hw=>⟨rfl,hw.fr⟩)
set_option maxHeartbeats 2000000 in
theorem make_calls (g:CG)(hs:CS g)(hv:VC g.cl)(lead:Option Nat)(hld:∀ l,lead=some l→l<g.cl.bd.length)(w:World)(hN:Jdb w)(hC:Jjz w)(hr:RC w g):Calls Tryz.prog 39 #[cgV g,.int .i64 (leadI lead)] w fun e w'=>∃ p:PG,e=.returned (.tuple #[pgV p,.int .i64 0])∧(p.al=nI (Jbp g.cl)∧jnEq p.js (makeP g.cl lead))∧Turns [] (pgA p) w w':=by
 refine Jbo (args:=[cgV g,.int .i64 (leadI lead)]) (fun _=>False) Tryz.func39 rfl Tryz.ntmps39 rfl rfl ?_;refine Csr (WL.box rfl rfl rfl ?_);intro b2;refine WL.alloc T.zr87 rfl ?_;intro b4;refine Za rfl (Nn (Cs (Csr (Zv (OV.lN (cs:=cgC g) rfl T.u32 rfl T.z32 yI) (Zm rfl ?_)))));have hrf:=refC_ok hv hld;refine WL.c0 (v:=.int .i64 0) (vs:=[cgV g,.int .i64 (leadI lead)]) (fun w' hw'=>(refused_calls g hs (leadI lead) w' (hN.keeps hw'.keeps) (hC.keeps hw'.keeps) (hr.keeps hw'.keeps)).mono (fun en w'' ⟨h1,h2⟩=>⟨by rw [h1,hrf],h2⟩)) ?_;refine Za rfl (Nn (Csr (Zm rfl (Zv ((OV.iu rfl rfl).cast (u:=.bool false) rfl) (Nn (WC.bu (show _=some (Value.bool false) from by rfl) ?_))))));refine Ck (Xn (Csr (WL.alloc T.zr87 rfl ?_)));intro b7;refine Nn (Csr (WL.makeMap (iV) rfl ?_));intro m29;refine Za rfl (Nn (Csr (Zv (OV.f0 6 rfl T.u32 rfl) ?_)));have hbl:=hs.bl;have htl:=hs.tl;refine Zv (OV.l1 (v:=.slice g.ta g.ts.length g.tc) rfl T.u30 rfl yK rfl) (Zv (OV.ae rfl T.u30) (WL.makeSlice (bytes:=8) rfl rfl T.u51 T.z3 T.zr3 (by kernel_rfl) ⟨by omega,by omega⟩ rfl ?_));intro b33;rw [askL_zero];refine Za rfl (Nn (Cs (Csr (Zv (OV.f0 6 rfl T.u32 rfl) (Zv (OV.l1 (v:=.slice g.ta g.ts.length g.tc) rfl T.u30 rfl yL rfl) (Zv (OV.ae rfl T.u30) (Zm rfl (Nn (Cb (WC.weak (S':=Sat0 w (oQ b7 (pgC ⟨none,0,[],none,0,[]⟩) 87::row 3 1 none 0 0 []::oQ b33 (askL g.ts.length (fun _=>false)) 3::own m29 (mapK iV (cntM []))::oQ b4 (pgC ⟨none,0,[],none,0,[]⟩) 87::oQ b2 (cgC g) 32::[])) (fun w' hw=>(hw.rowNil 3 1).perm (pmP [_,_,_,_,_,_] [3,0,1,2,4,5])) ?_))))))))))
 refine WC.ic (fun (i:Nat) (aa:Option Addr) (ac:Nat)=>[(1,.int .i64 (leadI lead)),(2,yZ b2),(4,yZ b4),(7,yZ b7),(8,.map (some m29)),(9,.slice (some ⟨b33,0,none⟩) g.ts.length g.ts.length),(35,.slice g.ta g.ts.length g.tc),(36,.int .i64 (g.ts.length:Int)),(37,.int .i64 (i:Int))])
   (fun i aa ac w'=>i≤g.ts.length∧Sat0 w (oQ b7 (pgC ⟨aa,ac,(nI ((List.range i).filter (Jdv g.cl))),none,0,[]⟩) 87::rowI aa ac (nI ((List.range i).filter (Jdv g.cl)))::oQ b33 (askL g.ts.length (fun k=>decide (k<i) && Jdv g.cl k)) 3::own m29 (mapK iV (cntM []))::oQ b4 (pgC ⟨none,0,[],none,0,[]⟩) 87::oQ b2 (cgC g) 32::[]) w')
   (fun i _ _=>g.ts.length - i) 0 none 0 Y9 (fun w' hw=>⟨by omega,by
    rw [show askL g.ts.length (fun k=>decide (k<0) && Jdv g.cl k)=askL g.ts.length (fun _=>false) from Jfz fun k _=>by simp];exact hw⟩) ?_
 intro i aa ac;refine WC.pure (fun hi=>?_);have hfl:=Je8 (Jdv g.cl) i;have hfn:(nI ((List.range i).filter (Jdv g.cl))).length=((List.range i).filter (Jdv g.cl)).length:=xE _;refine Csr (Zv (OV.cq rfl rfl) (Nn (Cs ?_)));refine Cc rfl (fun c38=>?_) (fun c38=>?_)
 ·refine Ck (Xn (Cs (Cb (Csr (Zm rfl ?_)))));obtain ⟨q1,t,hq,ht,htm,hc⟩:=hr.ts.get (i:=i) (by omega);refine Zv ((OV.ad (show _=some (Value.slice (some q1) g.ts.length g.tc) by rw [← hq];rfl) rfl T.u30 T.z61 (by omega)).cast (u:=.pointer (some (q1.add (i*7)))) (by rw [xN])) (Zv (OV.ai (cs:=tsC t) rfl T.u61 rfl T.z61 (fun _ hw j v hj=>hw.keeps _ _ (hc j v hj))) (WL.alloc T.zr61 rfl ?_));intro b11;refine Za rfl (WL.ag (vs:=tsC t) rfl rfl rfl T.z61 rfl ?_);refine Nn (Csr (Zv (OV.lN (cs:=tsC t) rfl T.u61 rfl T.z61 yH) (Zm rfl (WL.au (v:=.tuple #[.bool (Jip [] t),.bool (varB t.l || varB t.r)]) (by kernel_rfl) rfl rfl (fun w' hw'=>pready_calls t [] m29 w' (hw'.it (own m29 (mapK iV (cntM []))) (by simp))) ?_))));refine Zm rfl (Zv (OV.extract rfl rfl) (Zv (OV.extract rfl rfl) (Za rfl (Za rfl (Nn (Csr (Zm rfl (Zv (OV.not rfl) (Nn ?_)))))))));refine Cc rfl (fun c49=>?_) (fun c49=>?_)
  ·refine Csr (Zv (OV.f0 0 rfl T.u87 rfl) (Zv (OV.l1 (v:=.slice aa (nI ((List.range i).filter (Jdv g.cl))).length ac) rfl T.u51 rfl yI rfl) (Zm rfl (WL.br T.u51 T.z3 T.zr3 rfl rfl rfl ?_))));intro b53;refine WL.focus (ow':=rowI aa ac (nI ((List.range i).filter (Jdv g.cl)))::oQ b53 [Value.int .i64 (i:Int)] 3::oQ b11 (tsC t) 61::oQ b7 (pgC ⟨aa,ac,(nI ((List.range i).filter (Jdv g.cl))),none,0,[]⟩) 87::oQ b33 (askL g.ts.length (fun k=>decide (k<i) && Jdv g.cl k)) 3::own m29 (mapK iV (cntM []))::oQ b4 (pgC ⟨none,0,[],none,0,[]⟩) 87::oQ b2 (cgC g) 32::[]) (pmP [_,_,_,_,_,_,_,_] [3,0,1,2,4,5,6,7]) ?_;refine WL.append (news:=ints [(i:Int)]) rfl rfl T.apI (fun _ _=>Jeg yI rfl) (Jes [(i:Int)]) ⟨by omega,by unfold maxLen;omega⟩ rfl ?_;intro a54 c54;refine Zv (OV.f0 0 rfl T.u87 rfl) ?_;refine WL.focus perm3 (WL.bw (o:=0) rfl rfl rfl T.z51 (by show 0<2;omega) ?_);refine Nn (Cr (Zm rfl (Zm rfl (Zv (OV.dp (i:=i) rfl rfl T.u51 T.z3 (by omega)) ?_))));refine WL.val (OV.ah (v:=.int .i64 0) rfl T.u3 rfl (fun _ hw=>Jbn hw (show oQ b33 (askL g.ts.length (fun k=>decide (k<i) && Jdv g.cl k)) 3∈_ by simp) (by rw [List.getElem?_toArray,Jjv (by omega)];simp))) rfl ?_;refine Zv (OV.fp rfl rfl (by omega)) (Zv (OV.dp (i:=i) rfl rfl T.u51 T.z3 (by omega)) ?_);refine WL.focus perm4 (WL.bw (o:=i) rfl rfl rfl T.z3 (by rw [Jju];omega) ?_);refine Nl (Xb (Xn (Cr (Zv (OV.bm (j:=1) rfl rfl (by omega)) (Zm rfl (Nl ?_))))))
   have hF:Jdv g.cl i=true:=by
    unfold Jdv;rw [Jnk ht];rw [Bool.or_eq_false_iff] at c49;rw [c49.1,c49.2];rfl
   have hal:(nI ((List.range (i+1)).filter (Jdv g.cl)))=(nI ((List.range i).filter (Jdv g.cl)))++[(i:Int)]:=by rw [Jfa,if_pos hF];simp
   have el:(nI ((List.range i).filter (Jdv g.cl))).length+1=((nI ((List.range i).filter (Jdv g.cl)))++[(i:Int)]).length:=by simp
   have ef:ints (nI ((List.range i).filter (Jdv g.cl)))++ints [(i:Int)]=ints ((nI ((List.range i).filter (Jdv g.cl)))++[(i:Int)]):=by simp [ints]
   have ea:(askL g.ts.length (fun k=>decide (k<i) && Jdv g.cl k)).set i (.int .i64 1)=askL g.ts.length (fun k=>decide (k<(i+1)) && Jdv g.cl k):=askL_set (by omega) (fun k hk=>by
    by_cases h:k=i
    ·subst h;simp [hF]
    ·rw [xP h,Bool.or_false,show decide (k<i+1)=decide (k<i) from decide_eq_decide.2 (by omega)])
   exact WX.eo (i+1) a54 c54 Y9 (fun w' hw=>⟨by omega,by
    rw [el,ef,← hal] at hw;rw [← ea];exact hw.pik [[oQ b33 ((askL g.ts.length (fun k=>decide (k<i) && Jdv g.cl k)).set i (.int .i64 1)) 3],[oQ b7 (pgC ⟨a54,c54,(nI ((List.range (i+1)).filter (Jdv g.cl))),none,0,[]⟩) 87],[rowI a54 c54 (nI ((List.range (i+1)).filter (Jdv g.cl)))],[oQ b53 [Value.int .i64 (i:Int)] 3],[oQ b11 (tsC t) 61],[own m29 (mapK iV (cntM []))],[oQ b4 (pgC ⟨none,0,[],none,0,[]⟩) 87],[oQ b2 (cgC g) 32]] [1,2,0,5,6,7] 8⟩) (by show g.ts.length - (i+1)<g.ts.length - i;omega)
  refine Ck (Xb (Xn (Cr (Zv (OV.bm (j:=1) rfl rfl (by omega)) (Zm rfl (Nl ?_))))))
  have hF:Jdv g.cl i=false:=by
   unfold Jdv;rw [Jnk ht];rw [xR] at c49;rcases c49 with h | h <;> simp [h]
  have hal:(nI ((List.range (i+1)).filter (Jdv g.cl)))=(nI ((List.range i).filter (Jdv g.cl))):=by rw [Jfa,if_neg (by rw [hF];simp),xZ]
  have ea:askL g.ts.length (fun k=>decide (k<(i+1)) && Jdv g.cl k)=askL g.ts.length (fun k=>decide (k<i) && Jdv g.cl k):=Jfz fun k hk=>by
   by_cases h:k=i
   ·subst h;simp [hF]
   ·rw [show decide (k<i+1)=decide (k<i) from decide_eq_decide.2 (by omega)]
  exact WX.eo (i+1) aa ac Y9 (fun w' hw=>⟨by omega,by
   rw [hal,ea];exact hw.drop⟩) (by show g.ts.length - (i+1)<g.ts.length - i;omega)
 refine Ce (Xe (Xe (Xh (Xn (Cs (Cb ?_))))));obtain rfl:i=g.ts.length:=by omega
 have hnb:g.cl.bd.length=g.bd.length:=xE _
 have ea0:askL g.ts.length (fun k=>decide (k<g.ts.length) && Jdv g.cl k)=askL g.ts.length (fun k=>decide (k∈Jbp g.cl)):=Jfz fun k hk=>by
  have em:(k∈Jbp g.cl)↔Jdv g.cl k=true:=(mem_rangeF (n:=g.ts.length)).trans (and_iff_right hk);rw [xO hk,Bool.true_and,Bool.eq_iff_iff,decide_eq_true_eq,em]
 rw [ea0];refine WC.weak (S':=Sat0 w (oQ b7 (pgC ⟨aa,ac,(nI (Jbp g.cl)),none,0,[]⟩) 87::own m29 (mapK iV (cntM []))::oQ b33 (askL g.ts.length (fun k=>decide (k∈Jbp g.cl))) 3::rowI aa ac (nI (Jbp g.cl))::row 141 3 none 0 0 []::oQ b4 (pgC ⟨none,0,[],none,0,[]⟩) 87::oQ b2 (cgC g) 32::[])) (fun w' hw=>(hw.rowNil 141 3).perm (pmP [_,_,_,_,_,_,_] [1,4,3,2,0,5,6])) ?_;clear hi hfl hfn ea0
 refine WC.loop7 (fun (js:List JG) (ja:Option Addr) (jc:Nat) (L:List Int) (jo:List Nat) (V:List Int) (A:List Nat)=>[(1,.int .i64 (leadI lead)),(2,yZ b2),(4,yZ b4),(7,yZ b7),(8,.map (some m29)),(9,.slice (some ⟨b33,0,none⟩) g.ts.length g.ts.length)])
   (fun js ja jc L jo V A w'=>(js.map JG.a=jo∧(∀ v,v∈L↔v∈V)∧L.length≤9*jo.length∧(∃ dn,makeP g.cl lead=dn++mkR g.cl lead (g.bd.length - jo.length) jo V A∧jnEq js dn)∧jo.length≤g.bd.length∧jo.Nodup∧(∀ i∈jo,i<g.bd.length))∧Sat0 w (oQ b7 (pgC ⟨aa,ac,(nI (Jbp g.cl)),ja,jc,js⟩) 87::own m29 (mapK iV (cntM L))::oQ b33 (askL g.ts.length (fun k=>decide (k∈A))) 3::rowI aa ac (nI (Jbp g.cl))::rowJ ja jc js::oQ b4 (pgC ⟨none,0,[],none,0,[]⟩) 87::oQ b2 (cgC g) 32::jnA js) w')
   (fun js _ _ _ _ _ _=>g.bd.length - js.length) [] none 0 [] [] [] (Jbp g.cl) Y6 (fun w' hw=>⟨⟨rfl,fun v=>Iff.rfl,Nat.le_refl _,⟨[],by rw [← hnb];rfl,rfl⟩,Nat.zero_le _,List.nodup_nil,fun i hi=>by cases hi⟩,hw⟩) ?_
 intro js ja jc L jo V A;refine WC.pure (fun hF=>?_);obtain ⟨hjo,hLV,hLl,⟨dn,hdn,hjd⟩,hjn,hnd,hjb⟩:=hF;refine Cs (Csr (Zv (OV.f0 1 rfl T.u87 rfl) (Zv (OV.l1 (v:=.slice ja js.length jc) rfl T.u85 rfl yH rfl) (Zv (OV.ae rfl T.u85) (Zv (OV.f0 5 rfl T.u32 rfl) (Zv (OV.ah (v:=.slice g.ba g.bd.length g.bc) rfl T.u22 rfl (fun _ hw=>(Jax (hw.it _ yN) (o:=5) rfl).1)) (Zv (OV.ae rfl T.u22) (Zv (OV.cq rfl rfl) (Nn ?_)))))))));refine Cc rfl (fun c69=>?_) (fun c69=>?_)
 ·refine Ck (Xn (Cb (Cs ?_)));have hjl:js.length=jo.length:=by rw [← hjo,xE]
  obtain ⟨yn,hnx,hyj,hyb⟩:=Jol (c:=g.cl) (V:=V) hnd (fun i hi=>by rw [hnb];exact hjb i hi) (by rw [hnb];omega);rw [hnb] at hyb
  have hab:(pick1 g.cl lead jo V)<g.bd.length:=by
   unfold pick1
   split
   ·rename_i h;obtain ⟨l,hl⟩:=Option.isSome_iff_exists.1 h.2;rw [hl];have:=hld l hl;rw [hnb] at this;exact this
   ·rw [hnx];exact hyb
  have hanj:(pick1 g.cl lead jo V)∉jo:=by
   unfold pick1
   split
   ·rename_i h;rw [h.1];simp
   ·rw [hnx];exact hyj
  refine Cr (Zm rfl (Za rfl (Nn (Cs (Cs ?_)))));refine WC.ir [(1,.int .i64 (leadI lead)),(2,yZ b2),(4,yZ b4),(7,yZ b7),(8,.map (some m29)),(9,.slice (some ⟨b33,0,none⟩) g.ts.length g.ts.length),(14,.int .i64 (leadI lead)),(78,.bool (decide (jo≠[]∨lead=none)))] (Sat0 w (oQ b7 (pgC ⟨aa,ac,(nI (Jbp g.cl)),ja,jc,js⟩) 87::own m29 (mapK iV (cntM L))::oQ b33 (askL g.ts.length (fun k=>decide (k∈A))) 3::rowI aa ac (nI (Jbp g.cl))::rowJ ja jc js::oQ b4 (pgC ⟨none,0,[],none,0,[]⟩) 87::oQ b2 (cgC g) 32::jnA js)) ?_ ?_
  ·refine Cr (Zv (OV.f0 1 rfl T.u87 rfl) (Zv (OV.l1 (v:=.slice ja js.length jc) rfl T.u85 rfl yH rfl) (Zv (OV.ae rfl T.u85) (Zv (OV.lj rfl rfl) (Zm rfl ?_)))));refine Zp (t:=75) rfl (fun g75=>?_) (fun g75=>?_)
   ·refine yX (yX (Zv (OV.am rfl rfl) (Nl ?_)));have ej:jo≠[]:=fun h=>by have h9:=congrArg List.length hjo;rw [xE,h] at h9;simp only [List.length_nil] at h9;omega
    exact WX.dz ⟨rfl,rfl,rfl,rfl,rfl,rfl,rfl,by rw [xO (Or.inl ej)];rfl,trivial⟩ (fun w' hw=>hw)
   refine yY (Zm rfl (yY (Zv (OV.cq rfl rfl) (Zv (OV.aj rfl rfl) (Nl ?_)))));have ej:jo=[]:=by have h9:=congrArg List.length hjo;rw [xE] at h9;exact List.length_eq_zero_iff.1 (by omega)
   have el:decide (leadI lead<0)=decide (jo≠[]∨lead=none):=by
    unfold leadI;cases lead with
    | none=>simp
    | some l=>rw [show (Option.elim (some l) (-1:Int) fun l:Nat=>(l:Int))=(l:Int) from rfl,xP (by omega),xP (fun h=>by rcases h with h | h;exact h ej;cases h)]
   exact WX.dz ⟨rfl,rfl,rfl,rfl,rfl,rfl,rfl,by rw [← el];rfl,trivial⟩ (fun w' hw=>hw)
  refine WC.ir [(1,.int .i64 (leadI lead)),(2,yZ b2),(4,yZ b4),(7,yZ b7),(8,.map (some m29)),(9,.slice (some ⟨b33,0,none⟩) g.ts.length g.ts.length),(14,.int .i64 (((pick1 g.cl lead jo V):Nat):Int))] (Sat0 w (oQ b7 (pgC ⟨aa,ac,(nI (Jbp g.cl)),ja,jc,js⟩) 87::own m29 (mapK iV (cntM L))::oQ b33 (askL g.ts.length (fun k=>decide (k∈A))) 3::rowI aa ac (nI (Jbp g.cl))::rowJ ja jc js::oQ b4 (pgC ⟨none,0,[],none,0,[]⟩) 87::oQ b2 (cgC g) 32::jnA js)) ?_ ?_
  ·refine Cc rfl (fun c78=>?_) (fun c78=>?_)
   ·refine Cr (Zv (OV.ai (cs:=cgC g) rfl T.u32 rfl T.z32 (fun _ hw j v hj=>by rw [Jap,xM];exact Jbh hw yN j v hj)) (Zv (OV.f0 1 rfl T.u87 rfl) (Zv (OV.l1 (v:=.slice ja js.length jc) rfl T.u85 rfl yH rfl) (Zm rfl ?_))));have hjl2:js.length≤8:=by rw [← xE (f:=JG.a),hjo];have:=hv.bl;rw [hnb] at this;omega
    refine WL.c0 (v:=.int .i64 ((nextP g.cl jo V).elim (-1:Int) fun z:Nat=>(z:Int))) (vs:=[cgV g,.slice ja js.length jc,.map (some m29)]) (fun w' hw'=>by
     have h9:=pnext_calls g hs js ja jc L m29 (by omega) w' (hr.keeps hw'.keeps) (RJ.of_row (c:=jc) hw' yL) (hw'.it (own m29 (mapK iV (cntM L))) yI);rw [hjo,nextP_congr hLV] at h9;exact h9) ?_
    refine Za rfl (Nl ?_)
    have ep:((nextP g.cl jo V).elim (-1:Int) fun z:Nat=>(z:Int))=(((pick1 g.cl lead jo V):Nat):Int):=by
     unfold pick1;rw [if_neg (fun h=>by rcases c78 with h2 | h2;exact h2 h.1;rw [h2] at h;cases h.2),hnx];rfl
    exact WX.dz ⟨rfl,rfl,rfl,rfl,rfl,rfl,by rw [← ep];rfl,trivial⟩ (fun w' hw=>hw)
   refine Ck ?_
   have ep:leadI lead=(((pick1 g.cl lead jo V):Nat):Int):=by
    unfold pick1 leadI;have h1:jo=[]:=Classical.byContradiction fun h=>c78 (Or.inl h)
    cases lead with
    | none=>exact absurd (Or.inr rfl) c78
    | some l=>rw [if_pos ⟨h1,rfl⟩];rfl
   exact WX.dz ⟨rfl,rfl,rfl,rfl,rfl,rfl,by rw [← ep];rfl,trivial⟩ (fun w' hw=>hw)
  refine Csr (Zm rfl (Zv (OV.f0 5 rfl T.u32 rfl) (Zv (OV.ah (v:=.slice g.ba g.bd.length g.bc) rfl T.u22 rfl (fun _ hw=>(Jax (hw.it _ yN) (o:=5) rfl).1)) (Zm rfl ?_))));obtain ⟨q1,y,hq,ht,htm,hra,hc⟩:=hr.bd.get (i:=(pick1 g.cl lead jo V)) hab;refine Zv ((OV.ad (show _=some (Value.slice (some q1) g.bd.length g.bc) by rw [← hq];rfl) rfl T.u22 T.z29 (by omega)).cast (u:=.pointer (some (q1.add ((pick1 g.cl lead jo V)*5)))) (by rw [xN])) (Zv (OV.ai (cs:=agC y) rfl T.u29 rfl T.z29 (fun _ hw j v hj=>hw.keeps _ _ (hc j v hj))) (Zm rfl ?_));have hsy:=hs.at_ y (Or.inr htm);refine WL.cT (ι:=Option Addr × Nat) (vs:=[atV y.x y.a y.c,.map (some m29)]) (vv:=fun z=>.slice z.1 (nI (Jbx V y.x)).length z.2) (pp:=fun _=>True) [] (AA:=fun z=>[rowI z.1 z.2 (nI (Jbx V y.x))]) rfl (fun w' hw' _=>?_) ?_
  ·have h9:=pknown_calls y.x y.a y.c L m29 hsy.1 w' (hra.keeps hw'.keeps) (hw'.it (own m29 (mapK iV (cntM L))) yI);rw [Jiy hLV] at h9;exact h9.mono (fun en w'' ⟨z,h1,h2⟩=>⟨z,h1,trivial,h2⟩)
  rintro ⟨ka,kc⟩ _;refine Zv (OV.ao (xs:=[(0,.tmp 84),(1,.tmp 91)]) (pl:=[(0,1),(1,1),(2,1)]) (cs:=jgC ⟨(pick1 g.cl lead jo V),ka,kc,nI (Jbx V y.x),none,0,[]⟩) T.u141 T.zr141 (by kernel_rfl) rfl (Jal (us:=[_]) rfl rfl yW (Jal (us:=[_]) rfl rfl yW rfl))) (WL.alloc T.zr141 rfl ?_);intro b15;refine WL.ag (vs:=jgC ⟨(pick1 g.cl lead jo V),ka,kc,nI (Jbx V y.x),none,0,[]⟩) rfl rfl rfl T.z141 rfl ?_;refine Nn (Cs (Csr (Zv (OV.f0 5 rfl T.u32 rfl) (Zv (OV.ah (v:=.slice g.ba g.bd.length g.bc) rfl T.u22 rfl (fun _ hw=>(Jax (hw.it _ yP) (o:=5) rfl).1)) (Zm rfl (Zv ((OV.ad (show _=some (Value.slice (some q1) g.bd.length g.bc) by rw [← hq];rfl) rfl T.u22 T.z29 (by omega)).cast (u:=.pointer (some (q1.add ((pick1 g.cl lead jo V)*5)))) (by rw [xN])) (Zv (OV.ai (cs:=agC y) rfl T.u29 rfl T.z29 (fun _ hw j v hj=>hw.keeps _ _ (hc j v hj))) ?_)))))));have hch:chkA y.x=0:=hv.bd y.x (List.mem_map.2 ⟨y,htm,rfl⟩);have hvl:=vars_len hch;refine WL.cT (ι:=Option Addr × Nat) (vs:=[atV y.x y.a y.c]) (vv:=fun z=>.slice z.1 (dedI (Jaq y.x)).length z.2) (pp:=fun _=>True) [] (AA:=fun z=>[rowI z.1 z.2 (dedI (Jaq y.x))]) rfl (fun w' hw' _=>(tvars_calls y.x y.a y.c hsy.1 w' (hra.keeps hw'.keeps)).mono (fun en w'' ⟨z,h1,h2⟩=>⟨z,h1,trivial,h2⟩)) ?_;rintro ⟨va,vc⟩ _;refine Zv (OV.ae rfl T.u51) (Zm rfl (Nn (Cb ?_)))
  refine WC.weak (S':=Sat0 w (own m29 (mapK iV (cntM (L++(dedI (Jaq y.x)).take 0)))::oQ b15 (jgC ⟨(pick1 g.cl lead jo V),ka,kc,nI (Jbx V y.x),none,0,[]⟩) 141::oQ b7 (pgC ⟨aa,ac,(nI (Jbp g.cl)),ja,jc,js⟩) 87::oQ b33 (askL g.ts.length (fun k=>decide (k∈A))) 3::rowI ka kc (nI (Jbx V y.x))::rowI va vc (dedI (Jaq y.x))::rowI aa ac (nI (Jbp g.cl))::rowJ ja jc js::oQ b4 (pgC ⟨none,0,[],none,0,[]⟩) 87::oQ b2 (cgC g) 32::jnA js)) (fun w' hw=>by
   rw [List.take_zero,xZ];exact hw.perm (pmP [_,_,_,_,_,_] [4,1,3,5,2,0])) ?_
  refine WC.cm (fun (j:Nat)=>[(1,.int .i64 (leadI lead)),(2,yZ b2),(4,yZ b4),(7,yZ b7),(8,.map (some m29)),(9,.slice (some ⟨b33,0,none⟩) g.ts.length g.ts.length),(14,.int .i64 (((pick1 g.cl lead jo V):Nat):Int)),(15,yZ b15),(98,.slice va (dedI (Jaq y.x)).length vc),(99,.int .i64 ((dedI (Jaq y.x)).length:Int)),(100,.int .i64 (j:Int))])
    (fun j w'=>j≤(dedI (Jaq y.x)).length∧Sat0 w (own m29 (mapK iV (cntM (L++(dedI (Jaq y.x)).take j)))::oQ b15 (jgC ⟨(pick1 g.cl lead jo V),ka,kc,nI (Jbx V y.x),none,0,[]⟩) 141::oQ b7 (pgC ⟨aa,ac,(nI (Jbp g.cl)),ja,jc,js⟩) 87::oQ b33 (askL g.ts.length (fun k=>decide (k∈A))) 3::rowI ka kc (nI (Jbx V y.x))::rowI va vc (dedI (Jaq y.x))::rowI aa ac (nI (Jbp g.cl))::rowJ ja jc js::oQ b4 (pgC ⟨none,0,[],none,0,[]⟩) 87::oQ b2 (cgC g) 32::jnA js) w')
    (fun j=>(dedI (Jaq y.x)).length - j) 0 Y11 (fun w' hw=>⟨by omega,hw⟩) ?_
  intro j;refine WC.pure (fun hj=>?_);refine Csr (Zv (OV.cq rfl rfl) (Nn (Cs ?_)));refine Cc rfl (fun c101=>?_) (fun c101=>?_)
  ·refine Ck (Xn (Cs (Cb (Csr ?_))));refine WL.j2 (fun w2 hw2=>(RI.of_row (c:=vc) hw2 yM:RI w2 va (dedI (Jaq y.x)).length (dedI (Jaq y.x))).some (by omega)) (fun hqq=>?_);obtain ⟨q9,hq9⟩:=hqq;obtain ⟨u,hu⟩:∃ u,(dedI (Jaq y.x))[j]?=some u:=⟨_,xD (by omega)⟩
   refine Zv ((OV.ad (show _=some (Value.slice (some q9) (dedI (Jaq y.x)).length vc) by rw [← hq9];rfl) rfl T.u51 T.z3 (by omega)).cast (u:=.pointer (some (q9.add j))) (by rw [xN,Nat.mul_one])) (Zv (OV.ah (v:=.int .i64 u) rfl T.u3 rfl (fun w2 hw=>(show RI w2 (some q9) (dedI (Jaq y.x)).length (dedI (Jaq y.x)) by rw [← hq9];exact RI.of_row (c:=vc) hw yM) |> fun h=>ri_at h hu)) (Za rfl (Nn (Cr (Zm rfl (Zm rfl (Zv ((OV.lookup Jiq T.u81 (show Program.zv Tryz.prog 3=some (.int .i64 0) by kernel_rfl) rfl rfl (fun _ hw=>hw.it (own m29 (mapK iV (cntM (L++(dedI (Jaq y.x)).take j)))) yH)).cast (u:=.int .i64 (((L++(dedI (Jaq y.x)).take j).count u:Nat):Int)) (Jkb _ _)) ?_)))))));have hcl:=List.count_le_length (a:=u) (l:=L++(dedI (Jaq y.x)).take j);rw [xL,xJ] at hcl;refine Zv (OV.fp rfl rfl (by omega)) (WL.mapUpdate Jiq T.u81 rfl rfl rfl ?_);refine Nl (Xb (Xn (Cr (Zv (OV.bm (j:=1) rfl rfl (by omega)) (Zm rfl (Nl ?_))))));have em:ups (cntM (L++(dedI (Jaq y.x)).take j)) u (.int .i64 (((L++(dedI (Jaq y.x)).take j).count u:Nat)+1))=cntM (L++(dedI (Jaq y.x)).take (j+1)):=by rw [Jb3 hu,← xF,Jkd,cval_cntM]
   rw [em];exact WX.bk (j+1) Y11 (fun w' hw=>⟨by omega,hw⟩) (by show (dedI (Jaq y.x)).length - (j+1)<(dedI (Jaq y.x)).length - j;omega)
  refine Ce (Xe (Xe (Xh (Xn (Cs (Cs ?_))))));rw [xK (by omega)];have hLV1:∀ v,v∈L++dedI (Jaq y.x)↔v∈V++Jaq y.x:=fun v=>by rw [xT,xT,Jku,hLV]
  refine Cr (Zv (OV.f0 6 rfl T.u32 rfl) (Zv (OV.ah (v:=.slice g.ta g.ts.length g.tc) rfl T.u30 rfl (fun _ hw=>(Jax (hw.it _ yQ) (o:=6) rfl).1)) (Zv (OV.ae rfl T.u30) (Zm rfl (Nn (Cb ?_))))))
  refine WC.weak (S':=Sat0 w (oQ b15 (jgC ⟨(pick1 g.cl lead jo V),ka,kc,nI (Jbx V y.x),none,0,(nI ((List.range 0).filter (testF g.cl (V++Jaq y.x) A)))⟩) 141::row 3 1 none 0 0 []::oQ b33 (askL g.ts.length (fun k=>decide (k∈A) || (decide (k<0) && testF g.cl (V++Jaq y.x) A k))) 3::own m29 (mapK iV (cntM (L++dedI (Jaq y.x))))::oQ b7 (pgC ⟨aa,ac,(nI (Jbp g.cl)),ja,jc,js⟩) 87::rowI ka kc (nI (Jbx V y.x))::rowI va vc (dedI (Jaq y.x))::rowI aa ac (nI (Jbp g.cl))::rowJ ja jc js::oQ b4 (pgC ⟨none,0,[],none,0,[]⟩) 87::oQ b2 (cgC g) 32::jnA js)) (fun w' hw=>by
   rw [show askL g.ts.length (fun k=>decide (k∈A) || (decide (k<0) && testF g.cl (V++Jaq y.x) A k))=askL g.ts.length (fun k=>decide (k∈A)) from Jfz fun k _=>by simp];exact (hw.rowNil 3 1).perm (pmP [_,_,_,_,_,_,_] [2,0,4,1,3,5,6])) ?_
  refine WC.ic (fun (i:Nat) (ta:Option Addr) (tc:Nat)=>[(1,.int .i64 (leadI lead)),(2,yZ b2),(4,yZ b4),(7,yZ b7),(8,.map (some m29)),(9,.slice (some ⟨b33,0,none⟩) g.ts.length g.ts.length),(15,yZ b15),(110,.slice g.ta g.ts.length g.tc),(111,.int .i64 (g.ts.length:Int)),(112,.int .i64 (i:Int))])
    (fun i ta tc w'=>i≤g.ts.length∧Sat0 w (oQ b15 (jgC ⟨(pick1 g.cl lead jo V),ka,kc,nI (Jbx V y.x),ta,tc,(nI ((List.range i).filter (testF g.cl (V++Jaq y.x) A)))⟩) 141::rowI ta tc (nI ((List.range i).filter (testF g.cl (V++Jaq y.x) A)))::oQ b33 (askL g.ts.length (fun k=>decide (k∈A) || (decide (k<i) && testF g.cl (V++Jaq y.x) A k))) 3::own m29 (mapK iV (cntM (L++dedI (Jaq y.x))))::oQ b7 (pgC ⟨aa,ac,(nI (Jbp g.cl)),ja,jc,js⟩) 87::rowI ka kc (nI (Jbx V y.x))::rowI va vc (dedI (Jaq y.x))::rowI aa ac (nI (Jbp g.cl))::rowJ ja jc js::oQ b4 (pgC ⟨none,0,[],none,0,[]⟩) 87::oQ b2 (cgC g) 32::jnA js) w')
    (fun i _ _=>g.ts.length - i) 0 none 0 Y10 (fun w' hw=>⟨by omega,hw⟩) ?_
  intro i ta tc;refine WC.pure (fun hi=>?_);have hfl:=Je8 (testF g.cl (V++Jaq y.x) A) i;have hfn:(nI ((List.range i).filter (testF g.cl (V++Jaq y.x) A))).length=((List.range i).filter (testF g.cl (V++Jaq y.x) A)).length:=xE _;refine Csr (Zv (OV.cq rfl rfl) (Nn (Cs ?_)));refine Cc rfl (fun c113=>?_) (fun c113=>?_)
  ·refine Ck (Xn (Cs (Cb (Csr (Zm rfl ?_)))));obtain ⟨q3,t,hqt,htt,htmt,hct⟩:=hr.ts.get (i:=i) (by omega);refine Zv ((OV.ad (show _=some (Value.slice (some q3) g.ts.length g.tc) by rw [← hqt];rfl) rfl T.u30 T.z61 (by omega)).cast (u:=.pointer (some (q3.add (i*7)))) (by rw [xN])) (Zv (OV.ai (cs:=tsC t) rfl T.u61 rfl T.z61 (fun _ hw j v hj=>hw.keeps _ _ (hct j v hj))) (WL.alloc T.zr61 rfl ?_));intro b19;refine Za rfl (WL.ag (vs:=tsC t) rfl rfl rfl T.z61 rfl ?_);refine Nn (Csr (Zv (OV.lN (cs:=tsC t) rfl T.u61 rfl T.z61 yH) (Zm rfl ?_)))
   refine WL.c0 (v:=.tuple #[.bool (Jip (V++Jaq y.x) t),.bool (varB t.l || varB t.r)]) (vs:=[tsV t,.map (some m29)]) (fun w' hw'=>by
    have h9:=pready_calls t (L++dedI (Jaq y.x)) m29 w' (hw'.it (own m29 (mapK iV (cntM (L++dedI (Jaq y.x))))) (by simp));rw [readyB_congr hLV1] at h9;exact h9) ?_
   refine Zm rfl (Zv (OV.extract rfl rfl) (Zv (OV.extract rfl rfl) (Za rfl (Za rfl (Nn (Cs ?_))))));refine WC.ir [(1,.int .i64 (leadI lead)),(2,yZ b2),(4,yZ b4),(7,yZ b7),(8,.map (some m29)),(9,.slice (some ⟨b33,0,none⟩) g.ts.length g.ts.length),(15,yZ b15),(18,.int .i64 (i:Int)),(110,.slice g.ta g.ts.length g.tc),(111,.int .i64 (g.ts.length:Int)),(112,.int .i64 (i:Int)),(130,.bool (testF g.cl (V++Jaq y.x) A i))] (Sat0 w (oQ b19 (tsC t) 61::oQ b15 (jgC ⟨(pick1 g.cl lead jo V),ka,kc,nI (Jbx V y.x),ta,tc,(nI ((List.range i).filter (testF g.cl (V++Jaq y.x) A)))⟩) 141::rowI ta tc (nI ((List.range i).filter (testF g.cl (V++Jaq y.x) A)))::oQ b33 (askL g.ts.length (fun k=>decide (k∈A) || (decide (k<i) && testF g.cl (V++Jaq y.x) A k))) 3::own m29 (mapK iV (cntM (L++dedI (Jaq y.x))))::oQ b7 (pgC ⟨aa,ac,(nI (Jbp g.cl)),ja,jc,js⟩) 87::rowI ka kc (nI (Jbx V y.x))::rowI va vc (dedI (Jaq y.x))::rowI aa ac (nI (Jbp g.cl))::rowJ ja jc js::oQ b4 (pgC ⟨none,0,[],none,0,[]⟩) 87::oQ b2 (cgC g) 32::jnA js)) ?_ ?_
   ·refine Cr (Zm rfl (Zm rfl ?_));refine Zp (t:=124) rfl (fun g124=>?_) (fun g124=>?_)
    ·refine yY (Zm rfl (yY (Zm rfl (yY (Zv (OV.dp (i:=i) rfl rfl T.u51 T.z3 (by omega)) (yY ?_))))));refine WL.val (OV.ah (v:=.int .i64 (if decide (i∈A)=true then 1 else 0)) rfl T.u3 rfl (fun _ hw=>Jbn hw (show oQ b33 (askL g.ts.length (fun k=>decide (k∈A) || (decide (k<i) && testF g.cl (V++Jaq y.x) A k))) 3∈_ by simp) (by rw [List.getElem?_toArray,Jjv (by omega)];simp))) rfl ?_;refine yY (Zv (OV.eb rfl rfl) (Zv (OV.am rfl rfl) (Nl ?_)));have ek:testF g.cl (V++Jaq y.x) A i=decide ((if decide (i∈A)=true then (1:Int) else 0)=0):=by unfold testF;rw [Jnk htt,g124,Bool.true_and];by_cases h:i∈A <;> simp [h]
     exact WX.dz ⟨rfl,rfl,rfl,rfl,rfl,rfl,rfl,rfl,rfl,rfl,rfl,by rw [ek];rfl,trivial⟩ (fun w' hw=>hw)
    refine yX (yX (yX (yX (yX (Zv (OV.aj rfl rfl) (Nl ?_))))));have ek:testF g.cl (V++Jaq y.x) A i=false:=by unfold testF;rw [Jnk htt,g124];rfl
    exact WX.dz ⟨rfl,rfl,rfl,rfl,rfl,rfl,rfl,rfl,rfl,rfl,rfl,by rw [ek];rfl,trivial⟩ (fun w' hw=>hw)
   refine Cc rfl (fun c130=>?_) (fun c130=>?_)
   ·refine Csr (Zv (OV.f0 2 rfl T.u141 rfl) (Zv (OV.ah (v:=.slice ta (nI ((List.range i).filter (testF g.cl (V++Jaq y.x) A))).length tc) rfl T.u51 rfl (fun _ hw=>(Jax (hw.it _ yI) (o:=2) rfl).1)) (Zm rfl (WL.br T.u51 T.z3 T.zr3 rfl rfl rfl ?_))));intro b134;refine WL.focus (ow':=rowI ta tc (nI ((List.range i).filter (testF g.cl (V++Jaq y.x) A)))::oQ b134 [Value.int .i64 (i:Int)] 3::oQ b19 (tsC t) 61::oQ b15 (jgC ⟨(pick1 g.cl lead jo V),ka,kc,nI (Jbx V y.x),ta,tc,(nI ((List.range i).filter (testF g.cl (V++Jaq y.x) A)))⟩) 141::oQ b33 (askL g.ts.length (fun k=>decide (k∈A) || (decide (k<i) && testF g.cl (V++Jaq y.x) A k))) 3::own m29 (mapK iV (cntM (L++dedI (Jaq y.x))))::oQ b7 (pgC ⟨aa,ac,(nI (Jbp g.cl)),ja,jc,js⟩) 87::rowI ka kc (nI (Jbx V y.x))::rowI va vc (dedI (Jaq y.x))::rowI aa ac (nI (Jbp g.cl))::rowJ ja jc js::oQ b4 (pgC ⟨none,0,[],none,0,[]⟩) 87::oQ b2 (cgC g) 32::jnA js) (pmP [_,_,_,_] [3,0,1,2]) ?_;refine WL.append (news:=ints [(i:Int)]) rfl rfl T.apI (fun _ _=>Jeg yI rfl) (Jes [(i:Int)]) ⟨by omega,by unfold maxLen;omega⟩ rfl ?_;intro a135 c135;refine Zv (OV.f0 2 rfl T.u141 rfl) ?_;refine WL.focus perm3 (WL.bw (o:=2) rfl rfl rfl T.z51 (by show 2<3;omega) ?_);refine Nn ?_;have hnA:i∉A:=by have h9:=c130;unfold testF at h9;rw [yA,decide_eq_true_eq] at h9;exact h9.2
    refine Cr (Zm rfl (Zm rfl (Zv (OV.dp (i:=i) rfl rfl T.u51 T.z3 (by omega)) ?_)));refine WL.val (OV.ah (v:=.int .i64 0) rfl T.u3 rfl (fun _ hw=>Jbn hw (show oQ b33 (askL g.ts.length (fun k=>decide (k∈A) || (decide (k<i) && testF g.cl (V++Jaq y.x) A k))) 3∈_ by simp) (by rw [List.getElem?_toArray,Jjv (by omega)];simp [hnA]))) rfl ?_;refine Zv (OV.fp rfl rfl (by omega)) (Zv (OV.dp (i:=i) rfl rfl T.u51 T.z3 (by omega)) ?_);refine WL.focus perm4 (WL.bw (o:=i) rfl rfl rfl T.z3 (by rw [Jju];omega) ?_);refine Nl (Xb (Xn (Cr (Zv (OV.bm (j:=1) rfl rfl (by omega)) (Zm rfl (Nl ?_))))));have hal:(nI ((List.range (i+1)).filter (testF g.cl (V++Jaq y.x) A)))=(nI ((List.range i).filter (testF g.cl (V++Jaq y.x) A)))++[(i:Int)]:=by rw [Jfa,if_pos c130];simp
    have el:(nI ((List.range i).filter (testF g.cl (V++Jaq y.x) A))).length+1=((nI ((List.range i).filter (testF g.cl (V++Jaq y.x) A)))++[(i:Int)]).length:=by simp
    have ef:ints (nI ((List.range i).filter (testF g.cl (V++Jaq y.x) A)))++ints [(i:Int)]=ints ((nI ((List.range i).filter (testF g.cl (V++Jaq y.x) A)))++[(i:Int)]):=by simp [ints]
    have ea:(askL g.ts.length (fun k=>decide (k∈A) || (decide (k<i) && testF g.cl (V++Jaq y.x) A k))).set i (.int .i64 1)=askL g.ts.length (fun k=>decide (k∈A) || (decide (k<(i+1)) && testF g.cl (V++Jaq y.x) A k)):=askL_set (by omega) (fun k hk=>by
     by_cases h:k=i
     ·subst h;rw [c130];simp
     ·rw [xP h,Bool.or_false,show decide (k<i+1)=decide (k<i) from decide_eq_decide.2 (by omega)])
    exact WX.eo (i+1) a135 c135 Y10 (fun w' hw=>⟨by omega,by
     rw [el,ef,← hal] at hw;rw [← ea];exact hw.pik [[oQ b33 ((askL g.ts.length (fun k=>decide (k∈A) || (decide (k<i) && testF g.cl (V++Jaq y.x) A k))).set i (.int .i64 1)) 3],[oQ b15 (jgC ⟨(pick1 g.cl lead jo V),ka,kc,nI (Jbx V y.x),a135,c135,(nI ((List.range (i+1)).filter (testF g.cl (V++Jaq y.x) A)))⟩) 141],[rowI a135 c135 (nI ((List.range (i+1)).filter (testF g.cl (V++Jaq y.x) A)))],[oQ b134 [Value.int .i64 (i:Int)] 3],[oQ b19 (tsC t) 61],[own m29 (mapK iV (cntM (L++dedI (Jaq y.x))))],[oQ b7 (pgC ⟨aa,ac,(nI (Jbp g.cl)),ja,jc,js⟩) 87],[rowI ka kc (nI (Jbx V y.x))],[rowI va vc (dedI (Jaq y.x))],rowI aa ac (nI (Jbp g.cl))::rowJ ja jc js::oQ b4 (pgC ⟨none,0,[],none,0,[]⟩) 87::oQ b2 (cgC g) 32::jnA js] [1,2,0,5,6,7,8,9] 10⟩) (by show g.ts.length - (i+1)<g.ts.length - i;omega)
   refine Ck (Xb (Xn (Cr (Zv (OV.bm (j:=1) rfl rfl (by omega)) (Zm rfl (Nl ?_))))));have hF:testF g.cl (V++Jaq y.x) A i=false:=by simpa using c130
   have hal:(nI ((List.range (i+1)).filter (testF g.cl (V++Jaq y.x) A)))=(nI ((List.range i).filter (testF g.cl (V++Jaq y.x) A))):=by rw [Jfa,if_neg (by rw [hF];simp),xZ]
   have ea:askL g.ts.length (fun k=>decide (k∈A) || (decide (k<(i+1)) && testF g.cl (V++Jaq y.x) A k))=askL g.ts.length (fun k=>decide (k∈A) || (decide (k<i) && testF g.cl (V++Jaq y.x) A k)):=Jfz fun k hk=>by
    by_cases h:k=i
    ·subst h;rw [hF];simp
    ·rw [show decide (k<i+1)=decide (k<i) from decide_eq_decide.2 (by omega)]
   exact WX.eo (i+1) ta tc Y10 (fun w' hw=>⟨by omega,by
    rw [hal,ea];exact hw.drop⟩) (by show g.ts.length - (i+1)<g.ts.length - i;omega)
  refine Ce (Xe (Xe (Xh (Xn ?_))));have ets:(nI ((List.range i).filter (testF g.cl (V++Jaq y.x) A)))=nI (Jd9 g.cl (V++Jaq y.x) A):=by rw [show i=g.cl.ts.length by show i=g.ts.length;omega];rfl
  have eak:askL g.ts.length (fun k=>decide (k∈A) || (decide (k<i) && testF g.cl (V++Jaq y.x) A k))=askL g.ts.length (fun k=>decide (k∈A++Jd9 g.cl (V++Jaq y.x) A)):=Jfz fun k hk=>by
   have em:(k∈Jd9 g.cl (V++Jaq y.x) A)↔testF g.cl (V++Jaq y.x) A k=true:=(mem_rangeF (n:=g.ts.length)).trans (and_iff_right hk);have hki:decide (k<i)=true:=xO (by omega);rw [hki,Bool.true_and,Bool.eq_iff_iff,xR,decide_eq_true_eq,decide_eq_true_eq,xT,em]
  rw [ets,eak];refine Cr (Zv (OV.f0 1 rfl T.u87 rfl) (Zv (OV.l1 (v:=.slice ja js.length jc) rfl T.u85 rfl yL rfl) (Zv (OV.lN (cs:=jgC (⟨(pick1 g.cl lead jo V),ka,kc,nI (Jbx V y.x),ta,tc,nI (Jd9 g.cl (V++Jaq y.x) A)⟩:JG)) rfl T.u141 rfl T.z141 yH) (WL.bg (cs:=jgC (⟨(pick1 g.cl lead jo V),ka,kc,nI (Jbx V y.x),ta,tc,nI (Jd9 g.cl (V++Jaq y.x) A)⟩:JG)) T.u85 T.z141 T.zr141 rfl rfl (by omega) (by omega) rfl ?_))));intro b147;refine WL.focus (ow':=rowJ ja jc js::oQ b147 (jgC (⟨(pick1 g.cl lead jo V),ka,kc,nI (Jbx V y.x),ta,tc,nI (Jd9 g.cl (V++Jaq y.x) A)⟩:JG)) 141::oQ b15 (jgC ⟨(pick1 g.cl lead jo V),ka,kc,nI (Jbx V y.x),ta,tc,(nI (Jd9 g.cl (V++Jaq y.x) A))⟩) 141::rowI ta tc (nI (Jd9 g.cl (V++Jaq y.x) A))::oQ b33 (askL g.ts.length (fun k=>decide (k∈A++Jd9 g.cl (V++Jaq y.x) A))) 3::own m29 (mapK iV (cntM (L++dedI (Jaq y.x))))::oQ b7 (pgC ⟨aa,ac,(nI (Jbp g.cl)),ja,jc,js⟩) 87::rowI ka kc (nI (Jbx V y.x))::rowI va vc (dedI (Jaq y.x))::rowI aa ac (nI (Jbp g.cl))::oQ b4 (pgC ⟨none,0,[],none,0,[]⟩) 87::oQ b2 (cgC g) 32::jnA js) (pmP [_,_,_,_,_,_,_,_,_,_,_,_] [9,0,1,2,3,4,5,6,7,8,10,11]) ?_;refine WL.append (news:=jgC (⟨(pick1 g.cl lead jo V),ka,kc,nI (Jbx V y.x),ta,tc,nI (Jd9 g.cl (V++Jaq y.x) A)⟩:JG)) rfl rfl T.apJ (fun _ _=>Jcw yI rfl) (jgC_one _) ⟨by omega,by unfold maxLen;omega⟩ rfl ?_;intro a148 c148;refine Zv (OV.f0 1 rfl T.u87 rfl) ?_;refine WL.focus perm6 (WL.bw (o:=1) rfl rfl rfl T.z85 (by show 1<2;omega) ?_);refine Nl (Xb ?_);have el:js.length+1=(js++[(⟨(pick1 g.cl lead jo V),ka,kc,nI (Jbx V y.x),ta,tc,nI (Jd9 g.cl (V++Jaq y.x) A)⟩:JG)]).length:=by simp
  have ef:js.flatMap jgC++jgC (⟨(pick1 g.cl lead jo V),ka,kc,nI (Jbx V y.x),ta,tc,nI (Jd9 g.cl (V++Jaq y.x) A)⟩:JG)=(js++[(⟨(pick1 g.cl lead jo V),ka,kc,nI (Jbx V y.x),ta,tc,nI (Jd9 g.cl (V++Jaq y.x) A)⟩:JG)]).flatMap jgC:=by simp
  have hnk:g.bd.length - jo.length=(g.bd.length - (jo++[(pick1 g.cl lead jo V)]).length)+1:=by rw [xL,xQ];omega
  exact WX.mm (js++[(⟨(pick1 g.cl lead jo V),ka,kc,nI (Jbx V y.x),ta,tc,nI (Jd9 g.cl (V++Jaq y.x) A)⟩:JG)]) a148 c148 (L++dedI (Jaq y.x)) (jo++[(pick1 g.cl lead jo V)]) (V++Jaq y.x) (A++Jd9 g.cl (V++Jaq y.x) A) Y6 (fun w' hw=>⟨⟨by rw [xU,hjo];rfl,hLV1,by rw [xL,xL,xQ];omega,
   ⟨dn++[⟨(pick1 g.cl lead jo V),Jbx V y.x,Jd9 g.cl (V++Jaq y.x) A⟩],by
    rw [hdn,hnk,xF];congr 1;show (⟨(pick1 g.cl lead jo V),Jbx V (clA g.cl (pick1 g.cl lead jo V)),Jd9 g.cl (V++Jaq (clA g.cl (pick1 g.cl lead jo V))) A⟩::mkR g.cl lead _ _ (V++Jaq (clA g.cl (pick1 g.cl lead jo V))) (A++Jd9 g.cl (V++Jaq (clA g.cl (pick1 g.cl lead jo V))) A):List Jn)=_;rw [Jnl ht];rfl,by unfold jnEq at hjd ⊢;rw [xU,xU,hjd];rfl⟩,
   by rw [xL,xQ];omega,List.nodup_append.2 ⟨hnd,by simp,fun x hx z hz=>by simp only [xI] at hz;subst hz;rintro rfl;exact hanj hx⟩,fun k hk=>by
    rcases List.mem_append.1 hk with h | h
    ·exact hjb k h
    ·simp only [xI] at h;rw [h];exact hab⟩,by
   rw [el,ef] at hw;rw [jnA_snoc];refine Hw.Sat.pick [[oQ b7 (pgC ⟨aa,ac,(nI (Jbp g.cl)),a148,c148,js++[(⟨(pick1 g.cl lead jo V),ka,kc,nI (Jbx V y.x),ta,tc,nI (Jd9 g.cl (V++Jaq y.x) A)⟩:JG)]⟩) 87],[rowJ a148 c148 (js++[(⟨(pick1 g.cl lead jo V),ka,kc,nI (Jbx V y.x),ta,tc,nI (Jd9 g.cl (V++Jaq y.x) A)⟩:JG)])],[oQ b147 (jgC (⟨(pick1 g.cl lead jo V),ka,kc,nI (Jbx V y.x),ta,tc,nI (Jd9 g.cl (V++Jaq y.x) A)⟩:JG)) 141],[oQ b15 (jgC ⟨(pick1 g.cl lead jo V),ka,kc,nI (Jbx V y.x),ta,tc,(nI (Jd9 g.cl (V++Jaq y.x) A))⟩) 141],[rowI ta tc (nI (Jd9 g.cl (V++Jaq y.x) A))],[oQ b33 (askL g.ts.length (fun k=>decide (k∈A++Jd9 g.cl (V++Jaq y.x) A))) 3],[own m29 (mapK iV (cntM (L++dedI (Jaq y.x))))],[rowI ka kc (nI (Jbx V y.x))],[rowI va vc (dedI (Jaq y.x))],[rowI aa ac (nI (Jbp g.cl))],[oQ b4 (pgC ⟨none,0,[],none,0,[]⟩) 87],[oQ b2 (cgC g) 32],jnA js] [0,6,5,9,1,10,11,12,7,4] 13 rfl (by decide) (by decide) ?_;exact hw⟩) (by show g.bd.length - (js++[(⟨(pick1 g.cl lead jo V),ka,kc,nI (Jbx V y.x),ta,tc,nI (Jd9 g.cl (V++Jaq y.x) A)⟩:JG)]).length<g.bd.length - js.length;rw [xL,xQ];omega)
 refine Ce (Xe (Xe (Xh (Xn (Csr (Zv (OV.lN (cs:=pgC ⟨aa,ac,(nI (Jbp g.cl)),ja,jc,js⟩) rfl T.u87 rfl T.z87 yH) ?_))))));refine WL.focus perm5 (WL.ag (vs:=pgC ⟨aa,ac,(nI (Jbp g.cl)),ja,jc,js⟩) rfl rfl rfl T.z87 rfl ?_);refine Za rfl (Nn (WC.az ?_));have hjl:js.length=jo.length:=by rw [← hjo,xE]
 have hj9:g.bd.length - jo.length=0:=by omega
 rw [hj9] at hdn;have hdn2:makeP g.cl lead=dn:=by rw [hdn];exact xZ _
 refine WX.my (cs:=pgC ⟨aa,ac,(nI (Jbp g.cl)),ja,jc,js⟩) rfl rfl rfl rfl T.u87 rfl T.z87 (fun w' hw j v hj=>Jbh hw yH j v hj) (fun w' hw=>⟨⟨aa,ac,(nI (Jbp g.cl)),ja,jc,js⟩,rfl,⟨rfl,by rw [hdn2];exact hjd⟩,?_⟩);exact (hw.pik [[oQ b4 (pgC ⟨aa,ac,(nI (Jbp g.cl)),ja,jc,js⟩) 87],[oQ b7 (pgC ⟨aa,ac,(nI (Jbp g.cl)),ja,jc,js⟩) 87],[own m29 (mapK iV (cntM L))],[oQ b33 (askL g.ts.length (fun k=>decide (k∈A))) 3],[rowI aa ac (nI (Jbp g.cl))],[rowJ ja jc js],[oQ b2 (cgC g) 32],jnA js] [4,5,7] 8).turned0
end Go.Proofs.YtgebaodagaecmaaGreatDoor
namespace Go.Hw
set_option linter.unusedVariables false
set_option linter.unusedSimpArgs false
open Go Go.RowKit Go.Proofs Go.Shelf
theorem made_flat (zc:List Value)(m:Nat)(h0:0<zc.length):madeCells zc.toArray (m*zc.length)=((List.replicate m ()).flatMap fun _=>zc).toArray:=by
 apply Array.ext
 ·simp [madeCells,Jdf (enc:=fun _:Unit=>zc) (k:=zc.length) (fun _=>rfl)]
 ·intro i h1 h2;have hl:i<m*zc.length:=by simpa [madeCells] using h1
  have hi:i / zc.length<m:=Nat.div_lt_of_lt_mul (by rw [Nat.mul_comm];exact hl);have hj:i % zc.length<zc.length:=Nat.mod_lt _ h0;have e:=Jcu (enc:=fun _:Unit=>zc) (k:=zc.length) (fun _=>rfl) (List.replicate m ()) (i / zc.length) (i % zc.length) () (by rw [List.getElem?_replicate,if_pos hi]) hj;rw [Nat.div_add_mod'] at e;have e2:((List.replicate m ()).flatMap fun _=>zc)[i]?=some (zc[i % zc.length]'hj):=by rw [e,xD hj]
  have e3:=(List.getElem?_eq_some_iff.1 e2).2;simp only [madeCells,Array.getElem_ofFn,List.getElem_toArray];rw [e3];simp [hj]
theorem WL.ew {P:Program}{w0 ws:World}{M I:Nat→Prop}{ow:List Item}{ops:Array Oper}{Q:Post}{n:Nat}{ds:DS}{e:Env}{rest:List Oper}{t lt T:TypeId}{p:String}{af:Array Edge}{k m:Nat}{x y:Operand}{zc:List Value}{bytes:Nat} 
  (hx:ev e x=some (.int .i64 (m:Int))) (hy:ev e y=some (.int .i64 (m:Int))) (hu:P.underlying lt=some (.slice T)) (hz:P.sz T=some zc.length) (hzr:P.zr T=some zc.toArray) (h0:0<zc.length) (hb:(P.info? T).map (·.bytes)=some bytes) (hm:bytes*m≤281474976710656∧m≤9223372036854775807) (hk:Nat.blt k n=true)
  (h:∀ b,WL P ops Q n ds ((k,.slice (some ⟨b,0,none⟩) m m)::e) (Sat w0 M I ws (oQ b ((List.replicate m ()).flatMap fun _=>zc) T::ow)) rest) :
  WL P ops Q n ds e (Sat w0 M I ws ow) (⟨some k,.makeSlice lt x y,t,p,af,none⟩::rest):=by
 refine WL.i6 (ι:=Nat) (vv:=fun b=>.slice (some ⟨b,0,none⟩) m m) (SS:=fun b=>Sat w0 M I ws (oQ b ((List.replicate m ()).flatMap fun _=>zc) T::ow)) ?_ hk h;intro a w ha hw;unfold Program.sz at hz;unfold Program.zr at hzr;obtain ⟨i,hi,hsz⟩:=Option.map_eq_some_iff.1 hz;obtain ⟨i2,hi2,h2⟩:=Option.bind_eq_some_iff.1 hzr;obtain ⟨zv,hzv,hzc⟩:=Option.map_eq_some_iff.1 h2;obtain ⟨i3,hi3,hby⟩:=Option.map_eq_some_iff.1 hb;obtain rfl:=xH (hi.symm.trans hi2);obtain rfl:=xH (hi.symm.trans hi3)
 have hr:=run_make (P:=P) w lt T i zv hu hi hzv .i64 .i64 (m:Int) (m:Int) (by omega) (Int.le_refl _) (by
  have h':((bytes*m:Nat):Int)≤((281474976710656:Nat):Int):=Int.ofNat_le.2 hm.1;rw [Int.natCast_mul] at h';rw [hby];exact h') (by omega)
 have hmc:madeCells zv.cells ((m:Int).toNat*i.size)=((List.replicate m ()).flatMap fun _=>zc).toArray:=by
  rw [hzc,hsz,xN];exact made_flat zc m h0
 rw [hmc] at hr;refine ⟨w.heap.size,w.alloc (.cells ((List.replicate m ()).flatMap fun _=>zc).toArray T),?_,hw.fresh (Fr.alloc _ _) (Jdg _ _) (fun b hb=>by simp only [own] at hb;subst hb;simp)⟩;simp [execOp,ha.eval hx,ha.eval hy,hr]
theorem WL.fm {P:Program}{w0 ws:World}{M I:Nat→Prop}{ow:List Item}{ops:Array Oper}{Q:Post}{n:Nat}{ds:DS}{e:Env}{rest:List Oper}{t:TypeId}{p:String}{af:Array Edge}{k:Nat}{v:Value}{g:Operand}{f:FuncId}{caps:List Value}{xs:List Operand}{vs:List Value}{ats:Array TypeId}(hf:bodied P f=true)(hg:ev e g=some (.func (.func f) #[] caps.toArray))(hv:evs e xs=some vs)(hk:Nat.blt k n=true) 
  (hc:∀ w,Sat w0 M I ws ow w→Calls P f (vs++caps).toArray w fun en w'=>en=.returned v∧Fr0 w w')
  (h:WL P ops Q n ds ((k,v)::e) (Sat w0 M I ws ow) rest):WL P ops Q n ds e (Sat w0 M I ws ow) (⟨some k,.call ⟨.value g,xs.toArray,ats⟩,t,p,af,none⟩::rest):=
 WL.gx (ι:=Unit) (vv:=fun _=>v) (SS:=fun _=>Sat w0 M I ws ow) hf hg hv hk (fun w hw=>(hc w hw).mono (fun _ _ ⟨h1,h2⟩=>⟨(),h1,hw.keep h2⟩)) (fun _=>h)
variable {P:Program} {ρ:Ren} {w:World} {T:TypeId} {b c:Nat}
theorem sortFunc0_calls (L:SlLaysF.n6 P ρ){α:Type}(enc:α→Value)(h1:∀ x,(enc x).oneCell'=true)(cf:α→α→Int)(hO:Go.Sort.SWO (ltOf cf))(g:Nat)(hg:bodied P g=true)(a:Option Addr)(xs:List α)(w:World) 
  (hA:Holds [row T 1 a xs.length c (xs.map enc)] w) (hcmp:∀ q,a=some q→∀ w',Fr (fun i=>i=q.block) w w'→∀ x y,Calls P g #[enc x,enc y] w' fun e w''=>e=.returned (.int .i64 (cf x y))∧Fr0 w' w'') (hsz:xs.length<4611686018427387904) :
  Calls P (ρ.f 6) #[.slice a xs.length c,.func (.func g) #[] #[]] w fun e w'=>e=.returned (.tuple #[])∧∃ ys:List α,ys.Perm xs∧ys.Pairwise (fun x y=>ltOf cf y x=false) ∧
   Turns [row T 1 a xs.length c (xs.map enc)] [row T 1 a ys.length c (ys.map enc)] w w':=by
 cases xs with
 | nil=>
  refine (AnyF.slices_SortFunc_none (P:=P) (ρ:=ρ) { L with } a c (.func (.func g) #[] #[]) w).mono ?_;rintro e w' ⟨rfl,rfl⟩;exact ⟨rfl,[],List.Perm.refl _,List.Pairwise.nil,Turns.refl hA⟩
 | cons x0 xs=>
  haveI:Inhabited α:=⟨x0⟩
  have hφ:=hA.φ _ yH
  have hbase:∃ b,a=some ⟨b,0,none⟩:=by
   have h2:w.ownsRow 0 T 1 (.slice a (x0::xs).length c) (x0::xs).length ((x0::xs).map enc):=hφ;rcases h2.2 with ⟨hv,h0⟩ | ⟨g,cc,cur,hv,_⟩
   ·simp at h0
   ·simp only [Value.slice.injEq] at hv;exact ⟨g,hv.1⟩
  obtain ⟨b,rfl⟩:=hbase;have hlt:b<w.heap.size:=hA.lt _ yH b ⟨_,rfl,rfl⟩
  have hcon:=Any.slices_SortFunc L enc h1 cf hO g #[] b 0 c (x0::xs).toArray w (fun args w=>Jd6 hg args w)
   (fun m os dk hs x y=>(hcmp _ rfl _ Joi x y).mono fun e w' ⟨he,hw⟩=>⟨he,Fr.grown hw⟩) (Jlz hφ) hlt (by simpa using hsz)
  have e0:(x0::xs).toArray.size=(x0::xs).length:=by simp
  rw [e0] at hcon;refine hcon.mono ?_;rintro e w' ⟨rfl,d',n,os,hp,hs,rfl⟩;obtain ⟨hp1,hp2⟩:=Jig (d:=(x0::xs).toArray) (by rw [e0];exact hp);exact ⟨rfl,d'.toList,by simpa using hp1,Jd1 (by rw [hp2,e0]) hs,Jkk hA (by rw [hp2,e0])⟩
end Go.Hw
namespace Go.Proofs
set_option linter.unusedSimpArgs false
set_option linter.unusedVariables false
open Go Go.Shelf
set_option maxRecDepth 100000
def Tryz.sortR_ren:Go.Shelf.Ren:=⟨fun | 6=>42 | 15=>91 | 14=>90 | 28=>128 | 29=>129 | 20=>120 | 21=>121 | 22=>122 | 23=>123 | 24=>124 | 25=>125 | 26=>126 | 27=>127 | 46=>159 | 47=>160 | 48=>161 | 49=>162 | 50=>163 | 57=>174 | n=>n,fun | 22=>39 | 24=>27 | 25=>95 | 3=>3 | 39=>151 | 0=>0 | 53=>163 | 55=>205 | 4=>4 | 46=>198 | 45=>197 | 50=>179 | 5=>5 | 9=>9 | 66=>235 | 70=>239 | 76=>247 | 77=>248 | n=>n,fun | n=>n⟩
theorem Tryz.sortR:Go.Proofs.SlLaysF.n6 Tryz.prog Tryz.sortR_ren:={
 mixed:=by kernel_rfl
 f6:=⟨Tryz.f42.name,by decide,Tryz.func42.trans (congrArg some (by kernel_rfl))⟩
 f14:=⟨Tryz.f90.name,by decide,Tryz.func90.trans (congrArg some (by kernel_rfl))⟩
 f15:=Tryz.func91.trans (congrArg some (by kernel_rfl))
 f20:=⟨Tryz.f120.name,by decide,Tryz.func120.trans (congrArg some (by kernel_rfl))⟩
 f21:=⟨Tryz.f121.name,by decide,Tryz.func121.trans (congrArg some (by kernel_rfl))⟩
 f22:=⟨Tryz.f122.name,by decide,Tryz.func122.trans (congrArg some (by kernel_rfl))⟩
 f23:=⟨Tryz.f123.name,by decide,Tryz.func123.trans (congrArg some (by kernel_rfl))⟩
 f24:=⟨Tryz.f124.name,by decide,Tryz.func124.trans (congrArg some (by kernel_rfl))⟩
 f25:=⟨Tryz.f125.name,by decide,Tryz.func125.trans (congrArg some (by kernel_rfl))⟩
 f26:=⟨Tryz.f126.name,by decide,Tryz.func126.trans (congrArg some (by kernel_rfl))⟩
 f27:=⟨Tryz.f127.name,by decide,Tryz.func127.trans (congrArg some (by kernel_rfl))⟩
 f28:=Tryz.func128.trans (congrArg some (by kernel_rfl))
 f29:=Tryz.func129.trans (congrArg some (by kernel_rfl))
 f46:=⟨Tryz.f159.name,by decide,Tryz.func159.trans (congrArg some (by kernel_rfl))⟩
 f47:=Tryz.func160.trans (congrArg some (by kernel_rfl))
 f48:=Tryz.func161.trans (congrArg some (by kernel_rfl))
 f49:=⟨Tryz.f162.name,by decide,Tryz.func162.trans (congrArg some (by kernel_rfl))⟩
 f50:=⟨Tryz.f163.name,by decide,Tryz.func163.trans (congrArg some (by kernel_rfl))⟩
 f57:=⟨Tryz.f174.name,by decide,Tryz.func174.trans (congrArg some (by kernel_rfl))⟩
 t0:=Tryz.underlying0
 a0:=Tryz.isAgg0
 z0:=Tryz.sizeOf0
 v0:=Tryz.zeroValue0
 t3:=Tryz.underlying3
 a3:=Tryz.isAgg3
 z3:=Tryz.sizeOf3
 v3:=Tryz.zeroValue3
 t4:=Tryz.underlying4
 a4:=Tryz.isAgg4
 z4:=Tryz.sizeOf4
 v4:=Tryz.zeroValue4
 t5:=Tryz.underlying5
 a5:=Tryz.isAgg5
 z5:=Tryz.sizeOf5
 v5:=Tryz.zeroValue5
 t9:=Tryz.underlying9
 a9:=Tryz.isAgg9
 z9:=Tryz.sizeOf9
 v9:=Tryz.zeroValue9
 t22:=Tryz.underlying39
 a22:=Tryz.isAgg39
 z22:=Tryz.sizeOf39
 v22:=Tryz.zeroValue39
 a24:=Tryz.isAgg27
 z24:=Tryz.sizeOf27
 t25:=Tryz.underlying95
 a25:=Tryz.isAgg95
 z25:=Tryz.sizeOf95
 v25:=Tryz.zeroValue95
 t39:=Tryz.underlying151
 a39:=Tryz.isAgg151
 z39:=Tryz.sizeOf151
 v39:=Tryz.zeroValue151
 t45:=Tryz.underlying197
 a45:=Tryz.isAgg197
 z45:=Tryz.sizeOf197
 v45:=Tryz.zeroValue197
 t46:=Tryz.underlying198
 a46:=Tryz.isAgg198
 z46:=Tryz.sizeOf198
 v46:=Tryz.zeroValue198
 t50:=Tryz.underlying179
 a50:=Tryz.isAgg179
 z50:=Tryz.sizeOf179
 v50:=Tryz.zeroValue179
 t53:=Tryz.underlying163
 a53:=Tryz.isAgg163
 z53:=Tryz.sizeOf163
 v53:=Tryz.zeroValue163
 t55:=Tryz.underlying205
 a55:=Tryz.isAgg205
 z55:=Tryz.sizeOf205
 v55:=Tryz.zeroValue205
 t66:=Tryz.underlying235
 a66:=Tryz.isAgg235
 z66:=Tryz.sizeOf235
 v66:=Tryz.zeroValue235
 t70:=Tryz.underlying239
 a70:=Tryz.isAgg239
 z70:=Tryz.sizeOf239
 v70:=Tryz.zeroValue239
 t76:=Tryz.underlying247
 a76:=Tryz.isAgg247
 z76:=Tryz.sizeOf247
 v76:=Tryz.zeroValue247
 t77:=Tryz.underlying248
 a77:=Tryz.isAgg248
 z77:=Tryz.sizeOf248
 v77:=Tryz.zeroValue248 }
end Go.Proofs
set_option maxRecDepth 10000
namespace Go.Proofs.YtgebaodagaecmaaGreatDoor
open Go Go.Hw
set_option linter.unusedSimpArgs false
set_option linter.unusedVariables false
structure TG where
 l:List Tm
 a:Option Addr
 c:Nat
def tgV (y:TG):Value:=.slice y.a y.l.length y.c
abbrev tgA (y:TG):Hw.Item:=rowT y.a y.c y.l
abbrev rowR (a:Option Addr)(c:Nat)(ys:List TG):Hw.Item:=row 27 1 a ys.length c (ys.map tgV)
theorem order_calls (ls ms:List Tm)(a1 a2:Option Addr)(c1 c2:Nat)(h1:ls.length≤1099511627776)(h2:ms.length≤1099511627776)(w:World)(hr1:RT w a1 ls)(hr2:RT w a2 ms):Calls Tryz.prog 43 #[.slice a1 ls.length c1,.slice a2 ms.length c2] w fun e w'=>e=.returned (.int .i64 (Jb0 cmpT ls ms))∧Fr0 w w':=by
 refine Jbo (args:=[.slice a1 ls.length c1,.slice a2 ms.length c2]) (fun _=>False) Tryz.func43 rfl Tryz.ntmps43 rfl rfl ?_;refine Csr (Za rfl (Nn (Csr (Zm rfl (Zm rfl (WL.c0 (v:=.int .i64 (Jb0 cmpT ls ms)) (vs:=[.slice a1 ls.length c1,.slice a2 ms.length c2,.func (.func 57) #[] #[]]) (fun w' hw'=>cmpF_calls ls ms a1 a2 c1 c2 h1 h2 w' (hr1.keeps hw'.keeps) (hr2.keeps hw'.keeps)) ?_))))));refine Za rfl (Nn (WC.az ?_));exact WX.ret1 rfl rfl rfl (fun w' hw=>⟨rfl,hw.fr⟩)
theorem solveE_calls (ls ms:List Tm)(a1 a2:Option Addr)(c1 c2:Nat)(h1:ls.length≤1099511627776)(h2:ms.length≤1099511627776)(w:World)(hr1:RT w a1 ls)(hr2:RT w a2 ms):Calls Tryz.prog 45 #[.slice a1 ls.length c1,.slice a2 ms.length c2] w fun e w'=>e=.returned (.bool (decide (Jb0 cmpT ls ms=0)))∧Fr0 w w':=by
 refine Jbo (args:=[.slice a1 ls.length c1,.slice a2 ms.length c2]) (fun _=>False) Tryz.func45 rfl Tryz.ntmps45 rfl rfl ?_;refine Csr (Za rfl (Nn (Csr (Zm rfl (Zm rfl (WL.au (v:=.int .i64 (Jb0 cmpT ls ms)) (by kernel_rfl) rfl rfl (fun w' hw'=>order_calls ls ms a1 a2 c1 c2 h1 h2 w' (hr1.keeps hw'.keeps) (hr2.keeps hw'.keeps)) ?_))))));refine Zv (OV.eb rfl rfl) (Za rfl (Nn (WC.az ?_)));exact WX.ret1 rfl rfl rfl (fun w' hw=>⟨rfl,hw.fr⟩)
theorem compR1_calls (a:Option Addr)(n c:Nat)(f:Value)(hn:n<2)(w:World):Calls Tryz.prog 44 #[.slice a n c,f] w fun e w'=>e=.returned (.slice a n c)∧Fr0 w w':=by
 refine Jbo (args:=[.slice a n c,f]) (fun _=>False) Tryz.func44 rfl Tryz.ntmps44 rfl rfl ?_;refine Csr (Za rfl (Nn (Cs (Csr (Zm rfl (Zv (OV.ae rfl T.u39) (Zv ((OV.cq rfl rfl).cast (u:=.bool true) (by rw [xO (by omega)])) (Nn (WC.co (show _=some (Value.bool true) from by rfl) ?_)))))))));refine Csr (Zm rfl (Za rfl (Nn (WC.az ?_))));refine Xr ?_;exact WX.ret1 rfl rfl rfl (fun w' hw=>⟨rfl,hw.fr⟩)
theorem compA1_calls (a:Option Addr)(n c:Nat)(f:Value)(hn:n<2)(w:World):Calls Tryz.prog 59 #[.slice a n c,f] w fun e w'=>e=.returned (.slice a n c)∧Fr0 w w':=by
 refine Jbo (args:=[.slice a n c,f]) (fun _=>False) Tryz.func59 rfl Tryz.ntmps59 rfl rfl ?_;refine Csr (Za rfl (Nn (Cs (Csr (Zm rfl (Zv (OV.ae rfl T.u22) (Zv ((OV.cq rfl rfl).cast (u:=.bool true) (by rw [xO (by omega)])) (Nn (WC.co (show _=some (Value.bool true) from by rfl) ?_)))))))));refine Csr (Zm rfl (Za rfl (Nn (WC.az ?_))));refine Xr ?_;exact WX.ret1 rfl rfl rfl (fun w' hw=>⟨rfl,hw.fr⟩)
theorem var_pos {t:Tm}(h:varB t=true):0≤t.n:=by
 unfold varB at h;simp only [yA,decide_eq_true_eq] at h;omega
structure TurnOK (f:Tm→Tm) (g:Nat) (caps:List Value) (w0:World):Prop where
 bod:bodied Tryz.prog g=true
 run:∀ t w1,Keeps w0 w1→Calls Tryz.prog g ([tmV t]++caps).toArray w1 fun e w2=>e=.returned (tmV (f t))∧Fr0 w1 w2
def zT (n:Nat):List Tm:=List.replicate n T0
theorem Jke (n:Nat):((List.replicate n ()).flatMap fun _=>tmC T0)=(zT n).flatMap tmC:=by
 unfold zT
 induction n with
 | zero=>rfl
 | succ n ih=>rw [List.replicate_succ,List.replicate_succ,List.flatMap_cons,List.flatMap_cons,ih]
theorem fill_get {f:Tm→Tm}{l:List Tm}{i:Nat}:((l.take i).map f++zT (l.length - i)).length=(l.take i).length+(l.length - i):=by simp [zT]
theorem fill_len (f:Tm→Tm)(l:List Tm){i:Nat}(h:i≤l.length):((l.take i).map f++zT (l.length - i)).length=l.length:=by
 rw [fill_get,xJ];omega
theorem fill_set {f:Tm→Tm}{l:List Tm}{i:Nat}{t:Tm}(h:l[i]?=some t):((l.take i).map f++zT (l.length - i)).set i (f t)=(l.take (i+1)).map f++zT (l.length - (i+1)):=by
 have hl:=(List.getElem?_eq_some_iff.1 h).1;rw [List.set_append_right _ _ (by rw [xE,xJ];omega),xE,xJ,show i - min i l.length=0 by omega,show l.length - i=(l.length - (i+1))+1 by omega];unfold zT;rw [List.replicate_succ,List.set_cons_zero,Jb3 h,xU,xF];rfl
theorem fill_flat_len (f:Tm→Tm)(l:List Tm){i:Nat}(h:i≤l.length):(((l.take i).map f++zT (l.length - i)).flatMap tmC).length=l.length*3:=by
 rw [Jdf Jc0,fill_len f l h]
theorem inst1_calls (vs:List Tm)(va:Option Addr)(vc:Nat)(t:Tm)(q:Nat)(hvl:vs.length≤1099511627776)(w:World)(hq:w.cell? ⟨q,0,none⟩=some (.slice va vs.length vc))(hr:RT w va vs):Calls Tryz.prog 62 #[tmV t,ptr q] w fun e w'=>e=.returned (tmV (instT vs t))∧Fr0 w w':=by
 refine Jbo (args:=[tmV t,ptr q]) (fun _=>False) Tryz.func62 rfl Tryz.ntmps62 rfl rfl ?_;refine Csr (WL.box rfl rfl rfl ?_);intro b2;refine WL.alloc T.zr26 rfl ?_;intro b3;refine Nn (Cs (Csr (Zv (OV.lN (cs:=tmC t) rfl T.u26 rfl T.z26 yI) (WL.au (v:=.bool (varB t)) (by kernel_rfl) rfl rfl (fun w' hw'=>Jcs t w') ?_))));refine Zm rfl ?_;refine Zp (t:=6) rfl (fun g6=>?_) (fun g6=>?_)
 ·refine yY (Zv (OV.f0 1 rfl T.u26 rfl) (yY (Zv (OV.l1 (v:=.int .i64 t.n) rfl T.u3 rfl yI rfl) (yY (Zv (OV.ah (v:=.slice va vs.length vc) rfl T.u27 rfl (fun _ hw=>hw.keeps _ _ hq)) (yY (Zv (OV.ae rfl T.u27) (yY (Zv (OV.cq rfl rfl) (Zv (OV.am rfl rfl) (Nn ?_)))))))))));refine Cc rfl (fun c12=>?_) (fun c12=>?_)
  ·refine Csr (Zv (OV.ah (v:=.slice va vs.length vc) rfl T.u27 rfl (fun _ hw=>hw.keeps _ _ hq)) (Zv (OV.f0 1 rfl T.u26 rfl) (Zv (OV.l1 (v:=.int .i64 t.n) rfl T.u3 rfl yI rfl) ?_)));have h0:0≤t.n:=var_pos g6;obtain ⟨q1,u,hq1,hu,hum,_,hc⟩:=hr.get (i:=t.n.toNat) (by omega);refine Zv ((OV.ad (show _=some (Value.slice (some q1) vs.length vc) by rw [← hq1];rfl) rfl T.u27 T.z26 (by omega)).cast (u:=.pointer (some (q1.add (t.n.toNat*3)))) rfl) (Zv (OV.ai (cs:=tmC u) rfl T.u26 rfl T.z26 (fun _ hw j v hj=>hw.keeps _ _ (hc j v hj))) ?_);refine WL.ag (vs:=tmC (instT vs t)) rfl (by rw [show instT vs t=u by unfold instT;rw [if_pos ⟨g6,by omega⟩,yF,hu];rfl];rfl) rfl T.z26 rfl ?_;refine Nn (WC.az ?_);refine Xr ?_;exact WX.retC (cs:=tmC (instT vs t)) rfl rfl rfl T.u26 rfl T.z26 (fun w' hw j v hj=>Jbh hw yH j v hj) (fun w' hw=>⟨rfl,hw.fr⟩)
  refine Ck (Xn (Csr (Zv (OV.lN (cs:=tmC t) rfl T.u26 rfl T.z26 yI) (WL.ag (vs:=tmC (instT vs t)) rfl (by rw [show instT vs t=t by unfold instT;rw [if_neg (fun h=>c12 (by have:=h.2;have:=var_pos g6;omega))]];rfl) rfl T.z26 rfl ?_))));refine Nn (WC.az ?_);exact WX.retC (cs:=tmC (instT vs t)) rfl rfl rfl T.u26 rfl T.z26 (fun w' hw j v hj=>Jbh hw yH j v hj) (fun w' hw=>⟨rfl,hw.fr⟩)
 refine yX (yX (yX (yX (yX (Zv (OV.aj rfl rfl) (Nn (WC.bu (show _=some (Value.bool false) from by rfl) ?_)))))));refine Ck (Xn (Csr (Zv (OV.lN (cs:=tmC t) rfl T.u26 rfl T.z26 yI) (WL.ag (vs:=tmC (instT vs t)) rfl (by rw [show instT vs t=t by unfold instT;rw [if_neg (fun h=>by rw [h.1] at g6;cases g6)]];rfl) rfl T.z26 rfl ?_))));refine Nn (WC.az ?_);exact WX.retC (cs:=tmC (instT vs t)) rfl rfl rfl T.u26 rfl T.z26 (fun w' hw j v hj=>Jbh hw yH j v hj) (fun w' hw=>⟨rfl,hw.fr⟩)
theorem replaced_calls (f:Tm→Tm)(g:Nat)(caps:List Value)(x:At)(a:Option Addr)(c:Nat)(hl:x.args.length≤1048576)(w:World)(hT:TurnOK f g caps w)(hr:RT w a x.args):Calls Tryz.prog 101 #[atV x a c,.func (.func g) #[] caps.toArray] w fun e w'=>∃ z:Option Addr × Nat,e=.returned (atV (mapA f x) z.1 z.2)∧Turns [] [rowT z.1 z.2 (mapA f x).args] w w':=by
 refine Jbo (args:=[atV x a c,.func (.func g) #[] caps.toArray]) (fun _=>False) Tryz.func101 rfl Tryz.ntmps101 rfl rfl ?_;refine Csr (WL.box rfl rfl rfl ?_);intro b2;refine WL.alloc T.zr29 rfl ?_;intro b4;refine Nn (Cs ?_);refine WC.lh (fun (z:Nat × Nat)=>[(1,.func (.func g) #[] caps.toArray),(2,yZ b2),(4,yZ b4),(5,yZ z.1)]) (fun (z:Nat × Nat)=>Sat0 w (oQ z.1 ([.int .i64 (f x.b).kind,.int .i64 (f x.b).n,.string (f x.b).s,.string x.name,.slice (some ⟨z.2,0,none⟩) x.args.length x.args.length]:List Value) 29::row 26 3 (some ⟨z.2,0,none⟩) x.args.length x.args.length ((zT x.args.length).flatMap tmC)::oQ b4 (atC ⟨T0,E0,[]⟩ none 0) 29::oQ b2 (atC x a c) 29::[])) ?_ ?_
 ·refine Hd (fun w'=>w'.heap[b2]?=some (.cells (atC x a c).toArray 29 (0,0))) [12] (fun _ hw=>hw.it (oQ b2 (atC x a c) 29) (by simp)) (m:=13) rfl ?_;refine Hf 0 rfl (OV.aw rfl) (Hf 1 rfl (OV.f0 0 rfl T.u29 rfl) (Ht 2 rfl (OV.ai (cs:=tmC x.b) rfl T.u26 rfl T.z26 (fun _ hw j v hj=>by rw [Jap];exact Jch hw (o:=0) (cs':=tmC x.b) rfl j v hj)) (Hf 4 rfl (OV.f0 3 rfl T.u29 rfl) (Ht 5 rfl (OV.ah (v:=.string x.name) rfl T.u9 rfl (fun _ hw=>(Jax hw (o:=3) rfl).1)) (Hf 6 rfl (OV.f0 4 rfl T.u29 rfl) (Ht 7 rfl (OV.ah (v:=.slice a x.args.length c) rfl T.u27 rfl (fun _ hw=>(Jax hw (o:=4) rfl).1)) (Hf 8 rfl (OV.ae rfl T.u27) ?_)))))));refine Hr (WH.three 3 9 11 rfl rfl rfl (by kernel_rfl) (listed1:=[true,true,true,true,true,true,true,true,true,false,false,false,false]) rfl (listed2:=[true,true,true,false,true,true,true,true,true,true,false,false,false]) rfl (listed3:=[true,true,true,false,true,true,true,true,true,false,false,true,false]) rfl (fl1:=false) rfl (fl2:=false) rfl (fl3:=false) rfl ?_ ?_ ?_)
  ·refine WL.fm (f:=g) (caps:=caps) (vs:=[tmV x.b]) (v:=tmV (f x.b)) hT.bod rfl rfl rfl (fun w' hw'=>hT.run x.b w' hw'.keeps) ?_;refine Hc (fun _=>(fun _ hw=>hw.it (oQ b2 (atC x a c) 29) (by simp))) ?_;refine Hr (WH.two 9 11 rfl rfl (by kernel_rfl) (listed1:=[true,true,true,true,true,true,true,true,true,true,false,false,false]) rfl (listed2:=[true,true,true,true,true,true,true,true,true,false,false,true,false]) rfl (fl1:=false) rfl (fl2:=false) rfl ?_ ?_)
   ·refine WL.ew (bytes:=32) (zc:=tmC T0) rfl rfl T.u27 T.z26 T.zr26 (by decide) (by kernel_rfl) ⟨by omega,by omega⟩ rfl ?_;intro b17;refine Hc (fun _=>(fun _ hw=>hw.it (oQ b2 (atC x a c) 29) (by simp))) ?_;refine Hf 10 rfl (OV.ao (xs:=[(0,.tmp 11),(1,.tmp 13),(2,.tmp 17)]) (pl:=[(0,3),(3,1),(4,1)]) (cs:=[.int .i64 (f x.b).kind,.int .i64 (f x.b).n,.string (f x.b).s,.string x.name,.slice (some ⟨b17,0,none⟩) x.args.length x.args.length]) T.u29 T.zr29 (by kernel_rfl) rfl (Jal (us:=tmC (f x.b)) rfl rfl yW (Jal (us:=[_]) rfl rfl yW (Jal (us:=[_]) rfl rfl yW rfl)))) (Ho 11 rfl (fl':=false) rfl ?_);refine WL.alloc T.zr29 rfl ?_;intro b5;refine Hc (fun _=>(fun _ hw=>hw.it (oQ b2 (atC x a c) 29) (by simp))) ?_;refine Ho 12 rfl (fl':=true) rfl ?_
    first | (refine WL.ag (vs:=[.int .i64 (f x.b).kind,.int .i64 (f x.b).n,.string (f x.b).s,.string x.name,.slice (some ⟨b17,0,none⟩) x.args.length x.args.length]) rfl rfl rfl T.z29 rfl ?_) | (refine WL.focus perm1 (WL.ag (vs:=[.int .i64 (f x.b).kind,.int .i64 (f x.b).n,.string (f x.b).s,.string x.name,.slice (some ⟨b17,0,none⟩) x.args.length x.args.length]) rfl rfl rfl T.z29 rfl ?_))
    refine Hc (fun h=>by cases h) ?_;refine He ?_
    exact WX.e5 (b5,b17) Y4 (fun w' hw=>by
     rw [Jke] at hw;exact ((hw.perm (ow':=oQ b17 ((zT x.args.length).flatMap tmC) 26::oQ b5 ([.int .i64 (f x.b).kind,.int .i64 (f x.b).n,.string (f x.b).s,.string x.name,.slice (some ⟨b17,0,none⟩) x.args.length x.args.length]:List Value) 29::oQ b4 (atC ⟨T0,E0,[]⟩ none 0) 29::oQ b2 (atC x a c) 29::[]) (pmP [_,_,_,_] [1,0,2,3])).asRow (m:=x.args.length) (k:=3) (by rw [Jdf Jc0];simp [zT]) (by unfold maxLen;omega)).perm (pmP [_,_,_,_] [1,0,2,3]))
   refine WL.alloc T.zr29 rfl ?_;intro b5;refine Hc (fun _=>(fun _ hw=>hw.it (oQ b2 (atC x a c) 29) (by simp))) ?_;refine Ho 9 rfl (fl':=false) rfl ?_;refine WL.ew (bytes:=32) (zc:=tmC T0) rfl rfl T.u27 T.z26 T.zr26 (by decide) (by kernel_rfl) ⟨by omega,by omega⟩ rfl ?_;intro b17;refine Hc (fun _=>(fun _ hw=>hw.it (oQ b2 (atC x a c) 29) (by simp))) ?_;refine Hf 10 rfl (OV.ao (xs:=[(0,.tmp 11),(1,.tmp 13),(2,.tmp 17)]) (pl:=[(0,3),(3,1),(4,1)]) (cs:=[.int .i64 (f x.b).kind,.int .i64 (f x.b).n,.string (f x.b).s,.string x.name,.slice (some ⟨b17,0,none⟩) x.args.length x.args.length]) T.u29 T.zr29 (by kernel_rfl) rfl (Jal (us:=tmC (f x.b)) rfl rfl yW (Jal (us:=[_]) rfl rfl yW (Jal (us:=[_]) rfl rfl yW rfl)))) (Ho 12 rfl (fl':=true) rfl ?_)
   first | (refine WL.ag (vs:=[.int .i64 (f x.b).kind,.int .i64 (f x.b).n,.string (f x.b).s,.string x.name,.slice (some ⟨b17,0,none⟩) x.args.length x.args.length]) rfl rfl rfl T.z29 rfl ?_) | (refine WL.focus perm1 (WL.ag (vs:=[.int .i64 (f x.b).kind,.int .i64 (f x.b).n,.string (f x.b).s,.string x.name,.slice (some ⟨b17,0,none⟩) x.args.length x.args.length]) rfl rfl rfl T.z29 rfl ?_))
   refine Hc (fun h=>by cases h) ?_;refine He ?_
   exact WX.e5 (b5,b17) Y4 (fun w' hw=>by
    rw [Jke] at hw;exact ((hw.perm (ow':=oQ b17 ((zT x.args.length).flatMap tmC) 26::oQ b5 ([.int .i64 (f x.b).kind,.int .i64 (f x.b).n,.string (f x.b).s,.string x.name,.slice (some ⟨b17,0,none⟩) x.args.length x.args.length]:List Value) 29::oQ b4 (atC ⟨T0,E0,[]⟩ none 0) 29::oQ b2 (atC x a c) 29::[]) (pmP [_,_,_,_] [1,0,2,3])).asRow (m:=x.args.length) (k:=3) (by rw [Jdf Jc0];simp [zT]) (by unfold maxLen;omega)).perm (pmP [_,_,_,_] [1,0,2,3]))
  ·refine WL.ew (bytes:=32) (zc:=tmC T0) rfl rfl T.u27 T.z26 T.zr26 (by decide) (by kernel_rfl) ⟨by omega,by omega⟩ rfl ?_;intro b17;refine Hc (fun _=>(fun _ hw=>hw.it (oQ b2 (atC x a c) 29) (by simp))) ?_;refine Hr (WH.two 3 11 rfl rfl (by kernel_rfl) (listed1:=[true,true,true,true,true,true,true,true,true,true,false,false,false]) rfl (listed2:=[true,true,true,false,true,true,true,true,true,true,false,true,false]) rfl (fl1:=false) rfl (fl2:=false) rfl ?_ ?_)
   ·refine WL.fm (f:=g) (caps:=caps) (vs:=[tmV x.b]) (v:=tmV (f x.b)) hT.bod rfl rfl rfl (fun w' hw'=>hT.run x.b w' hw'.keeps) ?_;refine Hc (fun _=>(fun _ hw=>hw.it (oQ b2 (atC x a c) 29) (by simp))) ?_;refine Hf 10 rfl (OV.ao (xs:=[(0,.tmp 11),(1,.tmp 13),(2,.tmp 17)]) (pl:=[(0,3),(3,1),(4,1)]) (cs:=[.int .i64 (f x.b).kind,.int .i64 (f x.b).n,.string (f x.b).s,.string x.name,.slice (some ⟨b17,0,none⟩) x.args.length x.args.length]) T.u29 T.zr29 (by kernel_rfl) rfl (Jal (us:=tmC (f x.b)) rfl rfl yW (Jal (us:=[_]) rfl rfl yW (Jal (us:=[_]) rfl rfl yW rfl)))) (Ho 11 rfl (fl':=false) rfl ?_);refine WL.alloc T.zr29 rfl ?_;intro b5;refine Hc (fun _=>(fun _ hw=>hw.it (oQ b2 (atC x a c) 29) (by simp))) ?_;refine Ho 12 rfl (fl':=true) rfl ?_
    first | (refine WL.ag (vs:=[.int .i64 (f x.b).kind,.int .i64 (f x.b).n,.string (f x.b).s,.string x.name,.slice (some ⟨b17,0,none⟩) x.args.length x.args.length]) rfl rfl rfl T.z29 rfl ?_) | (refine WL.focus perm1 (WL.ag (vs:=[.int .i64 (f x.b).kind,.int .i64 (f x.b).n,.string (f x.b).s,.string x.name,.slice (some ⟨b17,0,none⟩) x.args.length x.args.length]) rfl rfl rfl T.z29 rfl ?_))
    refine Hc (fun h=>by cases h) ?_;refine He ?_
    exact WX.e5 (b5,b17) Y4 (fun w' hw=>by
     rw [Jke] at hw;exact ((hw.perm (ow':=oQ b17 ((zT x.args.length).flatMap tmC) 26::oQ b5 ([.int .i64 (f x.b).kind,.int .i64 (f x.b).n,.string (f x.b).s,.string x.name,.slice (some ⟨b17,0,none⟩) x.args.length x.args.length]:List Value) 29::oQ b4 (atC ⟨T0,E0,[]⟩ none 0) 29::oQ b2 (atC x a c) 29::[]) (pmP [_,_,_,_] [1,0,2,3])).asRow (m:=x.args.length) (k:=3) (by rw [Jdf Jc0];simp [zT]) (by unfold maxLen;omega)).perm (pmP [_,_,_,_] [1,0,2,3]))
   refine WL.alloc T.zr29 rfl ?_;intro b5;refine Hc (fun _=>(fun _ hw=>hw.it (oQ b2 (atC x a c) 29) (by simp))) ?_;refine Ho 3 rfl (fl':=false) rfl ?_;refine WL.fm (f:=g) (caps:=caps) (vs:=[tmV x.b]) (v:=tmV (f x.b)) hT.bod rfl rfl rfl (fun w' hw'=>hT.run x.b w' hw'.keeps) ?_;refine Hc (fun _=>(fun _ hw=>hw.it (oQ b2 (atC x a c) 29) (by simp))) ?_;refine Hf 10 rfl (OV.ao (xs:=[(0,.tmp 11),(1,.tmp 13),(2,.tmp 17)]) (pl:=[(0,3),(3,1),(4,1)]) (cs:=[.int .i64 (f x.b).kind,.int .i64 (f x.b).n,.string (f x.b).s,.string x.name,.slice (some ⟨b17,0,none⟩) x.args.length x.args.length]) T.u29 T.zr29 (by kernel_rfl) rfl (Jal (us:=tmC (f x.b)) rfl rfl yW (Jal (us:=[_]) rfl rfl yW (Jal (us:=[_]) rfl rfl yW rfl)))) (Ho 12 rfl (fl':=true) rfl ?_)
   first | (refine WL.ag (vs:=[.int .i64 (f x.b).kind,.int .i64 (f x.b).n,.string (f x.b).s,.string x.name,.slice (some ⟨b17,0,none⟩) x.args.length x.args.length]) rfl rfl rfl T.z29 rfl ?_) | (refine WL.focus perm1 (WL.ag (vs:=[.int .i64 (f x.b).kind,.int .i64 (f x.b).n,.string (f x.b).s,.string x.name,.slice (some ⟨b17,0,none⟩) x.args.length x.args.length]) rfl rfl rfl T.z29 rfl ?_))
   refine Hc (fun h=>by cases h) ?_;refine He ?_
   exact WX.e5 (b5,b17) Y4 (fun w' hw=>by
    rw [Jke] at hw;exact ((hw.perm (ow':=oQ b17 ((zT x.args.length).flatMap tmC) 26::oQ b5 ([.int .i64 (f x.b).kind,.int .i64 (f x.b).n,.string (f x.b).s,.string x.name,.slice (some ⟨b17,0,none⟩) x.args.length x.args.length]:List Value) 29::oQ b4 (atC ⟨T0,E0,[]⟩ none 0) 29::oQ b2 (atC x a c) 29::[]) (pmP [_,_,_,_] [1,0,2,3])).asRow (m:=x.args.length) (k:=3) (by rw [Jdf Jc0];simp [zT]) (by unfold maxLen;omega)).perm (pmP [_,_,_,_] [1,0,2,3]))
  refine WL.alloc T.zr29 rfl ?_;intro b5;refine Hc (fun _=>(fun _ hw=>hw.it (oQ b2 (atC x a c) 29) (by simp))) ?_;refine Hr (WH.two 3 9 rfl rfl (by kernel_rfl) (listed1:=[true,true,true,true,true,true,true,true,true,false,false,true,false]) rfl (listed2:=[true,true,true,false,true,true,true,true,true,true,false,true,false]) rfl (fl1:=false) rfl (fl2:=false) rfl ?_ ?_)
  ·refine WL.fm (f:=g) (caps:=caps) (vs:=[tmV x.b]) (v:=tmV (f x.b)) hT.bod rfl rfl rfl (fun w' hw'=>hT.run x.b w' hw'.keeps) ?_;refine Hc (fun _=>(fun _ hw=>hw.it (oQ b2 (atC x a c) 29) (by simp))) ?_;refine Ho 9 rfl (fl':=false) rfl ?_;refine WL.ew (bytes:=32) (zc:=tmC T0) rfl rfl T.u27 T.z26 T.zr26 (by decide) (by kernel_rfl) ⟨by omega,by omega⟩ rfl ?_;intro b17;refine Hc (fun _=>(fun _ hw=>hw.it (oQ b2 (atC x a c) 29) (by simp))) ?_;refine Hf 10 rfl (OV.ao (xs:=[(0,.tmp 11),(1,.tmp 13),(2,.tmp 17)]) (pl:=[(0,3),(3,1),(4,1)]) (cs:=[.int .i64 (f x.b).kind,.int .i64 (f x.b).n,.string (f x.b).s,.string x.name,.slice (some ⟨b17,0,none⟩) x.args.length x.args.length]) T.u29 T.zr29 (by kernel_rfl) rfl (Jal (us:=tmC (f x.b)) rfl rfl yW (Jal (us:=[_]) rfl rfl yW (Jal (us:=[_]) rfl rfl yW rfl)))) (Ho 12 rfl (fl':=true) rfl ?_)
   first | (refine WL.ag (vs:=[.int .i64 (f x.b).kind,.int .i64 (f x.b).n,.string (f x.b).s,.string x.name,.slice (some ⟨b17,0,none⟩) x.args.length x.args.length]) rfl rfl rfl T.z29 rfl ?_) | (refine WL.focus perm1 (WL.ag (vs:=[.int .i64 (f x.b).kind,.int .i64 (f x.b).n,.string (f x.b).s,.string x.name,.slice (some ⟨b17,0,none⟩) x.args.length x.args.length]) rfl rfl rfl T.z29 rfl ?_))
   refine Hc (fun h=>by cases h) ?_;refine He ?_
   exact WX.e5 (b5,b17) Y4 (fun w' hw=>by
    rw [Jke] at hw;exact ((hw.perm (ow':=oQ b17 ((zT x.args.length).flatMap tmC) 26::oQ b5 ([.int .i64 (f x.b).kind,.int .i64 (f x.b).n,.string (f x.b).s,.string x.name,.slice (some ⟨b17,0,none⟩) x.args.length x.args.length]:List Value) 29::oQ b4 (atC ⟨T0,E0,[]⟩ none 0) 29::oQ b2 (atC x a c) 29::[]) (pmP [_,_,_,_] [1,0,2,3])).asRow (m:=x.args.length) (k:=3) (by rw [Jdf Jc0];simp [zT]) (by unfold maxLen;omega)).perm (pmP [_,_,_,_] [1,0,2,3]))
  refine WL.ew (bytes:=32) (zc:=tmC T0) rfl rfl T.u27 T.z26 T.zr26 (by decide) (by kernel_rfl) ⟨by omega,by omega⟩ rfl ?_;intro b17;refine Hc (fun _=>(fun _ hw=>hw.it (oQ b2 (atC x a c) 29) (by simp))) ?_;refine Ho 3 rfl (fl':=false) rfl ?_;refine WL.fm (f:=g) (caps:=caps) (vs:=[tmV x.b]) (v:=tmV (f x.b)) hT.bod rfl rfl rfl (fun w' hw'=>hT.run x.b w' hw'.keeps) ?_;refine Hc (fun _=>(fun _ hw=>hw.it (oQ b2 (atC x a c) 29) (by simp))) ?_;refine Hf 10 rfl (OV.ao (xs:=[(0,.tmp 11),(1,.tmp 13),(2,.tmp 17)]) (pl:=[(0,3),(3,1),(4,1)]) (cs:=[.int .i64 (f x.b).kind,.int .i64 (f x.b).n,.string (f x.b).s,.string x.name,.slice (some ⟨b17,0,none⟩) x.args.length x.args.length]) T.u29 T.zr29 (by kernel_rfl) rfl (Jal (us:=tmC (f x.b)) rfl rfl yW (Jal (us:=[_]) rfl rfl yW (Jal (us:=[_]) rfl rfl yW rfl)))) (Ho 12 rfl (fl':=true) rfl ?_)
  first | (refine WL.ag (vs:=[.int .i64 (f x.b).kind,.int .i64 (f x.b).n,.string (f x.b).s,.string x.name,.slice (some ⟨b17,0,none⟩) x.args.length x.args.length]) rfl rfl rfl T.z29 rfl ?_) | (refine WL.focus perm1 (WL.ag (vs:=[.int .i64 (f x.b).kind,.int .i64 (f x.b).n,.string (f x.b).s,.string x.name,.slice (some ⟨b17,0,none⟩) x.args.length x.args.length]) rfl rfl rfl T.z29 rfl ?_))
  refine Hc (fun h=>by cases h) ?_;refine He ?_
  exact WX.e5 (b5,b17) Y4 (fun w' hw=>by
   rw [Jke] at hw;exact ((hw.perm (ow':=oQ b17 ((zT x.args.length).flatMap tmC) 26::oQ b5 ([.int .i64 (f x.b).kind,.int .i64 (f x.b).n,.string (f x.b).s,.string x.name,.slice (some ⟨b17,0,none⟩) x.args.length x.args.length]:List Value) 29::oQ b4 (atC ⟨T0,E0,[]⟩ none 0) 29::oQ b2 (atC x a c) 29::[]) (pmP [_,_,_,_] [1,0,2,3])).asRow (m:=x.args.length) (k:=3) (by rw [Jdf Jc0];simp [zT]) (by unfold maxLen;omega)).perm (pmP [_,_,_,_] [1,0,2,3]))
 rintro ⟨b5,b17⟩;refine Cs (Csr (Zv (OV.f0 4 rfl T.u29 rfl) (Zv (OV.l1 (v:=.slice a x.args.length c) rfl T.u27 rfl yK rfl) (Zv (OV.ae rfl T.u27) (Zm rfl (Nn (Cb ?_)))))))
 refine WC.cm (fun (i:Nat)=>[(1,.func (.func g) #[] caps.toArray),(4,yZ b4),(5,yZ b5),(20,.slice a x.args.length c),(21,.int .i64 (x.args.length:Int)),(22,.int .i64 (i:Int))])
   (fun i w'=>i≤x.args.length∧Sat0 w (oQ b5 ([.int .i64 (f x.b).kind,.int .i64 (f x.b).n,.string (f x.b).s,.string x.name,.slice (some ⟨b17,0,none⟩) x.args.length x.args.length]:List Value) 29::row 26 3 (some ⟨b17,0,none⟩) x.args.length x.args.length (((x.args.take i).map f++zT (x.args.length - i)).flatMap tmC)::oQ b4 (atC ⟨T0,E0,[]⟩ none 0) 29::oQ b2 (atC x a c) 29::[]) w')
   (fun i=>x.args.length - i) 0 Y6 (fun w' hw=>⟨by omega,hw⟩) ?_
 intro i;refine WC.pure (fun hi=>?_);have hfl:=fill_len f x.args hi;refine Csr (Zv (OV.cq rfl rfl) (Nn (Cs ?_)));refine Cc rfl (fun c23=>?_) (fun c23=>?_)
 ·refine Ck (Xn (Cs (Cb (Csr (Zm rfl ?_)))));obtain ⟨q1,t,hq,ht,htm,_,hc⟩:=hr.get (i:=i) (by omega);refine Zv ((OV.ad (show _=some (Value.slice (some q1) x.args.length c) by rw [← hq];rfl) rfl T.u27 T.z26 (by omega)).cast (u:=.pointer (some (q1.add (i*3)))) (by rw [xN])) (Zv (OV.ai (cs:=tmC t) rfl T.u26 rfl T.z26 (fun _ hw j v hj=>hw.keeps _ _ (hc j v hj))) (WL.alloc T.zr26 rfl ?_));intro b7;refine Za rfl (WL.ag (vs:=tmC t) rfl rfl rfl T.z26 rfl ?_);refine Nn (Hd (fun w'=>w'.heap[b5]?=some (.cells ([.int .i64 (f x.b).kind,.int .i64 (f x.b).n,.string (f x.b).s,.string x.name,.slice (some ⟨b17,0,none⟩) x.args.length x.args.length]:List Value).toArray 29 (0,0))∧w'.heap[b7]?=some (.cells (tmC t).toArray 26 (0,0))) [7] (fun _ hw=>⟨hw.it (oQ b5 ([.int .i64 (f x.b).kind,.int .i64 (f x.b).n,.string (f x.b).s,.string x.name,.slice (some ⟨b17,0,none⟩) x.args.length x.args.length]:List Value) 29) (by simp),hw.it (oQ b7 (tmC t) 26) (by simp)⟩) (m:=8) rfl ?_);refine Hf 0 rfl (OV.f0 4 rfl T.u29 rfl) (Ht 1 rfl (OV.ah (v:=.slice (some ⟨b17,0,none⟩) x.args.length x.args.length) rfl T.u27 rfl (fun _ hw=>(Jax hw.1 (o:=4) rfl).1)) (Hf 2 rfl (OV.aw rfl) (Hf 3 rfl (OV.aw rfl) (Ht 4 rfl (OV.ai (cs:=tmC t) rfl T.u26 rfl T.z26 (fun _ hw j v hj=>by rw [Jap];exact Jch hw.2 (o:=0) (cs':=tmC t) rfl j v hj)) (Ho 5 rfl (fl':=false) rfl ?_)))));refine WL.fm (f:=g) (caps:=caps) (vs:=[tmV t]) (v:=tmV (f t)) hT.bod rfl rfl rfl (fun w' hw'=>hT.run t w' hw'.keeps) ?_;refine Hc (fun _=>(fun _ hw=>⟨hw.it (oQ b5 ([.int .i64 (f x.b).kind,.int .i64 (f x.b).n,.string (f x.b).s,.string x.name,.slice (some ⟨b17,0,none⟩) x.args.length x.args.length]:List Value) 29) (by simp),hw.it (oQ b7 (tmC t) 26) (by simp)⟩)) ?_;refine Hf 6 rfl ((OV.ad rfl rfl T.u27 T.z26 (by omega)).cast (u:=.pointer (some ⟨b17,i*3,none⟩)) (by rw [xN,Jap,xM])) (Ho 7 rfl (fl':=true) rfl ?_);refine WL.focus perm2 (WL.io (vs:=tmC (f t)) (o:=i*3) rfl rfl rfl rfl T.z26 (by rw [fill_flat_len f x.args (by omega)];show i*3+3≤_;omega) ?_);refine Hc (fun h=>by cases h) ?_;refine He (Xb (Xn (Cr (Zv (OV.bm (j:=1) rfl rfl (by omega)) (Zm rfl (Nl ?_))))));have hfp:=Jmd ((x.args.take i).map f++zT (x.args.length - i)) i (f t) (by omega);rw [hfp,fill_set ht];exact WX.bk (i+1) Y6 (fun w' hw=>⟨by omega,hw.pik [[row 26 3 (some ⟨b17,0,none⟩) x.args.length x.args.length (((x.args.take (i+1)).map f++zT (x.args.length - (i+1))).flatMap tmC)],[oQ b7 (tmC t) 26],[oQ b5 ([.int .i64 (f x.b).kind,.int .i64 (f x.b).n,.string (f x.b).s,.string x.name,.slice (some ⟨b17,0,none⟩) x.args.length x.args.length]:List Value) 29],[oQ b4 (atC ⟨T0,E0,[]⟩ none 0) 29],[oQ b2 (atC x a c) 29]] [2,0,3,4] 5⟩) (by show x.args.length - (i+1)<x.args.length - i;omega)
 refine Ce (Xe (Xe (Xh (Xn (Csr (Zv (OV.lN (cs:=([.int .i64 (f x.b).kind,.int .i64 (f x.b).n,.string (f x.b).s,.string x.name,.slice (some ⟨b17,0,none⟩) x.args.length x.args.length]:List Value)) rfl T.u29 rfl T.z29 yH) ?_))))));refine WL.focus perm2 (WL.ag (vs:=[.int .i64 (f x.b).kind,.int .i64 (f x.b).n,.string (f x.b).s,.string x.name,.slice (some ⟨b17,0,none⟩) x.args.length x.args.length]) rfl rfl rfl T.z29 rfl ?_);refine Nn (WC.az ?_)
 have hm:((x.args.take i).map f++zT (x.args.length - i))=(mapA f x).args:=by
  rw [xK (by omega),show x.args.length - i=0 by omega];exact xZ _
 have hml:x.args.length=(mapA f x).args.length:=by simp [mapA]
 refine WX.retC (cs:=([.int .i64 (f x.b).kind,.int .i64 (f x.b).n,.string (f x.b).s,.string x.name,.slice (some ⟨b17,0,none⟩) x.args.length x.args.length]:List Value)) rfl rfl rfl T.u29 rfl T.z29 (fun w' hw j v hj=>Jbh hw yH j v hj) (fun w' hw=>⟨(some ⟨b17,0,none⟩,x.args.length),by unfold atV atC;rw [← hml];rfl,?_⟩);have h9:Turns [] [row 26 3 (some ⟨b17,0,none⟩) x.args.length x.args.length (((x.args.take i).map f++zT (x.args.length - i)).flatMap tmC)] w w':=(hw.pik [[oQ b4 ([.int .i64 (f x.b).kind,.int .i64 (f x.b).n,.string (f x.b).s,.string x.name,.slice (some ⟨b17,0,none⟩) x.args.length x.args.length]:List Value) 29],[oQ b5 ([.int .i64 (f x.b).kind,.int .i64 (f x.b).n,.string (f x.b).s,.string x.name,.slice (some ⟨b17,0,none⟩) x.args.length x.args.length]:List Value) 29],[row 26 3 (some ⟨b17,0,none⟩) x.args.length x.args.length (((x.args.take i).map f++zT (x.args.length - i)).flatMap tmC)],[oQ b2 (atC x a c) 29]] [2] 4).turned0;rw [hm] at h9;show Turns [] [row 26 3 (some ⟨b17,0,none⟩) (mapA f x).args.length x.args.length ((mapA f x).args.flatMap tmC)] w w';rw [← hml];exact h9
theorem TurnOK.keeps {f:Tm→Tm}{g:Nat}{caps:List Value}{w w':World}(h:TurnOK f g caps w)(k:Keeps w w'):TurnOK f g caps w':=⟨h.bod,fun t w1 hk=>h.run t w1 (k.trans hk)⟩
set_option maxHeartbeats 1000000 in
theorem turned_calls (f:Tm→Tm)(g:Nat)(caps:List Value)(q:CG)(hs:CS q)(w:World)(hT:TurnOK f g caps w)(hr:RC w q):Calls Tryz.prog 61 #[cgV q,.func (.func g) #[] caps.toArray] w fun e w'=>∃ g':CG,e=.returned (cgV g')∧g'.cl=mapC f q.cl∧Turns [] (cgA g') w w':=by
 refine Jbo (args:=[cgV q,.func (.func g) #[] caps.toArray]) (fun _=>False) Tryz.func61 rfl Tryz.ntmps61 rfl rfl ?_;refine Csr (WL.box rfl rfl rfl ?_);intro b2;refine WL.alloc T.zr32 rfl ?_;intro b4;refine Nn (Csr (Zv (OV.f0 0 rfl T.u32 rfl) ?_));have hbl:=hs.bl;have htl:=hs.tl;have hsh:=hs.at_ q.hd (Or.inl rfl);refine Zv (OV.ai (cs:=atC q.hd.x q.hd.a q.hd.c) rfl T.u29 rfl T.z29 (fun _ hw j v hj=>by rw [Jap];exact Jbv hw yI (o:=0) (cs':=atC q.hd.x q.hd.a q.hd.c) rfl j v hj)) (Zm rfl (WL.cT (ι:=Option Addr × Nat) (vs:=[atV q.hd.x q.hd.a q.hd.c,.func (.func g) #[] caps.toArray]) (vv:=fun z=>atV (mapA f q.hd.x) z.1 z.2) (pp:=fun _=>True) [] (AA:=fun z=>[rowT z.1 z.2 (mapA f q.hd.x).args]) rfl (fun w' hw' _=>(replaced_calls f g caps q.hd.x q.hd.a q.hd.c (by omega) w' (hT.keeps hw'.keeps) (hr.hd.keeps hw'.keeps)).mono (fun en w'' ⟨z,h1,h2⟩=>⟨z,h1,trivial,h2⟩)) ?_));rintro ⟨hda,hdc⟩ _;refine Zv (OV.ao (xs:=[(0,.tmp 14)]) (pl:=[(0,5),(5,1),(6,1)]) (cs:=cgC ⟨⟨mapA f q.hd.x,hda,hdc⟩,none,0,[],none,0,[]⟩) T.u32 T.zr32 (by kernel_rfl) rfl (Jal (us:=atC (mapA f q.hd.x) hda hdc) rfl rfl yW rfl)) (WL.alloc T.zr32 rfl ?_);intro b5;refine WL.ag (vs:=cgC ⟨⟨mapA f q.hd.x,hda,hdc⟩,none,0,[],none,0,[]⟩) rfl rfl rfl T.z32 rfl ?_;refine Nn (Cs (Csr (Zv (OV.f0 5 rfl T.u32 rfl) (Zv (OV.l1 (v:=.slice q.ba q.bd.length q.bc) rfl T.u22 rfl yK rfl) (Zv (OV.ae rfl T.u22) (Zm rfl (Nn (Cb (WC.weak (S':=Sat0 w (oQ b5 (cgC ⟨⟨mapA f q.hd.x,hda,hdc⟩,none,0,[],none,0,[]⟩) 32::row 29 5 none 0 0 []::rowT hda hdc (mapA f q.hd.x).args::oQ b4 (cgC ⟨⟨⟨T0,E0,[]⟩,none,0⟩,none,0,[],none,0,[]⟩) 32::oQ b2 (cgC q) 32::[])) (fun w' hw=>(hw.rowNil 29 5).perm (pmP [_,_,_,_,_] [1,0,2,3,4])) ?_)))))))))
 refine WC.dd (fun (i:Nat) (ba:Option Addr) (bc:Nat) (ys:List AG)=>[(1,.func (.func g) #[] caps.toArray),(2,yZ b2),(4,yZ b4),(5,yZ b5),(17,.slice q.ba q.bd.length q.bc),(18,.int .i64 (q.bd.length:Int)),(19,.int .i64 (i:Int))])
   (fun i ba bc ys w'=>(i≤q.bd.length∧ys.length=i∧ys.map AG.x=(q.bd.take i).map fun y=>mapA f y.x)∧Sat0 w (oQ b5 (cgC ⟨⟨mapA f q.hd.x,hda,hdc⟩,ba,bc,ys,none,0,[]⟩) 32::rowAt ba bc ys::rowT hda hdc (mapA f q.hd.x).args::oQ b4 (cgC ⟨⟨⟨T0,E0,[]⟩,none,0⟩,none,0,[],none,0,[]⟩) 32::oQ b2 (cgC q) 32::argsA ys) w')
   (fun i _ _ _=>q.bd.length - i) 0 none 0 [] Y7 (fun w' hw=>⟨⟨by omega,rfl,rfl⟩,hw⟩) ?_
 intro i ba bc ys;refine WC.pure (fun hi=>?_);obtain ⟨hi,hyl,hyx⟩:=hi;refine Csr (Zv (OV.cq rfl rfl) (Nn (Cs ?_)));refine Cc rfl (fun c20=>?_) (fun c20=>?_)
 ·refine Ck (Xn (Cs (Cb (Csr ?_))));obtain ⟨q1,y,hq,ht,htm,hra,hc⟩:=hr.bd.get (i:=i) (by omega);refine Zv ((OV.ad (show _=some (Value.slice (some q1) q.bd.length q.bc) by rw [← hq];rfl) rfl T.u22 T.z29 (by omega)).cast (u:=.pointer (some (q1.add (i*5)))) (by rw [xN])) (Zv (OV.ai (cs:=agC y) rfl T.u29 rfl T.z29 (fun _ hw j v hj=>hw.keeps _ _ (hc j v hj))) (WL.alloc T.zr29 rfl ?_));intro b7;refine WL.ag (vs:=agC y) rfl rfl rfl T.z29 rfl ?_;refine Nn (Hd (fun w'=>w'.heap[b5]?=some (.cells (cgC ⟨⟨mapA f q.hd.x,hda,hdc⟩,ba,bc,ys,none,0,[]⟩).toArray 32 (0,0))∧w'.heap[b7]?=some (.cells (agC y).toArray 29 (0,0))) [8] (fun _ hw=>⟨hw.it (oQ b5 (cgC ⟨⟨mapA f q.hd.x,hda,hdc⟩,ba,bc,ys,none,0,[]⟩) 32) (by simp),hw.it (oQ b7 (agC y) 29) (by simp)⟩) (m:=9) rfl ?_);refine Hf 0 rfl (OV.f0 5 rfl T.u32 rfl) (Ht 1 rfl (OV.ah (v:=.slice ba ys.length bc) rfl T.u22 rfl (fun _ hw=>(Jax hw.1 (o:=5) rfl).1)) (Ht 2 rfl (OV.ai (cs:=agC y) rfl T.u29 rfl T.z29 (fun _ hw j v hj=>by rw [Jap,xM];exact (Jax hw.2 hj).1)) (Hf 3 rfl (OV.aw rfl) (Ho 4 rfl (fl':=false) rfl ?_))));have hsy:=hs.at_ y (Or.inr htm);refine WL.cT (ι:=Option Addr × Nat) (vs:=[atV y.x y.a y.c,.func (.func g) #[] caps.toArray]) (vv:=fun z=>atV (mapA f y.x) z.1 z.2) (pp:=fun _=>True) [] (AA:=fun z=>[rowT z.1 z.2 (mapA f y.x).args]) rfl (fun w' hw' _=>(replaced_calls f g caps y.x y.a y.c (by omega) w' (hT.keeps hw'.keeps) (hra.keeps hw'.keeps)).mono (fun en w'' ⟨z,h1,h2⟩=>⟨z,h1,trivial,h2⟩)) ?_;rintro ⟨qa,qc⟩ _;refine Hc (fun _=>(fun _ hw=>⟨hw.it (oQ b5 (cgC ⟨⟨mapA f q.hd.x,hda,hdc⟩,ba,bc,ys,none,0,[]⟩) 32) (by simp),hw.it (oQ b7 (agC y) 29) (by simp)⟩)) ?_;refine Ho 5 rfl (fl':=false) rfl ?_;refine WL.bg (cs:=agC (⟨mapA f y.x,qa,qc⟩:AG)) T.u22 T.z29 T.zr29 rfl rfl (by omega) (by omega) rfl ?_;intro b28;refine Hc (fun _=>(fun _ hw=>⟨hw.it (oQ b5 (cgC ⟨⟨mapA f q.hd.x,hda,hdc⟩,ba,bc,ys,none,0,[]⟩) 32) (by simp),hw.it (oQ b7 (agC y) 29) (by simp)⟩)) ?_;refine Ho 6 rfl (fl':=false) rfl ?_;refine WL.focus (ow':=rowAt ba bc ys::oQ b28 (agC (⟨mapA f y.x,qa,qc⟩:AG)) 29::rowT qa qc (mapA f y.x).args::oQ b7 (agC y) 29::oQ b5 (cgC ⟨⟨mapA f q.hd.x,hda,hdc⟩,ba,bc,ys,none,0,[]⟩) 32::rowT hda hdc (mapA f q.hd.x).args::oQ b4 (cgC ⟨⟨⟨T0,E0,[]⟩,none,0⟩,none,0,[],none,0,[]⟩) 32::oQ b2 (cgC q) 32::argsA ys) (pmP [_,_,_,_,_,_,_,_] [4,0,1,2,3,5,6,7]) ?_;refine WL.append (news:=agC (⟨mapA f y.x,qa,qc⟩:AG)) rfl rfl T.apA (fun _ _=>Jcw yI rfl) (Jis _) ⟨by omega,by unfold maxLen;omega⟩ rfl ?_;intro a29 c29;refine Hc (fun _=>(fun _ hw=>⟨hw.it (oQ b5 (cgC ⟨⟨mapA f q.hd.x,hda,hdc⟩,ba,bc,ys,none,0,[]⟩) 32) (by simp),hw.it (oQ b7 (agC y) 29) (by simp)⟩)) ?_;refine Hf 7 rfl (OV.f0 5 rfl T.u32 rfl) (Ho 8 rfl (fl':=true) rfl ?_)
  refine WL.focus (ow':=oQ b5 (cgC ⟨⟨mapA f q.hd.x,hda,hdc⟩,ba,bc,ys,none,0,[]⟩) 32::rowAt a29 c29 (ys++[(⟨mapA f y.x,qa,qc⟩:AG)])::oQ b28 (agC (⟨mapA f y.x,qa,qc⟩:AG)) 29::rowT qa qc (mapA f y.x).args::oQ b7 (agC y) 29::rowT hda hdc (mapA f q.hd.x).args::oQ b4 (cgC ⟨⟨⟨T0,E0,[]⟩,none,0⟩,none,0,[],none,0,[]⟩) 32::oQ b2 (cgC q) 32::argsA ys) (by
   rw [show ys.length+1=(ys++[(⟨mapA f y.x,qa,qc⟩:AG)]).length by simp,show ys.flatMap agC++agC (⟨mapA f y.x,qa,qc⟩:AG)=(ys++[(⟨mapA f y.x,qa,qc⟩:AG)]).flatMap agC by simp];exact pmP [_,_,_,_,_,_,_,_] [4,0,1,2,3,5,6,7]) (WL.bw (o:=5) rfl rfl rfl T.z22 (by show 5<7;omega) ?_)
  refine Hc (fun h=>by cases h) ?_;refine He (Xb (Xn (Cr (Zv (OV.bm (j:=1) rfl rfl (by omega)) (Zm rfl (Nl ?_))))))
  exact WX.cg (i+1) a29 c29 (ys++[(⟨mapA f y.x,qa,qc⟩:AG)]) Y7 (fun w' hw=>⟨⟨by omega,by simp [hyl],by rw [Jb3 ht,xU,xU,hyx];rfl⟩,by
   rw [Jjn];rw [show ys.length+1=(ys++[(⟨mapA f y.x,qa,qc⟩:AG)]).length by simp] at hw;refine Hw.Sat.pick [[oQ b5 (cgC ⟨⟨mapA f q.hd.x,hda,hdc⟩,a29,c29,ys++[(⟨mapA f y.x,qa,qc⟩:AG)],none,0,[]⟩) 32],[rowAt a29 c29 (ys++[(⟨mapA f y.x,qa,qc⟩:AG)])],[oQ b28 (agC (⟨mapA f y.x,qa,qc⟩:AG)) 29],[rowT qa qc (mapA f y.x).args],[oQ b7 (agC y) 29],[rowT hda hdc (mapA f q.hd.x).args],[oQ b4 (cgC ⟨⟨⟨T0,E0,[]⟩,none,0⟩,none,0,[],none,0,[]⟩) 32],[oQ b2 (cgC q) 32],argsA ys] [0,1,5,6,7,8,3] 9 rfl (by decide) (by decide) ?_;exact hw⟩) (by show q.bd.length - (i+1)<q.bd.length - i;omega)
 refine Ce (Xe (Xe (Xh (Xn (Cs (Csr (Zv (OV.f0 6 rfl T.u32 rfl) (Zv (OV.l1 (v:=.slice q.ta q.ts.length q.tc) rfl T.u30 rfl yL rfl) (Zv (OV.ae rfl T.u30) (Zm rfl (Nn (Cb ?_))))))))))));rw [xK (by omega)] at hyx;refine WC.weak (S':=Sat0 w (oQ b5 (cgC ⟨⟨mapA f q.hd.x,hda,hdc⟩,ba,bc,ys,none,0,[]⟩) 32::row 61 7 none 0 0 []::rowT hda hdc (mapA f q.hd.x).args::oQ b4 (cgC ⟨⟨⟨T0,E0,[]⟩,none,0⟩,none,0,[],none,0,[]⟩) 32::oQ b2 (cgC q) 32::rowAt ba bc ys::argsA ys)) (fun w' hw=>(hw.rowNil 61 7).perm (pmP [_,_,_,_,_,_] [1,0,3,4,5,2])) ?_;clear hi
 refine WC.dd (fun (i:Nat) (ta:Option Addr) (tc:Nat) (us:List Ts)=>[(1,.func (.func g) #[] caps.toArray),(2,yZ b2),(4,yZ b4),(5,yZ b5),(33,.slice q.ta q.ts.length q.tc),(34,.int .i64 (q.ts.length:Int)),(35,.int .i64 (i:Int))])
   (fun i ta tc us w'=>(i≤q.ts.length∧us.length=i∧us=(q.ts.take i).map (mapT f))∧Sat0 w (oQ b5 (cgC ⟨⟨mapA f q.hd.x,hda,hdc⟩,ba,bc,ys,ta,tc,us⟩) 32::rowS ta tc us::rowT hda hdc (mapA f q.hd.x).args::oQ b4 (cgC ⟨⟨⟨T0,E0,[]⟩,none,0⟩,none,0,[],none,0,[]⟩) 32::oQ b2 (cgC q) 32::rowAt ba bc ys::argsA ys) w')
   (fun i _ _ _=>q.ts.length - i) 0 none 0 [] Y7 (fun w' hw=>⟨⟨by omega,rfl,rfl⟩,hw⟩) ?_
 intro i ta tc us;refine WC.pure (fun hi=>?_);obtain ⟨hi,hul,hue⟩:=hi;refine Csr (Zv (OV.cq rfl rfl) (Nn (Cs ?_)));refine Cc rfl (fun c36=>?_) (fun c36=>?_)
 ·refine Ck (Xn (Cs (Cb (Csr ?_))));obtain ⟨q1,t,hq,ht,htm,hc⟩:=hr.ts.get (i:=i) (by omega);refine Zv ((OV.ad (show _=some (Value.slice (some q1) q.ts.length q.tc) by rw [← hq];rfl) rfl T.u30 T.z61 (by omega)).cast (u:=.pointer (some (q1.add (i*7)))) (by rw [xN])) (Zv (OV.ai (cs:=tsC t) rfl T.u61 rfl T.z61 (fun _ hw j v hj=>hw.keeps _ _ (hc j v hj))) (WL.alloc T.zr61 rfl ?_));intro b9;refine WL.ag (vs:=tsC t) rfl rfl rfl T.z61 rfl ?_;refine Nn (Csr (Zm rfl (Zv (OV.f0 1 rfl T.u61 rfl) (Zv (OV.ai (cs:=tmC t.l) rfl T.u26 rfl T.z26 (fun _ hw j v hj=>by rw [Jap];exact Jbv hw yH (o:=1) (cs':=tmC t.l) rfl j v hj)) (WL.fm (f:=g) (caps:=caps) (vs:=[tmV t.l]) (v:=tmV (f t.l)) hT.bod rfl rfl rfl (fun w' hw'=>hT.run t.l w' hw'.keeps) ?_)))));refine WL.alloc T.zr26 rfl ?_;intro b10;refine WL.ag (vs:=tmC (f t.l)) rfl rfl rfl T.z26 rfl ?_;refine Nn (Hd (fun w'=>w'.heap[b5]?=some (.cells (cgC ⟨⟨mapA f q.hd.x,hda,hdc⟩,ba,bc,ys,ta,tc,us⟩).toArray 32 (0,0))∧w'.heap[b9]?=some (.cells (tsC t).toArray 61 (0,0))∧w'.heap[b10]?=some (.cells (tmC (f t.l)).toArray 26 (0,0))) [13] (fun _ hw=>⟨hw.it (oQ b5 (cgC ⟨⟨mapA f q.hd.x,hda,hdc⟩,ba,bc,ys,ta,tc,us⟩) 32) (by simp),hw.it (oQ b9 (tsC t) 61) (by simp),hw.it (oQ b10 (tmC (f t.l)) 26) (by simp)⟩) (m:=14) rfl ?_);refine Hf 0 rfl (OV.f0 6 rfl T.u32 rfl) (Ht 1 rfl (OV.ah (v:=.slice ta us.length tc) rfl T.u30 rfl (fun _ hw=>(Jax hw.1 (o:=6) rfl).1)) (Hf 2 rfl (OV.f0 0 rfl T.u61 rfl) (Ht 3 rfl (OV.ah (v:=.int .i64 t.op) rfl T.u3 rfl (fun _ hw=>(Jax hw.2.1 (o:=0) rfl).1)) (Ht 4 rfl (OV.ai (cs:=tmC (f t.l)) rfl T.u26 rfl T.z26 (fun _ hw j v hj=>by rw [Jap];exact Jch hw.2.2 (o:=0) (cs':=tmC (f t.l)) rfl j v hj)) (Hf 5 rfl (OV.aw rfl) (Hf 6 rfl (OV.f0 4 rfl T.u61 rfl) (Ht 7 rfl (OV.ai (cs:=tmC t.r) rfl T.u26 rfl T.z26 (fun _ hw j v hj=>by rw [Jap];exact Jch hw.2.1 (o:=4) (cs':=tmC t.r) rfl j v hj)) (Ho 8 rfl (fl':=false) rfl ?_))))))));refine WL.fm (f:=g) (caps:=caps) (vs:=[tmV t.r]) (v:=tmV (f t.r)) hT.bod rfl rfl rfl (fun w' hw'=>hT.run t.r w' hw'.keeps) ?_;refine Hc (fun _=>(fun _ hw=>⟨hw.it (oQ b5 (cgC ⟨⟨mapA f q.hd.x,hda,hdc⟩,ba,bc,ys,ta,tc,us⟩) 32) (by simp),hw.it (oQ b9 (tsC t) 61) (by simp),hw.it (oQ b10 (tmC (f t.l)) 26) (by simp)⟩)) ?_;refine Hf 9 rfl (OV.ao (xs:=[(0,.tmp 46),(1,.tmp 47),(2,.tmp 51)]) (pl:=[(0,1),(1,3),(4,3)]) (cs:=tsC (mapT f t)) T.u61 T.zr61 (by kernel_rfl) rfl (Jal (us:=[_]) rfl rfl yW (Jal (us:=tmC (f t.l)) rfl rfl yW (Jal (us:=tmC (f t.r)) rfl rfl yW rfl)))) (Ho 10 rfl (fl':=false) rfl ?_);refine WL.bg (cs:=tsC (mapT f t)) T.u30 T.z61 T.zr61 rfl rfl (by omega) (by omega) rfl ?_;intro b53;refine Hc (fun _=>(fun _ hw=>⟨hw.it (oQ b5 (cgC ⟨⟨mapA f q.hd.x,hda,hdc⟩,ba,bc,ys,ta,tc,us⟩) 32) (by simp),hw.it (oQ b9 (tsC t) 61) (by simp),hw.it (oQ b10 (tmC (f t.l)) 26) (by simp)⟩)) ?_;refine Ho 11 rfl (fl':=false) rfl ?_;refine WL.focus (ow':=rowS ta tc us::oQ b53 (tsC (mapT f t)) 61::oQ b10 (tmC (f t.l)) 26::oQ b9 (tsC t) 61::oQ b5 (cgC ⟨⟨mapA f q.hd.x,hda,hdc⟩,ba,bc,ys,ta,tc,us⟩) 32::rowT hda hdc (mapA f q.hd.x).args::oQ b4 (cgC ⟨⟨⟨T0,E0,[]⟩,none,0⟩,none,0,[],none,0,[]⟩) 32::oQ b2 (cgC q) 32::rowAt ba bc ys::argsA ys) (pmP [_,_,_,_,_,_,_,_] [4,0,1,2,3,5,6,7]) ?_;refine WL.append (news:=tsC (mapT f t)) rfl rfl T.apS (fun _ _=>Jcw yI rfl) (Jog _) ⟨by omega,by unfold maxLen;omega⟩ rfl ?_;intro a54 c54;refine Hc (fun _=>(fun _ hw=>⟨hw.it (oQ b5 (cgC ⟨⟨mapA f q.hd.x,hda,hdc⟩,ba,bc,ys,ta,tc,us⟩) 32) (by simp),hw.it (oQ b9 (tsC t) 61) (by simp),hw.it (oQ b10 (tmC (f t.l)) 26) (by simp)⟩)) ?_;refine Hf 12 rfl (OV.f0 6 rfl T.u32 rfl) (Ho 13 rfl (fl':=true) rfl ?_);refine WL.focus perm4 (WL.bw (o:=6) rfl rfl rfl T.z30 (by show 6<7;omega) ?_);refine Hc (fun h=>by cases h) ?_;refine He (Xb (Xn (Cr (Zv (OV.bm (j:=1) rfl rfl (by omega)) (Zm rfl (Nl ?_))))));have el:us.length+1=(us++[(mapT f t)]).length:=by simp
  have ef:us.flatMap tsC++tsC (mapT f t)=(us++[(mapT f t)]).flatMap tsC:=by simp
  exact WX.cg (i+1) a54 c54 (us++[(mapT f t)]) Y7 (fun w' hw=>⟨⟨by omega,by simp [hul],by rw [Jb3 ht,xU,hue];rfl⟩,by
   rw [el,ef] at hw;exact hw.pik [[oQ b5 (cgC ⟨⟨mapA f q.hd.x,hda,hdc⟩,ba,bc,ys,a54,c54,us++[(mapT f t)]⟩) 32],[rowS a54 c54 (us++[(mapT f t)])],[oQ b53 (tsC (mapT f t)) 61],[oQ b10 (tmC (f t.l)) 26],[oQ b9 (tsC t) 61],[rowT hda hdc (mapA f q.hd.x).args],[oQ b4 (cgC ⟨⟨⟨T0,E0,[]⟩,none,0⟩,none,0,[],none,0,[]⟩) 32],[oQ b2 (cgC q) 32],rowAt ba bc ys::argsA ys] [0,1,5,6,7,8] 9⟩) (by show q.ts.length - (i+1)<q.ts.length - i;omega)
 refine Ce (Xe (Xe (Xh (Xn (Csr (Zv (OV.lN (cs:=cgC ⟨⟨mapA f q.hd.x,hda,hdc⟩,ba,bc,ys,ta,tc,us⟩) rfl T.u32 rfl T.z32 yH) ?_))))));refine WL.focus perm3 (WL.ag (vs:=cgC ⟨⟨mapA f q.hd.x,hda,hdc⟩,ba,bc,ys,ta,tc,us⟩) rfl rfl rfl T.z32 rfl ?_);refine Nn (WC.az ?_);rw [xK (by omega)] at hue;refine WX.retC (cs:=cgC ⟨⟨mapA f q.hd.x,hda,hdc⟩,ba,bc,ys,ta,tc,us⟩) rfl rfl rfl T.u32 rfl T.z32 (fun w' hw j v hj=>Jbh hw yH j v hj) (fun w' hw=>⟨⟨⟨mapA f q.hd.x,hda,hdc⟩,ba,bc,ys,ta,tc,us⟩,rfl,mapC_eq rfl hyx hue,?_⟩);exact (hw.pik [[oQ b4 (cgC ⟨⟨mapA f q.hd.x,hda,hdc⟩,ba,bc,ys,ta,tc,us⟩) 32],[oQ b5 (cgC ⟨⟨mapA f q.hd.x,hda,hdc⟩,ba,bc,ys,ta,tc,us⟩) 32],[rowS ta tc us],[rowT hda hdc (mapA f q.hd.x).args],[oQ b2 (cgC q) 32],rowAt ba bc ys::argsA ys] [3,5,2] 6).turned0
theorem instance_calls (q:CG)(hs:CS q)(vs:List Tm)(va:Option Addr)(vc:Nat)(hvl:vs.length≤1099511627776)(w:World)(hr:RC w q)(hv:RT w va vs):Calls Tryz.prog 25 #[cgV q,.slice va vs.length vc] w fun e w'=>∃ g':CG,e=.returned (cgV g')∧g'.cl=mapC (instT vs) q.cl∧Turns [] (cgA g') w w':=by
 refine Jbo (args:=[cgV q,.slice va vs.length vc]) (fun _=>False) Tryz.func25 rfl Tryz.ntmps25 rfl rfl ?_;refine Csr (WL.box rfl rfl rfl ?_);intro b2;refine WL.box rfl rfl rfl ?_;intro b3;refine WL.alloc T.zr32 rfl ?_;intro b4;refine Nn (Csr (Zv (OV.lN (cs:=cgC q) rfl T.u32 rfl T.z32 yJ) (Zv (OV.makeFunc rfl) (WL.cT (ι:=CG) (vs:=[cgV q,.func (.func 62) #[] #[ptr b3]]) (vv:=fun g'=>cgV g') (pp:=fun g'=>g'.cl=mapC (instT vs) q.cl) [] (AA:=fun g'=>cgA g') rfl (fun w' hw' _=>(turned_calls (instT vs) 62 [ptr b3] q hs w' ⟨by kernel_rfl,fun t w1 hk=>inst1_calls vs va vc t b3 hvl w1 (hk _ _ (Jax (hw'.it (oQ b3 [Value.slice va vs.length vc] 27) yI) (o:=0) rfl).1) ((hv.keeps hw'.keeps).keeps hk)⟩ (hr.keeps hw'.keeps)).mono (fun en w'' ⟨g',h1,h2,h3⟩=>⟨g',h1,h2,h3⟩)) ?_))));intro g' hg';refine WL.focus (ow':=oQ b4 (cgC ⟨⟨⟨T0,E0,[]⟩,none,0⟩,none,0,[],none,0,[]⟩) 32::(cgA g'++(oQ b3 [Value.slice va vs.length vc] 27::oQ b2 (cgC q) 32::[]))) (pmC [cgA g',[oQ b4 (cgC ⟨⟨⟨T0,E0,[]⟩,none,0⟩,none,0,[],none,0,[]⟩) 32],[oQ b3 [Value.slice va vs.length vc] 27],[oQ b2 (cgC q) 32]] [1,0,2,3]) ?_;refine WL.ag (vs:=cgC g') rfl rfl rfl T.z32 rfl ?_;refine Nn (WC.az ?_);refine WX.retC (cs:=cgC g') rfl rfl rfl T.u32 rfl T.z32 (fun w' hw j v hj=>Jbh hw yH j v hj) (fun w' hw=>⟨g',rfl,hg',?_⟩);exact (hw.pik [[oQ b4 (cgC g') 32],cgA g',[oQ b3 [Value.slice va vs.length vc] 27],[oQ b2 (cgC q) 32]] [1] 4).turned0
end Go.Proofs.YtgebaodagaecmaaGreatDoor
