/- Contracts of functions of the program: what each returns and leaves in memory. Printed by gen.py and walk.py. A row that is cut to its first elements; clear of a row's end. -/
import Derived.Test.YtgebaodagaecmaaGreatDoorMg21
import Derived.Test.YtgebaodagaecmaaGreatDoorHxA
import Derived.LaidMore
import Derived.Test.YtgebaodagaecmaaGreatDoorRows
import Derived.Test.YtgebaodagaecmaaGreatDoorMg17
import Derived.Lib.SliceRun
import Derived.Test.YtgebaodagaecmaaGreatDoorMg19
set_option maxRecDepth 10000
namespace Go.Proofs.YtgebaodagaecmaaGreatDoor
open Go Go.Hw
set_option linter.unusedSimpArgs false
set_option linter.unusedVariables false
structure BG where
 ys:List Bd
 a:Option Addr
 c:Nat
def bgV (y:BG):Value:=.slice y.a y.ys.length y.c
abbrev bgA (y:BG):Hw.Item:=rowB y.a y.c y.ys
abbrev rowBB (a:Option Addr)(c:Nat)(bs:List BG):Hw.Item:=row 54 1 a bs.length c (bs.map bgV)
theorem T.apR2:appB Tryz.prog 39 27 1 24=true:=by kernel_rfl
def Jo6 {γ:Type}(bp:Value)(q:CG)(lead:Option Nat)(w0:World)(A0:List Hw.Item)(AA:γ→List Hw.Item)(pp:γ→Prop)(bl:List Bn):Prop:=
 ∀ (p:PG) (w1:World),p.al=nI (Jbp q.cl)→jnEq p.js (makeP q.cl lead)→Keeps w0 w1→Holds (A0++pgA p) w1 →
  Calls Tryz.prog 40 #[bp,cgV q,.int .i64 (leadI lead),pgV p] w1 fun e w2=>∃ z:γ × Option Addr × Nat × List BG,e=.returned (.slice z.2.1 z.2.2.2.length z.2.2.1)∧(pp z.1∧z.2.2.2.map (fun y=>sb y.ys)=bl∧∀ y∈z.2.2.2,y.ys.length≤1048576)∧Turns A0 (AA z.1++(rowBB z.2.1 z.2.2.1 z.2.2.2::z.2.2.2.map bgA)) w1 w2
def Jpr (rs:List (List Tm))(RES:List (List Tm)→Prop):Prop:=
 ∀ (a:Option Addr) (c:Nat) (ts:List TG) (w1:World),(ts.map TG.l).Perm rs→ts.Pairwise (fun x y=>¬ Jb0 cmpT y.l x.l<0)→Holds (rowR a c ts::ts.map tgA) w1 →
  Calls Tryz.prog 44 #[.slice a ts.length c,.func (.func 45) #[] #[]] w1 fun e w2=>∃ z:List TG,e=.returned (.slice a z.length c)∧RES (z.map TG.l)∧Turns (rowR a c ts::ts.map tgA) (rowR a c z::z.map tgA) w1 w2
def valF (n:Nat)(s:Bn)(v:Nat):List Tm:=((List.range v).map fun k:Nat=>(gotT s (k:Int)).getD T0)++zT (n - v)
theorem valF_len {n v:Nat}(s:Bn)(h:v≤n):(valF n s v).length=n:=by
 unfold valF zT;rw [xL,xE,List.length_range,List.length_replicate];omega
theorem valF_flat {n v:Nat}(s:Bn)(h:v≤n):((valF n s v).flatMap tmC).length=n*3:=by rw [Jdf Jc0,valF_len s h]
theorem valF_set {n v:Nat}(s:Bn)(h:v<n):(valF n s v).set v ((gotT s (v:Int)).getD T0)=valF n s (v+1):=by
 unfold valF zT;rw [List.set_append_right _ _ (by rw [xE,List.length_range];omega),xE,List.length_range,Nat.sub_self,show n - v=(n - (v+1))+1 by omega,List.replicate_succ,List.set_cons_zero,List.range_succ,xU,xF];rfl
theorem valF_end (n:Nat)(s:Bn):valF n s n=valsB n s:=by
 unfold valF valsB zT;rw [Nat.sub_self];exact xZ _
theorem CmpOK.pull0 {α β:Type}{f:α→α→Int}(hf:CmpOK f)(g:β→α):Go.Sort.SWO (Go.Proofs.ltOf fun a b:β=>f (g a) (g b)):=
 have h:=hf.swo
 ⟨fun x=>h.irrefl _,fun x y z=>h.trans _ _ _,fun x y z=>h.ntrans _ _ _⟩
set_option maxHeartbeats 1000000 in
theorem solve_from {γ:Type}(A0:List Hw.Item)(AA:γ→List Hw.Item)(pp:γ→Prop)(bl:List Bn)(RES:List (List Tm)→Prop)(bp:Value)(q:CG)(hs:CS q)(hv:VC q.cl)(hn:nV q.cl≤1048576)(lead:Option Nat)(hld:∀ l,lead=some l→l<q.cl.bd.length)(w0:World)(hN:Jdb w0)(hC:Jjz w0)(hr:RC w0 q)(w:World)(hk:Keeps w0 w)(hB:∀ b,DD A0 b→w0.heap.size≤b)(hA:Holds A0 w)(hbl:bl.length≤1048576)(hb:Jo6 bp q lead w0 A0 AA pp bl)(hcm:Jpr (bl.map (valsB (nV q.cl))) RES):Calls Tryz.prog 12 #[bp,cgV q,.int .i64 (leadI lead)] w fun e w'=>∃ z:γ × Option Addr × Nat × List TG,e=.returned (.tuple #[.slice z.2.1 z.2.2.2.length z.2.2.1,.int .i64 0])∧(pp z.1∧RES (z.2.2.2.map TG.l))∧Turns A0 (AA z.1++(rowR z.2.1 z.2.2.1 z.2.2.2::z.2.2.2.map tgA)) w w':=by
 refine Jdt hA (args:=[bp,cgV q,.int .i64 (leadI lead)]) Tryz.func12 rfl Tryz.ntmps12 rfl rfl ?_;refine Csr (WL.box rfl rfl rfl ?_);intro b4;refine Za rfl (Za rfl (Nn (Csr (Zv (OV.lN (cs:=cgC q) rfl T.u32 rfl T.z32 yH) (Zm rfl (WL.cT (ι:=PG) (vs:=[cgV q,.int .i64 (leadI lead)]) (vv:=fun p=>.tuple #[pgV p,.int .i64 0]) (pp:=fun p=>p.al=nI (Jbp q.cl)∧jnEq p.js (makeP q.cl lead)) [] (AA:=fun p=>pgA p) rfl (fun w' hw' _=>make_calls q hs hv lead hld w' (hN.keeps (Jb2 hk hB hw')) (hC.keeps (Jb2 hk hB hw')) (hr.keeps (Jb2 hk hB hw'))) ?_))))));rintro p ⟨hpa,hpj⟩;refine Zm rfl (Zv (OV.extract rfl rfl) (Zv (OV.extract rfl rfl) (WL.alloc T.zr87 rfl ?_)));intro bb8;refine WL.ag (vs:=pgC p) rfl rfl rfl T.z87 rfl ?_;refine Za rfl (Nn (Cs (Csr (Zm rfl (Zv ((OV.iu rfl rfl).cast (u:=.bool false) rfl) (Nn (WC.bu (show _=some (Value.bool false) from by rfl) ?_)))))));refine Ck (Xn (Csr (Zv (OV.lN (cs:=cgC q) rfl T.u32 rfl T.z32 (show oQ b4 (cgC q) 32∈_ by simp)) (WL.c0 (v:=.int .i64 (nV q.cl:Nat)) (vs:=[cgV q]) (fun w' hw'=>cvars_calls q hs w' (hr.keeps (Jb2 hk hB hw'))) ?_))));refine Za rfl (Nn (Csr (Za rfl (Nn (Cs (Csr (Zm rfl (Zv (OV.lN (cs:=cgC q) rfl T.u32 rfl T.z32 (show oQ b4 (cgC q) 32∈_ by simp)) (Zm rfl (Zv (OV.lN (cs:=pgC p) rfl T.u87 rfl T.z87 yH) (WL.focus (ow':=A0++(pgA p++[oQ bb8 (pgC p) 87,oQ b4 (cgC q) 32])) (pmC [[oQ bb8 (pgC p) 87],pgA p,[oQ b4 (cgC q) 32],A0] [3,1,0,2]) ?_)))))))))));refine WL.cT (ι:=γ × Option Addr × Nat × List BG) (vs:=[bp,cgV q,.int .i64 (leadI lead),pgV p]) (vv:=fun z=>.slice z.2.1 z.2.2.2.length z.2.2.1) (pp:=fun z=>pp z.1∧z.2.2.2.map (fun y=>sb y.ys)=bl∧∀ y∈z.2.2.2,y.ys.length≤1048576) A0 (AA:=fun z=>AA z.1++(rowBB z.2.1 z.2.2.1 z.2.2.2::z.2.2.2.map bgA)) rfl (fun w' hw' hH=>hb p w' hpa hpj (Jb2 hk hB hw') (Hw.Sat.holdsAll (Hw.Sat.part (by rw [← xF];exact List.sublist_append_left _ _) hw'))) ?_;rintro ⟨z0,ba,bc,bs⟩ ⟨hpz,hbs,hby⟩;refine Zv (OV.ae rfl T.u90) (Zm rfl (Nn (Cb ?_)))
 refine WC.weak (S':=SatA w A0 (row 27 1 none 0 0 []::rowBB ba bc bs::([]++((bs.map bgA)++AA z0)))) (fun w' hw=>by
  rw [xF] at hw;exact ((hw.pik [AA z0,[rowBB ba bc bs],(bs.map bgA),pgA p,[oQ bb8 (pgC p) 87],[oQ b4 (cgC q) 32]] [1,2,0] 6).rowNil 27 1)) ?_
 refine WC.dd (fun (i:Nat) (la:Option Addr) (lc:Nat) (ts:List TG)=>[(10,.int .i64 (nV q.cl:Nat)),(31,.slice ba bs.length bc),(32,.int .i64 (bs.length:Int)),(33,.int .i64 (i:Int)),(11,.slice la ts.length lc)])
   (fun i la lc ts w'=>(i≤bs.length∧ts.length=i∧ts.map TG.l=((bs.take i).map fun y=>sb y.ys).map (valsB (nV q.cl))∧∀ t∈ts,t.l.length≤1048576)∧SatA w A0 (rowR la lc ts::rowBB ba bc bs::(ts.map tgA++((bs.map bgA)++AA z0))) w')
   (fun i _ _ _=>bs.length - i) 0 none 0 [] Y5 (fun w' hw=>⟨⟨by omega,rfl,rfl,fun t ht=>by cases ht⟩,hw⟩) ?_
 intro i la lc ts;refine WC.pure (fun hi=>?_);obtain ⟨hi,htn,hte,htl⟩:=hi;have hsl0:bs.length=bl.length:=by rw [← hbs,xE]
 refine Csr (Zv (OV.cq rfl rfl) (Nn (Cs ?_)));refine Cc rfl (fun c34=>?_) (fun c34=>?_)
 ·refine Ck (Xn (Cs (Cb (Csr ?_))));obtain ⟨y,hy⟩:∃ y,bs[i]?=some y:=⟨_,xD (by omega)⟩
  have hym:=xC hy;refine WL.j2 (fun w' hw'=>(Jd4 hw' (show rowBB ba bc bs∈_ from .tail _ yH)).2) (fun hbq=>?_)
  obtain ⟨q9,hq9⟩:∃ q9,ba=some q9:=by
   rcases hbq with ⟨_,h,_⟩ | ⟨b,hb9,_⟩
   ·omega
   ·exact ⟨_,hb9⟩
  refine Zv ((OV.ad (show _=some (Value.slice (some q9) bs.length bc) by rw [← hq9];rfl) rfl T.u90 T.z54 (by omega)).cast (u:=.pointer (some (q9.add i))) (by rw [xN,Nat.mul_one])) ?_;refine WL.val (OV.ah (v:=bgV y) rfl T.u54 rfl (fun _ hw=>by have h:=Jdx hw hq9 yI i (bgV y) (by rw [xG,hy];rfl);exact h)) rfl ?_;refine Za rfl (Nn (Csr (Zm rfl (WL.ew (bytes:=32) (zc:=tmC T0) rfl rfl T.u27 T.z26 T.zr26 (by decide) (by kernel_rfl) ⟨by omega,by omega⟩ rfl ?_))));intro b38;refine Za rfl (Nn (Cs (Csr (Zm rfl (Zm rfl (Nn (Cb ?_)))))))
  refine WC.weak (S':=SatA w A0 (row 26 3 (some ⟨b38,0,none⟩) (nV q.cl) (nV q.cl) ((valF (nV q.cl) (sb y.ys) 0).flatMap tmC)::rowR la lc ts::rowBB ba bc bs::(ts.map tgA++((bs.map bgA)++AA z0)))) (fun w' hw=>by
   rw [Jke] at hw;exact hw.asRow (m:=nV q.cl) (k:=3) (by rw [Jdf Jc0];simp [zT]) (by unfold maxLen;omega)) ?_
  refine WC.cm (fun (v:Nat)=>[(10,.int .i64 (nV q.cl:Nat)),(31,.slice ba bs.length bc),(32,.int .i64 (bs.length:Int)),(33,.int .i64 (i:Int)),(11,.slice la ts.length lc),(13,bgV y),(14,.slice (some ⟨b38,0,none⟩) (nV q.cl) (nV q.cl)),(39,.int .i64 (nV q.cl:Nat)),(40,.int .i64 (v:Int))])
    (fun v w'=>v≤nV q.cl∧SatA w A0 (row 26 3 (some ⟨b38,0,none⟩) (nV q.cl) (nV q.cl) ((valF (nV q.cl) (sb y.ys) v).flatMap tmC)::rowR la lc ts::rowBB ba bc bs::(ts.map tgA++((bs.map bgA)++AA z0))) w')
    (fun v=>nV q.cl - v) 0 Y9 (fun w' hw=>⟨by omega,hw⟩) ?_
  intro v;refine WC.pure (fun hvn=>?_);have hvf:=valF_len (sb y.ys) hvn;refine Csr (Zv (OV.cq rfl rfl) (Nn (Cs ?_)));refine Cc rfl (fun c41=>?_) (fun c41=>?_)
  ·refine Ck (Xn (Cs (Cb (Csr (Zm rfl (Za rfl (Nn (Cr (Zm rfl (Zm rfl (Zm rfl (Zm rfl (WL.c0 (v:=.tuple #[tmV ((gotT (sb y.ys) (v:Int)).getD T0),.bool (gotT (sb y.ys) (v:Int)).isSome]) (vs:=[bgV y,.int .i64 (v:Int)]) (fun w' hw'=>tlook_calls y.ys (v:Int) y.a y.c (by have:=hby y hym;omega) w' (hN.keeps (Jb2 hk hB hw')) (RBd.of_row (c:=y.c) hw' (yV (.tail _ (yV (xB _ (xA _ (List.mem_map.2 ⟨y,hym,rfl⟩)))))))) ?_)))))))))))));refine Zm rfl (Zv (OV.extract rfl rfl) (Zv (OV.extract rfl rfl) (Zv ((OV.ad rfl rfl T.u27 T.z26 (by omega)).cast (u:=.pointer (some ⟨b38,v*3,none⟩)) (by rw [xN,Jap,xM])) (WL.io (vs:=tmC ((gotT (sb y.ys) (v:Int)).getD T0)) (o:=v*3) rfl rfl rfl rfl T.z26 (by rw [valF_flat _ (by omega)];show v*3+3≤_;omega) ?_))));refine Nl (Xb (Xn (Cr (Zv (OV.bm (j:=1) rfl rfl (by omega)) (Zm rfl (Nl ?_))))));have hfp:=Jmd (valF (nV q.cl) (sb y.ys) v) v ((gotT (sb y.ys) (v:Int)).getD T0) (by omega);rw [hfp,valF_set _ (by omega)];exact WX.bk (v+1) Y9 (fun w' hw=>⟨by omega,hw⟩) (by show nV q.cl - (v+1)<nV q.cl - v;omega)
  refine Ce (Xe (Xe (Xh (Xn ?_))));obtain rfl:v=nV q.cl:=by omega
  refine WC.weak (S':=SatA w A0 (tgA (⟨valsB (nV q.cl) (sb y.ys),some ⟨b38,0,none⟩,nV q.cl⟩:TG)::rowR la lc ts::rowBB ba bc bs::(ts.map tgA++((bs.map bgA)++AA z0)))) (fun w' hw=>by
   rw [valF_end] at hw;show SatA w A0 (row 26 3 (some ⟨b38,0,none⟩) (valsB (nV q.cl) (sb y.ys)).length (nV q.cl) ((valsB (nV q.cl) (sb y.ys)).flatMap tmC)::_) w';rw [Jfh];exact hw) ?_
  rw [show Value.slice (some ⟨b38,0,none⟩) (nV q.cl) (nV q.cl)=tgV (⟨valsB (nV q.cl) (sb y.ys),some ⟨b38,0,none⟩,nV q.cl⟩:TG) by unfold tgV;simp only [Jfh]];refine Cr (Zm rfl (Zm rfl (WL.br T.u39 T.z27 T.zr27 rfl rfl rfl ?_)));intro b55;refine WL.focus (ow':=rowR la lc ts::oQ b55 [tgV (⟨valsB (nV q.cl) (sb y.ys),some ⟨b38,0,none⟩,nV q.cl⟩:TG)] 27::tgA (⟨valsB (nV q.cl) (sb y.ys),some ⟨b38,0,none⟩,nV q.cl⟩:TG)::rowBB ba bc bs::(ts.map tgA++((bs.map bgA)++AA z0))) (pmP [_,_,_,_] [2,0,1,3]) ?_;refine WL.append (news:=[tgV (⟨valsB (nV q.cl) (sb y.ys),some ⟨b38,0,none⟩,nV q.cl⟩:TG)]) rfl rfl T.apR2 (fun _ _=>Jeg yI rfl) (by intro u hu;simp only [xI] at hu;subst hu;rfl) ⟨by omega,by unfold maxLen;omega⟩ rfl ?_;intro a56 c56;refine Za rfl (Nl (Xb (Xn (Cr (Zv (OV.bm (j:=1) rfl rfl (by omega)) (Zm rfl (Nl ?_)))))));have el:ts.length+1=(ts++[(⟨valsB (nV q.cl) (sb y.ys),some ⟨b38,0,none⟩,nV q.cl⟩:TG)]).length:=by simp
  have ef:ts.map tgV++[tgV (⟨valsB (nV q.cl) (sb y.ys),some ⟨b38,0,none⟩,nV q.cl⟩:TG)]=(ts++[(⟨valsB (nV q.cl) (sb y.ys),some ⟨b38,0,none⟩,nV q.cl⟩:TG)]).map tgV:=by simp
  rw [el,ef]
  exact WX.cg (i+1) a56 c56 (ts++[(⟨valsB (nV q.cl) (sb y.ys),some ⟨b38,0,none⟩,nV q.cl⟩:TG)]) Y5 (fun w' hw=>⟨⟨by omega,by simp [htn],by rw [Jb3 hy,xU,xU,xU,hte];rfl,fun t ht=>by
    rcases List.mem_append.1 ht with h | h
    ·exact htl t h
    ·simp only [xI] at h;subst h;show (valsB _ _).length≤_;rw [Jfh];exact hn⟩,by
   rw [show (ts++[(⟨valsB (nV q.cl) (sb y.ys),some ⟨b38,0,none⟩,nV q.cl⟩:TG)]).map tgA=ts.map tgA++[tgA (⟨valsB (nV q.cl) (sb y.ys),some ⟨b38,0,none⟩,nV q.cl⟩:TG)] by simp,xF];exact hw.pik [[rowR a56 c56 (ts++[(⟨valsB (nV q.cl) (sb y.ys),some ⟨b38,0,none⟩,nV q.cl⟩:TG)])],[oQ b55 [tgV (⟨valsB (nV q.cl) (sb y.ys),some ⟨b38,0,none⟩,nV q.cl⟩:TG)] 27],[tgA (⟨valsB (nV q.cl) (sb y.ys),some ⟨b38,0,none⟩,nV q.cl⟩:TG)],[rowBB ba bc bs],ts.map tgA,(bs.map bgA),AA z0] [0,3,4,2,5,6] 7⟩) (by show bs.length - (i+1)<bs.length - i;omega)
 refine Ce (Xe (Xe (Xh (Xn (Cs ?_)))));have htb:ts.map TG.l=bl.map (valsB (nV q.cl)):=by rw [hte,xK (by omega),hbs]
 refine Cr (Zm rfl ?_);have hsl:bs.length=bl.length:=by rw [← hbs,xE]
 refine WL.weak (S':=SatA w A0 (row 27 1 la ts.attach.length lc (ts.attach.map fun z=>tgV z.1)::rowBB ba bc bs::(ts.map tgA++((bs.map bgA)++AA z0)))) (fun w' hw=>by
  rw [List.length_attach,show (ts.attach.map fun z=>tgV z.1)=ts.map tgV from by
   show ts.attach.map (tgV ∘ Subtype.val)=_;rw [← List.map_map,List.attach_map_subtype_val]]
  exact hw) ?_
 refine WL.fo (ι:=List {t // t∈ts}) (vs:=[.slice la ts.length lc,.func (.func 43) #[] #[]]) (vv:=fun _=>.tuple #[]) (pp:=fun ys=>ys.Perm ts.attach∧ys.Pairwise (fun x y=>Go.Proofs.ltOf (fun a b:{t // t∈ts}=>Jb0 cmpT a.1.l b.1.l) y x=false)) (jj:=fun ys=>row 27 1 la ys.length lc (ys.map fun z=>tgV z.1)) (by kernel_rfl) rfl rfl (fun w' hw' hH=>by
  have h9:=sortFunc0_calls Tryz.sortR (fun z:{t // t∈ts}=>tgV z.1) (fun _=>rfl) (fun a b=>Jb0 cmpT a.1.l b.1.l) ((Jgw Jn1).pull0 fun z:{t // t∈ts}=>z.1.l) 43 (by kernel_rfl) la ts.attach w' hH (fun q9 hq9 w3 hfr a b=>?_) (by rw [List.length_attach];omega)
  ·rw [List.length_attach] at h9;exact h9.mono (fun en w'' ⟨h1,ys,h2,h3,h4⟩=>⟨ys,h1,⟨h2,h3⟩,by rw [List.length_attach];exact h4⟩)
  ·have key:∀ c:{t // t∈ts},RT w3 c.1.a c.1.l:=fun c=>by
    have hmem:tgA c.1∈(ts.map tgA++((bs.map bgA)++AA z0)):=xA _ (List.mem_map.2 ⟨c.1,c.2,rfl⟩);refine (RT.of_row (c:=c.1.c) rfl hw' (yV (.tail _ hmem))).fr (fun b hb _ hbq=>?_) hfr;exact hw'.apart (.tail _ hmem) q9.block ⟨q9,hq9,rfl⟩ ⟨b,hb,hbq⟩
   exact order_calls a.1.l b.1.l a.1.a b.1.a a.1.c b.1.c (by have:=htl a.1 a.2;omega) (by have:=htl b.1 b.2;omega) w3 (key a) (key b)) ?_
 rintro ys ⟨hyp,hyq⟩;obtain ⟨us,hus⟩:∃ us:List TG,us=ys.map (·.1):=⟨_,rfl⟩
 have hup:us.Perm ts:=by rw [hus];have h9:=hyp.map (·.1);rwa [List.attach_map_subtype_val] at h9
 have huq:us.Pairwise (fun x y=>¬ Jb0 cmpT y.l x.l<0):=by
  rw [hus,List.pairwise_map];refine hyq.imp fun {x y} h=>?_
  simpa [Go.Proofs.ltOf] using h
 have hul:ts.length=us.length:=hup.length_eq.symm
 refine WL.weak (S':=SatA w A0 (rowR la lc us::us.map tgA++(rowBB ba bc bs::((bs.map bgA)++AA z0)))) (fun w' hw=>by
  have e1:ys.length=us.length:=by rw [hus,xE]
  have e2:(ys.map fun z=>tgV z.1)=us.map tgV:=by rw [hus,List.map_map];rfl
  rw [e1,e2] at hw;exact hw.perm (((List.Perm.cons _ ((hup.map tgA).append_right _)).trans (List.Perm.cons _ List.perm_middle)))) ?_
 rw [hul];refine Nn (Csr (Zm rfl (WL.cT (ι:=List TG) (vs:=[.slice la us.length lc,.func (.func 45) #[] #[]]) (vv:=fun z=>.slice la z.length lc) (pp:=fun z=>RES (z.map TG.l)) (rowR la lc us::us.map tgA) (AA:=fun z=>rowR la lc z::z.map tgA) rfl (fun w' hw' hH=>(hcm la lc us w' (by rw [← htb];exact hup.map TG.l) huq hH).mono (fun en w'' ⟨z,h1,h2,h3⟩=>⟨z,h1,h2,h3⟩)) ?_)));intro zs hzs;refine Za rfl (Za rfl (Nn (WC.az ?_)));exact WX.ret2 rfl rfl rfl rfl (fun w' hw=>⟨(z0,la,lc,zs),rfl,⟨hpz,hzs⟩,(hw.pik [rowR la lc zs::zs.map tgA,[rowBB ba bc bs],(bs.map bgA),AA z0] [3,0] 4).turned⟩)
theorem decB_snd {t:Ts}(h:(decB t).1=true):(decB t).2=true:=by
 unfold decB at h ⊢
 split
 ·rfl
 ·rename_i hn;rw [if_neg hn] at h;cases h
def SolOK {γ:Type}(bp:Value)(q:CG)(lead:Option Nat)(w0:World)(A0:List Hw.Item)(AA:γ→List Hw.Item)(pp:γ→Prop)(RES:List (List Tm)→Prop):Prop:=
 ∀ w1:World,Keeps w0 w1→Holds A0 w1→Calls Tryz.prog 12 #[bp,cgV q,.int .i64 (leadI lead)] w1 fun e w2=>∃ z:γ × Option Addr × Nat × List TG,e=.returned (.tuple #[.slice z.2.1 z.2.2.2.length z.2.2.1,.int .i64 0])∧(pp z.1∧RES (z.2.2.2.map TG.l))∧Turns A0 (AA z.1++(rowR z.2.1 z.2.2.1 z.2.2.2::z.2.2.2.map tgA)) w1 w2
def CompAOK (hs:List At)(RES:List At→Prop):Prop:=
 ∀ (a:Option Addr) (c:Nat) (ys:List AG) (w1:World),(ys.map AG.x).Perm hs→ys.Pairwise (fun x y=>¬ cmpA y.x x.x<0)→Holds (rowAt a c ys::argsA ys) w1 →
  Calls Tryz.prog 59 #[.slice a ys.length c,.func (.func 60) #[] #[]] w1 fun e w2=>∃ z:List AG,e=.returned (.slice a z.length c)∧RES (z.map AG.x)∧Turns (rowAt a c ys::argsA ys) (rowAt a c z::argsA z) w1 w2
def headI (q:Cl)(r:List Tm):At:=mapA (instT r) q.hd
theorem Jjr (q:CG)(hs:CS q)(l:List Nat)(la:Option Addr)(lc:Nat)(ys:List Bd)(ya:Option Addr)(yc:Nat)(hl:l.length≤1048576)(hli:∀ i∈l,i<q.ts.length)(hyl:ys.length≤1048576)(w:World)(hN:Jdb w)(hr:RC w q)(hL:RI w la (nI l).length (nI l))(hY:RBd w ya ys):Calls Tryz.prog 88 #[cgV q,.slice la (nI l).length lc,.slice ya ys.length yc] w fun e w'=>e=.returned (.bool (Je1 q.cl l (sb ys)))∧Fr0 w w':=by
 refine Jbo (args:=[cgV q,.slice la (nI l).length lc,.slice ya ys.length yc]) (fun _=>False) Tryz.func88 rfl Tryz.ntmps88 rfl rfl ?_;refine Csr (WL.box rfl rfl rfl ?_);intro b3;refine Za rfl (Nn (Cs (Csr (Zm rfl (Zv (OV.ae rfl T.u51) (Zm rfl (Nn (Cb ?_))))))))
 refine WC.cm (fun (i:Nat)=>[(2,.slice ya ys.length yc),(3,yZ b3),(11,.slice la (nI l).length lc),(12,.int .i64 ((nI l).length:Int)),(13,.int .i64 (i:Int))])
   (fun i w'=>(i≤(nI l).length∧∀ u∈l.take i,okT (sb ys) (clT q.cl u)=true)∧Sat0 w (oQ b3 (cgC q) 32::[]) w')
   (fun i=>(nI l).length - i) 0 Y5 (fun w' hw=>⟨⟨by omega,fun u hu=>by simp at hu⟩,hw⟩) ?_
 intro i;refine WC.pure (fun hi=>?_);obtain ⟨hi,hn⟩:=hi;refine Csr (Zv (OV.cq rfl rfl) (Nn (Cs ?_)));refine Cc rfl (fun c14=>?_) (fun c14=>?_)
 ·refine Ck (Xn (Cs (Cb (Csr ?_))));have htl:=hs.tl;have hnl:(nI l).length=l.length:=xE _;obtain ⟨q9,hq9⟩:=hL.some (by omega);obtain ⟨u,hu⟩:∃ u,l[i]?=some u:=⟨_,xD (by omega)⟩
  have hui:=hli u (xC hu);have hun:(nI l)[i]?=some (u:Int):=by unfold nI;rw [xG,hu];rfl
  have hL2:RI w (some q9) (nI l).length (nI l):=by rw [← hq9];exact hL
  refine Zv ((OV.ad (show _=some (Value.slice (some q9) (nI l).length lc) by rw [← hq9];rfl) rfl T.u51 T.z3 (by omega)).cast (u:=.pointer (some (q9.add i))) (by rw [xN,Nat.mul_one])) (Zv (OV.ah (v:=.int .i64 (u:Int)) rfl T.u3 rfl (fun _ hw=>hw.keeps _ _ (ri_at hL2 hun))) (Za rfl (Nn (Csr (Zm rfl (Zv (OV.f0 6 rfl T.u32 rfl) (Zv (OV.l1 (v:=.slice q.ta q.ts.length q.tc) rfl T.u30 rfl yH rfl) (Zm rfl ?_))))))));obtain ⟨q1,t,hq,ht,htm,hc⟩:=hr.ts.get (i:=u) (by omega);refine Zv ((OV.ad (show _=some (Value.slice (some q1) q.ts.length q.tc) by rw [← hq];rfl) rfl T.u30 T.z61 (by omega)).cast (u:=.pointer (some (q1.add (u*7)))) (by rw [xN])) (Zv (OV.ai (cs:=tsC t) rfl T.u61 rfl T.z61 (fun _ hw j v hj=>hw.keeps _ _ (hc j v hj))) (WL.au (v:=tsV (appT (sb ys) t)) (by kernel_rfl) rfl rfl (fun w' hw'=>applyTest_calls ys t ya yc (by omega) w' (hN.keeps hw'.keeps) (hY.keeps hw'.keeps)) ?_));refine WL.au (v:=.tuple #[.bool (decB (appT (sb ys) t)).1,.bool (decB (appT (sb ys) t)).2]) (by kernel_rfl) rfl rfl (fun w' hw'=>decide_calls (appT (sb ys) t) w') ?_;refine Zm rfl (Zv (OV.extract rfl rfl) (Zv (OV.extract rfl rfl) (Za rfl (Za rfl (Nn (Csr (Zm rfl (Zv (OV.not rfl) (Zm rfl ?_)))))))));refine Zp (t:=30) rfl (fun g30=>?_) (fun g30=>?_)
  ·refine yX (yX (Zv (OV.am rfl rfl) (Nn (WC.co (show _=some (Value.bool true) from by rfl) ?_))));refine Csr (Za rfl (Nn (WC.az ?_)));refine Xq (Xr (Xr (Xq (Xr ?_))))
   have hno:Je1 q.cl l (sb ys)=false:=by
    unfold Je1;rw [List.all_eq_false];refine ⟨u,xC hu,?_⟩;rw [Jnk ht];unfold okT;intro h;have:=decB_snd h
    simp_all
   exact WX.ret1 rfl rfl rfl (fun w' hw=>⟨by rw [hno],hw.fr⟩)
  refine yY (Zm rfl (yY (Zv (OV.not rfl) (Zv (OV.aj rfl rfl) (Nn ?_)))));refine Cc rfl (fun c33=>?_) (fun c33=>?_)
  ·refine Csr (Za rfl (Nn (WC.az ?_)));refine Xq (Xr (Xr (Xq (Xr ?_))))
   have hno:Je1 q.cl l (sb ys)=false:=by
    unfold Je1;rw [List.all_eq_false];refine ⟨u,xC hu,?_⟩;rw [Jnk ht];unfold okT;intro h
    simp_all
   exact WX.ret1 rfl rfl rfl (fun w' hw=>⟨by rw [hno],hw.fr⟩)
  refine Ck (Xb (Xn (Cr (Zv (OV.bm (j:=1) rfl rfl (by omega)) (Zm rfl (Nl ?_))))))
  exact WX.bk (i+1) Y5 (fun w' hw=>⟨⟨by omega,fun z hz=>by
   rw [Jb3 hu] at hz;rcases List.mem_append.1 hz with h1 | h1
   ·exact hn z h1
   ·simp only [xI] at h1;rw [h1,Jnk ht];unfold okT;simpa using c33⟩,hw⟩) (by show (nI l).length - (i+1)<(nI l).length - i;omega)
 refine Ce (Xe (Xe (Xh (Xn (Csr (Za rfl (Nn (WC.az ?_))))))));have hnl:(nI l).length=l.length:=xE _
 have hyes:Je1 q.cl l (sb ys)=true:=by
  unfold Je1;exact List.all_eq_true.2 fun u hu=>hn u (by rw [xK (by omega)];exact hu)
 exact WX.ret1 rfl rfl rfl (fun w' hw=>⟨by rw [hyes],hw.fr⟩)
set_option maxHeartbeats 1000000 in
theorem fire_from {γ:Type}(A0:List Hw.Item)(AA:γ→List Hw.Item)(pp:γ→Prop)(RES:List (List Tm)→Prop)(RES2:List (List Tm)→List At→Prop)(bp:Value)(q:CG)(hs:CS q)(lead:Option Nat)(w0:World)(hr:RC w0 q)(w:World)(hk:Keeps w0 w)(hB:∀ b,DD A0 b→w0.heap.size≤b)(hA:Holds A0 w)(hsol:SolOK bp q lead w0 A0 AA pp RES)(hrl:∀ rs,RES rs→rs.length≤1048576∧∀ r∈rs,r.length≤1048576)(hcm:∀ rs,RES rs→CompAOK (rs.map (headI q.cl)) (RES2 rs)):Calls Tryz.prog 24 #[bp,cgV q,.int .i64 (leadI lead)] w fun e w'=>∃ z:γ × List (List Tm) × Option Addr × Nat × List AG,e=.returned (.tuple #[.slice z.2.2.1 z.2.2.2.2.length z.2.2.2.1,.int .i64 0])∧(pp z.1∧RES z.2.1∧RES2 z.2.1 (z.2.2.2.2.map AG.x))∧Turns A0 (AA z.1++(rowAt z.2.2.1 z.2.2.2.1 z.2.2.2.2::argsA z.2.2.2.2)) w w':=by
 refine Jdt hA (args:=[bp,cgV q,.int .i64 (leadI lead)]) Tryz.func24 rfl Tryz.ntmps24 rfl rfl ?_;refine Csr (WL.box rfl rfl rfl ?_);intro b4;refine Za rfl (Za rfl (Nn (Csr (Zm rfl (Zv (OV.lN (cs:=cgC q) rfl T.u32 rfl T.z32 yH) (Zm rfl (WL.focus (ow':=A0++[oQ b4 (cgC q) 32]) (pmC [[oQ b4 (cgC q) 32],A0] [1,0]) ?_)))))));refine WL.cT (ι:=γ × Option Addr × Nat × List TG) (vs:=[bp,cgV q,.int .i64 (leadI lead)]) (vv:=fun z=>.tuple #[.slice z.2.1 z.2.2.2.length z.2.2.1,.int .i64 0]) (pp:=fun z=>pp z.1∧RES (z.2.2.2.map TG.l)) A0 (AA:=fun z=>AA z.1++(rowR z.2.1 z.2.2.1 z.2.2.2::z.2.2.2.map tgA)) rfl (fun w' hw' hH=>hsol w' (Jb2 hk hB hw') hH) ?_;rintro ⟨z0,ta,tc,ts⟩ ⟨hpz,hres⟩;have hrl2:=hrl _ hres;rw [xE] at hrl2;have hrl3:ts.length≤1048576:=hrl2.1;have hsh:=hs.at_ q.hd (Or.inl rfl);refine Zm rfl (Zv (OV.extract rfl rfl) (Zv (OV.extract rfl rfl) (Za rfl (Za rfl (Nn (Cs (Csr (Zm rfl (Zv ((OV.iu rfl rfl).cast (u:=.bool false) rfl) (Nn (WC.bu (show _=some (Value.bool false) from by rfl) ?_)))))))))));refine Ck (Xn (Csr (Za rfl (Nn (Cs (Csr (Zm rfl (Zv (OV.ae rfl T.u39) (Zm rfl (Nn (Cb ?_)))))))))))
 refine WC.weak (S':=SatA w A0 (row 29 5 none 0 0 []::rowR ta tc ts::oQ b4 (cgC q) 32::([]++(ts.map tgA++AA z0)))) (fun w' hw=>by
  rw [xF] at hw;exact ((hw.pik [AA z0,[rowR ta tc ts],ts.map tgA,[oQ b4 (cgC q) 32]] [1,3,2,0] 4).rowNil 29 5)) ?_
 refine WC.dd (fun (i:Nat) (la:Option Addr) (lc:Nat) (ys:List AG)=>[(4,yZ b4),(10,.slice la ys.length lc),(23,.slice ta ts.length tc),(24,.int .i64 (ts.length:Int)),(25,.int .i64 (i:Int))])
   (fun i la lc ys w'=>(i≤ts.length∧ys.length=i∧ys.map AG.x=((ts.take i).map TG.l).map (headI q.cl)∧∀ y∈ys,y.x.args.length≤1048575)∧SatA w A0 (rowAt la lc ys::rowR ta tc ts::oQ b4 (cgC q) 32::(argsA ys++(ts.map tgA++AA z0))) w')
   (fun i _ _ _=>ts.length - i) 0 none 0 [] Y5 (fun w' hw=>⟨⟨by omega,rfl,rfl,fun t ht=>by cases ht⟩,hw⟩) ?_
 intro i la lc ys;refine WC.pure (fun hi=>?_);obtain ⟨hi,hyn,hye,hya⟩:=hi;refine Csr (Zv (OV.cq rfl rfl) (Nn (Cs ?_)));refine Cc rfl (fun c26=>?_) (fun c26=>?_)
 ·refine Ck (Xn (Cs (Cb (Csr ?_))));obtain ⟨y,hy⟩:∃ y,ts[i]?=some y:=⟨_,xD (by omega)⟩
  have hym:=xC hy;refine WL.j2 (fun w' hw'=>(Jd4 hw' (show rowR ta tc ts∈_ from .tail _ yH)).2) (fun hbq=>?_)
  obtain ⟨q9,hq9⟩:∃ q9,ta=some q9:=by
   rcases hbq with ⟨_,h,_⟩ | ⟨b,hb9,_⟩
   ·omega
   ·exact ⟨_,hb9⟩
  refine Zv ((OV.ad (show _=some (Value.slice (some q9) ts.length tc) by rw [← hq9];rfl) rfl T.u39 T.z27 (by omega)).cast (u:=.pointer (some (q9.add i))) (by rw [xN,Nat.mul_one])) ?_;refine WL.val (OV.ah (v:=tgV y) rfl T.u27 rfl (fun _ hw=>by have h:=Jdx hw hq9 yI i (tgV y) (by rw [xG,hy];rfl);exact h)) rfl ?_;refine Za rfl (Nn (Cr (Zm rfl (Zv (OV.lN (cs:=cgC q) rfl T.u32 rfl T.z32 yJ) (Zm rfl (WL.cT (ι:=CG) (vs:=[cgV q,tgV y]) (vv:=fun g'=>cgV g') (pp:=fun g'=>g'.cl=mapC (instT y.l) q.cl) [] (AA:=fun g'=>cgA g') rfl (fun w' hw' _=>(instance_calls q hs y.l y.a y.c (by have:=hrl2.2 y.l (List.mem_map.2 ⟨y,hym,rfl⟩);omega) w' (hr.keeps (Jb2 hk hB hw')) (RT.of_row (c:=y.c) rfl hw' (yV (.tail _ (yV (xB _ (xA _ (List.mem_map.2 ⟨y,hym,rfl⟩)))))))).mono (fun en w'' ⟨g',h1,h2,h3⟩=>⟨g',h1,h2,h3⟩)) ?_))))));intro g' hg';have hgx:g'.hd.x=headI q.cl y.l:=congrArg Cl.hd hg';refine Zv (OV.fieldS (vs:=agC g'.hd) rfl T.u32 rfl T.u29 rfl T.z29 rfl) (WL.bg (cs:=agC g'.hd) T.u22 T.z29 T.zr29 rfl rfl (by omega) (by omega) rfl ?_);intro b34;refine WL.focus (ow':=rowAt la lc ys::(oQ b34 (agC g'.hd) 29::(cgA g'++(rowR ta tc ts::oQ b4 (cgC q) 32::(argsA ys++(ts.map tgA++AA z0)))))) (pmC [[oQ b34 (agC g'.hd) 29],cgA g',[rowAt la lc ys],[rowR ta tc ts],[oQ b4 (cgC q) 32],argsA ys,(ts.map tgA++AA z0)] [2,0,1,3,4,5,6]) ?_;refine WL.append (news:=agC g'.hd) rfl rfl T.apA (fun _ _=>Jcw yI rfl) (Jis _) ⟨by omega,by unfold maxLen;omega⟩ rfl ?_;intro a35 c35;refine Za rfl (Nl (Xb (Xn (Cr (Zv (OV.bm (j:=1) rfl rfl (by omega)) (Zm rfl (Nl ?_)))))));have el:ys.length+1=(ys++[g'.hd]).length:=by simp
  have ef:ys.flatMap agC++agC g'.hd=(ys++[g'.hd]).flatMap agC:=by simp
  rw [el,ef]
  exact WX.cg (i+1) a35 c35 (ys++[g'.hd]) Y5 (fun w' hw=>⟨⟨by omega,by simp [hyn],by rw [Jb3 hy,xU,xU,xU,hye];simp only [yC,yD];rw [hgx],fun t ht=>by
    rcases List.mem_append.1 ht with h | h
    ·exact hya t h
    ·simp only [xI] at h;subst h;rw [hgx];show (q.hd.x.args.map _).length≤_;rw [xE];exact hsh.1⟩,by
   rw [Jjn,xF];refine Hw.Sat.pick [[rowAt a35 c35 (ys++[g'.hd])],[oQ b34 (agC g'.hd) 29],[argA g'.hd],atsA g'.ba g'.bc g'.bd++[rowS g'.ta g'.tc g'.ts],[rowR ta tc ts],[oQ b4 (cgC q) 32],argsA ys,(ts.map tgA++AA z0)] [0,4,5,6,2,7] 8 rfl (by decide) (by decide) ?_;exact hw⟩) (by show ts.length - (i+1)<ts.length - i;omega)
 refine Ce (Xe (Xe (Xh (Xn (Cs ?_)))));have hye2:ys.map AG.x=(ts.map TG.l).map (headI q.cl):=by rw [hye,xK (by omega)]
 have hyl2:ys.length=ts.length:=by have h9:=congrArg List.length hye2;simpa using h9
 refine Cr (Zm rfl (WL.focus (ow':=rowAt la lc ys::(argsA ys++(rowR ta tc ts::oQ b4 (cgC q) 32::(ts.map tgA++AA z0)))) (by exact pmC [[rowAt la lc ys],[rowR ta tc ts],[oQ b4 (cgC q) 32],argsA ys,(ts.map tgA++AA z0)] [0,3,1,2,4]) ?_));obtain ⟨us,hus⟩:∃ us:List {y:AG // y∈ys},us.map (·.1)=ys:=⟨_,List.attach_map_subtype_val ys⟩
 have hul:us.length=ys.length:=by have h:=congrArg List.length hus;rwa [xE] at h
 have huf:us.flatMap (fun z=>agC z.1)=ys.flatMap agC:=by have h:=congrArg (List.flatMap agC) hus;rwa [List.flatMap_map] at h
 refine WL.cT (ι:=List {y:AG // y∈ys}) (vs:=[.slice la ys.length lc,.func (.func 29) #[] #[]]) (vv:=fun _=>.tuple #[]) (pp:=fun vs=>vs.Perm us∧vs.Pairwise (fun x y=>Go.Proofs.ltOf (fun a b:{y:AG // y∈ys}=>cmpA a.1.x b.1.x) y x=false)) [rowAt la lc ys] (AA:=fun vs=>[rowAt la lc (vs.map (·.1))]) rfl (fun w' hw' hH=>?_) ?_
 ·have hcon:=Jfj (P:=Tryz.prog) Tryz.sortA (T:=29) (c:=lc) 5 (by decide) (by kernel_rfl) T.z29 (fun z:{y:AG // y∈ys}=>agC z.1) (fun _=>rfl) (fun z=>Jis z.1) (fun a b=>cmpA a.1.x b.1.x) (cmpA_ok.pull_swo fun z:{y:AG // y∈ys}=>z.1.x) 29 (by kernel_rfl) la us w' (by rw [hul,huf];exact hH) ?_ (by omega)
  ·rw [hul,huf] at hcon;refine hcon.mono ?_;rintro en w'' ⟨h1,vs,h2,h3,h4⟩;refine ⟨vs,h1,⟨h2,h3⟩,?_⟩;have e1:(vs.map (·.1)).length=vs.length:=xE ..;have e2:(vs.map (·.1)).flatMap agC=vs.flatMap fun z=>agC z.1:=by rw [List.flatMap_map]
   show Turns _ [row _ _ la (vs.map (·.1)).length lc ((vs.map (·.1)).flatMap agC)] _ _;rw [e1,e2];exact h4
  ·intro q8 hq8 w2 hf y1 y2
   have hrt:∀ y:{y:AG // y∈ys},RT w2 y.1.a y.1.x.args:=fun y=>by
    have hm:argA y.1∈rowAt la lc ys::(argsA ys++(rowR ta tc ts::oQ b4 (cgC q) 32::(ts.map tgA++AA z0))):=.tail _ (xA _ (List.mem_map.2 ⟨y.1,y.2,rfl⟩));refine RT.fr (RT.of_row (c:=y.1.c) rfl hw' hm) (fun q2 hq2 _ he=>?_) hf;exact (List.pairwise_cons.1 hw'.disj).1 (argA y.1) (xB _ (xA _ (List.mem_map.2 ⟨y.1,y.2,rfl⟩))) q8.block ⟨q8,hq8,rfl⟩ ⟨q2,hq2,he⟩
   exact Jk5 y1.1.x y2.1.x y1.1.a y2.1.a y1.1.c y2.1.c (by have:=hya y1.1 y1.2;omega) (by have:=hya y2.1 y2.2;omega) w2 (hrt y1) (hrt y2)
 rintro vs ⟨hvp,hvsort⟩;obtain ⟨vv,hvv⟩:∃ vv,vv=vs.map (·.1):=⟨_,rfl⟩
 have htp:vv.Perm ys:=by have h:=hvp.map (·.1);rwa [hus,← hvv] at h
 have htl:ys.length=vv.length:=htp.length_eq.symm
 have htq:vv.Pairwise (fun x y=>¬ cmpA y.x x.x<0):=by
  rw [hvv,List.pairwise_map];refine hvsort.imp fun {x y} h=>?_
  simpa [Go.Proofs.ltOf] using h
 refine WL.weak (S':=SatA w A0 (rowAt la lc vv::argsA vv++(rowR ta tc ts::oQ b4 (cgC q) 32::(ts.map tgA++AA z0)))) (fun w' hw=>by
  rw [← hvv] at hw;exact hw.perm (List.Perm.cons _ ((htp.map argA).append_right _))) ?_
 rw [htl];refine Nn (Csr (Zm rfl (WL.cT (ι:=List AG) (vs:=[.slice la vv.length lc,.func (.func 60) #[] #[]]) (vv:=fun z=>.slice la z.length lc) (pp:=fun z=>RES2 (ts.map TG.l) (z.map AG.x)) (rowAt la lc vv::argsA vv) (AA:=fun z=>rowAt la lc z::argsA z) rfl (fun w' hw' hH=>(hcm _ hres la lc vv w' (by rw [← hye2];exact htp.map AG.x) htq hH).mono (fun en w'' ⟨z,h1,h2,h3⟩=>⟨z,h1,h2,h3⟩)) ?_)));intro zs hzs;refine Za rfl (Za rfl (Nn (WC.az ?_)));exact WX.ret2 rfl rfl rfl rfl (fun w' hw=>⟨(z0,ts.map TG.l,la,lc,zs),rfl,⟨hpz,hres,hzs⟩,(hw.pik [rowAt la lc zs::argsA zs,[rowR ta tc ts],[oQ b4 (cgC q) 32],ts.map tgA,AA z0] [4,0] 5).turned⟩)
abbrev onN:ByteArray:=⟨#[111,110]⟩
def onG:CG:=⟨⟨⟨T0,onN,[]⟩,none,0⟩,none,0,[],none,0,[]⟩
theorem on_name:nameB onN=true:=by
 unfold nameB;rw [decide_eq_true_eq];refine ⟨by decide,by decide,by decide,by decide,by decide,fun i hi=>?_⟩;have h2:i<2:=hi;rcases i with _ | _ | i
 ·decide
 ·decide
 ·omega
theorem on_chk:chkA onG.hd.x=0:=chkA_zero.2 ⟨on_name,by decide,Or.inl rfl,fun t ht=>by cases ht⟩
theorem on_terms:Jbi onG.cl=[T0]:=rfl
theorem on_ded:dedV (Jbi onG.cl)=[]:=by
 rw [on_terms];decide
theorem on_vc:VC onG.cl where
 bl:=by decide
 tl:=by decide
 hd:=on_chk
 bd:=fun a ha=>by cases ha
 ts:=fun t ht=>by cases ht
 hb:=by decide
 safe:=fun t ht hv=>by
  have h1:t=T0:=by
   rcases List.mem_append.1 ht with h | h
   ·rcases List.mem_cons.1 h with h | h
    ·exact h
    ·cases h
   ·cases h
  rw [h1] at hv;exact absurd hv (by decide)
 num:=fun i t hi=>by rw [on_ded] at hi;simp at hi
theorem on_nV:nV onG.cl=0:=by unfold nV;rw [on_ded];rfl
theorem on_cs:CS onG where
 at_:=fun y hy=>by
  rcases hy with rfl | hy
  ·exact ⟨by decide,by decide⟩
  ·cases hy
 bl:=by decide
 tl:=by decide
 tt:=by rw [on_terms];decide
theorem on_rc (w:World):RC w onG:=⟨RT.nil0 w,⟨fun _=>rfl,(fun q hq=>by cases hq),fun y hy=>by cases hy⟩,⟨fun _=>rfl,fun q hq=>by cases hq⟩⟩
theorem on_ref:refC onG.cl 0=91:=by
 unfold refC;rw [if_neg (fun h=>h on_vc.chk),if_pos (Or.inr (by decide))]
theorem perm_one {α:Type}{l:List α}{x:α}(h:l.Perm [x]):l=[x]:=List.perm_singleton.1 h
theorem bind0_calls (bp:Value)(aa:Option Addr)(ac:Nat)(ja:Option Addr)(jc:Nat)(w:World)(hN:Jdb w):Calls Tryz.prog 40 #[bp,cgV onG,.int .i64 (-1),pgV ⟨aa,ac,[],ja,jc,[]⟩] w fun e w'=>∃ b,e=.returned (.slice (some ⟨b,0,none⟩) 1 1)∧Turns [] [oQ b [Value.slice none 0 0] 54] w w':=by
 refine Jbo (args:=[bp,cgV onG,.int .i64 (-1),pgV ⟨aa,ac,[],ja,jc,[]⟩]) (fun _=>False) Tryz.func40 rfl Tryz.ntmps40 rfl rfl ?_;refine Csr (WL.box rfl rfl rfl ?_);intro b5;refine WL.box rfl rfl rfl ?_;intro b7;refine Za rfl (Nn (WC.scope ?_));refine Cs (Csr (Zv (OV.lN (cs:=cgC onG) rfl T.u32 rfl T.z32 yI) (Zv (OV.f0 0 rfl T.u87 rfl) (Zv (OV.l1 (v:=.slice aa 0 ac) rfl T.u51 rfl yH rfl) (WL.c0 (v:=.bool true) (vs:=[cgV onG,.slice aa 0 ac,.slice none 0 0]) (fun w' hw'=>(Jjr onG on_cs [] aa ac [] none 0 (by decide) (fun i hi=>by cases hi) (by decide) w' (hN.keeps hw'.keeps) (on_rc w') ⟨rfl,fun _=>rfl,fun b hb j n hj=>by simp at hj⟩ (RBd.nil0 w'))) ?_)))));refine Zv (OV.not rfl) (Nn (WC.bu (show _=some (Value.bool false) from by rfl) ?_));refine Ck (Xn (Cs (Csr (Zv (OV.f0 1 rfl T.u87 rfl) (Zv (OV.l1 (v:=.slice ja 0 jc) rfl T.u85 rfl yH rfl) (Zv (OV.ae rfl T.u85) (Zv ((OV.eb rfl rfl).cast (u:=.bool true) rfl) (Nn (WC.co (show _=some (Value.bool true) from by rfl) ?_)))))))));refine Csr (WL.br T.u90 T.z54 T.zr54 rfl rfl rfl ?_);intro b25;refine Za rfl (Nn (WC.az ?_));refine Xr (WX.f1 ?_);exact WX.ret1 rfl rfl rfl (fun w' hw=>⟨b25,rfl,(hw.pik [[oQ b25 [Value.slice none 0 0] 54],[oQ b7 (pgC ⟨aa,ac,[],ja,jc,[]⟩) 87],[oQ b5 (cgC onG) 32]] [0] 3).turned0⟩)
theorem on_binds (bp:Value)(w0:World)(hN:Jdb w0):Jo6 (γ:=Unit) bp onG none w0 [] (fun _=>[]) (fun _=>True) [[]]:=by
 intro p w1 hpa hpj hk _;obtain ⟨aa,ac,al,ja,jc,js⟩:=p;obtain rfl:al=[]:=hpa
 obtain rfl:js=[]:=by
  have h9:=congrArg List.length (show js.map _=_ from hpj);rw [xE] at h9;exact List.length_eq_zero_iff.1 h9
 refine (bind0_calls bp aa ac ja jc w1 (hN.keeps hk)).mono ?_;rintro e w2 ⟨b,h1,h2⟩;refine ⟨((),some ⟨b,0,none⟩,1,[⟨[],none,0⟩]),h1,⟨trivial,rfl,fun y hy=>by simp only [xI] at hy;subst hy;decide⟩,?_⟩;have h3:=(Sat.startA (w:=w1) (A:=[]) ⟨(fun i hi=>by cases hi),(fun i hi=>by cases hi),List.Pairwise.nil⟩)
 have h4:Sat w1 (DD []) (fun b=>b<w1.heap.size∧¬ DD [] b) w1 ([oQ b [Value.slice none 0 0] 54]++[]) w2:=Hw.Sat.turns (A:=[]) (ow:=[]) h3 h2;have h5:=(h4.asRow (m:=1) (k:=1) rfl (by decide)).rowNil 64 4;exact (h5.perm (pmP [_,_] [1,0])).turned
theorem on_comp:Jpr ([[]].map (valsB (nV onG.cl))) (fun rs=>rs=[[]]):=by
 intro a c ts w1 hp _ hA
 have h1:ts.map TG.l=[[]]:=by
  have h2:=perm_one (x:=valsB (nV onG.cl) []) hp;rw [h2,on_nV];rfl
 have h3:ts.length=1:=by have h4:=congrArg List.length h1;simpa using h4
 exact (compR1_calls a ts.length c _ (by omega) w1).mono (fun e w2 ⟨h5,h6⟩=>⟨ts,h5,h1,⟨h6.mono (fun _ f=>f.elim),(Hw.Sat.keep (Sat.startA hA) h6).holdsAll.φ,fun i hi b hb=>⟨(Hw.Sat.keep (Sat.startA hA) h6).holdsAll.lt i hi b hb,Or.inl ⟨i,hi,hb⟩⟩,hA.disj⟩⟩)
theorem on_compA (rs:List (List Tm))(hrs:rs=[[]]):CompAOK (rs.map (headI onG.cl)) (fun xs=>xs=rs.map (headI onG.cl)):=by
 intro a c ys w1 hp _ hA
 have h1:ys.map AG.x=rs.map (headI onG.cl):=by
  subst hrs;exact perm_one hp
 have h3:ys.length=1:=by have h4:=congrArg List.length h1;rw [hrs] at h4;simpa using h4
 exact (compA1_calls a ys.length c _ (by omega) w1).mono (fun e w2 ⟨h5,h6⟩=>⟨ys,h5,h1,⟨h6.mono (fun _ f=>f.elim),(Hw.Sat.keep (Sat.startA hA) h6).holdsAll.φ,fun i hi b hb=>⟨(Hw.Sat.keep (Sat.startA hA) h6).holdsAll.lt i hi b hb,Or.inl ⟨i,hi,hb⟩⟩,hA.disj⟩⟩)
theorem nil_holds (w:World):Holds [] w:=⟨(fun i hi=>by cases hi),(fun i hi=>by cases hi),List.Pairwise.nil⟩
theorem on_solve (bp:Value)(w0:World)(hN:Jdb w0)(hC:Jjz w0):SolOK (γ:=Unit) bp onG none w0 [] (fun _=>[]) (fun _=>True) (fun rs=>rs=[[]]):=by
 intro w1 hk hA;exact solve_from (γ:=Unit) [] (fun _=>[]) (fun _=>True) [[]] (fun rs=>rs=[[]]) bp onG on_cs on_vc (by rw [on_nV];decide) none (fun l hl=>by cases hl) w0 hN hC (on_rc w0) w1 hk (fun b hb=>absurd hb (DD_nil b)) hA (by decide) (on_binds bp w0 hN) on_comp
theorem on_fire (bp:Value)(w0 w1:World)(hk:Keeps w0 w1)(hN:Jdb w0)(hC:Jjz w0):Calls Tryz.prog 24 #[bp,cgV onG,.int .i64 (leadI none)] w1 fun e w'=>∃ z:Unit × List (List Tm) × Option Addr × Nat × List AG,e=.returned (.tuple #[.slice z.2.2.1 z.2.2.2.2.length z.2.2.2.1,.int .i64 0])∧(True∧z.2.1=[[]]∧z.2.2.2.2.map AG.x=z.2.1.map (headI onG.cl))∧Turns [] ([]++(rowAt z.2.2.1 z.2.2.2.1 z.2.2.2.2::argsA z.2.2.2.2)) w1 w':=
 fire_from (γ:=Unit) [] (fun _=>[]) (fun _=>True) (fun rs=>rs=[[]]) (fun rs xs=>xs=rs.map (headI onG.cl)) bp onG on_cs none w0 (on_rc w0) w1 hk (fun b hb=>absurd hb (DD_nil b)) (nil_holds w1) (on_solve bp w0 hN hC) (fun rs hrs=>by subst hrs;exact ⟨by decide,fun r hr=>by simp only [xI] at hr;subst hr;decide⟩) on_compA
theorem first_calls (w:World)(hN:Jdb w)(hC:Jjz w):Calls Tryz.prog 11 #[] w fun e w'=>e=.returned (.bool true)∧Fr0 w w':=by
 refine Jbo (args:=[]) (fun _=>False) Tryz.func11 rfl Tryz.ntmps11 rfl rfl ?_;refine Csr (Za rfl (Nn (Csr (Zv (OV.ao (xs:=[(1,.const (.string onN))]) (pl:=[(0,3),(3,1),(4,1)]) (cs:=atC ⟨T0,onN,[]⟩ none 0) T.u29 T.zr29 (by kernel_rfl) rfl (Jal (us:=[_]) rfl rfl yW rfl)) (Zv (OV.ao (xs:=[(0,.tmp 9)]) (pl:=[(0,5),(5,1),(6,1)]) (cs:=cgC onG) T.u32 T.zr32 (by kernel_rfl) rfl (Jal (us:=atC ⟨T0,onN,[]⟩ none 0) rfl rfl yW rfl)) (WL.alloc T.zr32 rfl ?_))))));intro b1;refine WL.ag (vs:=cgC onG) rfl rfl rfl T.z32 rfl ?_;refine Nn (Csr (WL.cT (ι:=Nat × Nat) (vs:=[]) (vv:=fun z=>ptr z.1) (pp:=fun _=>True) [] (AA:=fun z=>baseA ⟨z.1,none,none,0,[],z.2,[]⟩) rfl (fun w' hw' _=>(bnew_calls w').mono (fun en w'' ⟨p,rb,h1,h2⟩=>⟨(p,rb),h1,trivial,h2⟩)) ?_));rintro ⟨bp,rb⟩ _;refine Za rfl (Nn (Cs (Csr (Zm rfl (Zv (OV.lp T.u35 rfl rfl) (Nn (WC.bu (show _=some (Value.bool false) from by rfl) ?_)))))));refine Ck (Xn (Csr (Zm rfl (Zv (OV.lN (cs:=cgC onG) rfl T.u32 rfl T.z32 (show oQ b1 (cgC onG) 32∈_ by simp)) (WL.cT (ι:=Unit × Option Addr × Nat × List TG) (vs:=[ptr bp,cgV onG,.int .i64 (-1)]) (vv:=fun z=>.tuple #[.slice z.2.1 z.2.2.2.length z.2.2.1,.int .i64 0]) (pp:=fun z=>True∧z.2.2.2.map TG.l=[[]]) [] (AA:=fun z=>[]++(rowR z.2.1 z.2.2.1 z.2.2.2::z.2.2.2.map tgA)) rfl (fun w' hw' _=>on_solve (ptr bp) w (hN) (hC) w' hw'.keeps (nil_holds w')) ?_)))));rintro ⟨_,ta,tc,ts⟩ ⟨_,hts⟩;dsimp only at hts;obtain ⟨t,rfl⟩:∃ t,ts=[t]:=List.length_eq_one_iff.1 (by have h9:=congrArg List.length hts;rwa [xE] at h9);have htl:t.l=[]:=by simpa using hts
 refine Zm rfl (Zv (OV.extract rfl rfl) (Zv (OV.extract rfl rfl) (Za rfl (Za rfl (Nn (Csr (Zm rfl (Zv (OV.lN (cs:=cgC onG) rfl T.u32 rfl T.z32 (show oQ b1 (cgC onG) 32∈_ by simp)) (WL.cT (ι:=Unit × List (List Tm) × Option Addr × Nat × List AG) (vs:=[ptr bp,cgV onG,.int .i64 (-1)]) (vv:=fun z=>.tuple #[.slice z.2.2.1 z.2.2.2.2.length z.2.2.2.1,.int .i64 0]) (pp:=fun z=>True∧z.2.1=[[]]∧z.2.2.2.2.map AG.x=z.2.1.map (headI onG.cl)) [] (AA:=fun z=>[]++(rowAt z.2.2.1 z.2.2.2.1 z.2.2.2.2::argsA z.2.2.2.2)) rfl (fun w' hw' _=>on_fire (ptr bp) w w' hw'.keeps hN hC) ?_)))))))));rintro ⟨_,rs,la,lc,ys⟩ ⟨_,hrs,hys⟩;dsimp only at hrs hys;rw [hrs] at hys;obtain ⟨y,rfl⟩:∃ y,ys=[y]:=List.length_eq_one_iff.1 (by have h9:=congrArg List.length hys;rwa [xE] at h9);have hyx:y.x=headI onG.cl []:=by simpa using hys
 refine Zm rfl (Zv (OV.extract rfl rfl) (Zv (OV.extract rfl rfl) (Za rfl (Za rfl (Nn (Csr (Zv (OV.lN (cs:=cgC onG) rfl T.u32 rfl T.z32 (show oQ b1 (cgC onG) 32∈_ by simp)) (WL.c0 (v:=.tuple #[pgV ⟨none,0,[],none,0,[]⟩,.int .i64 91]) (vs:=[cgV onG,.int .i64 0]) (fun w' hw'=>(make_bad onG on_cs 0 (by rw [on_ref];decide) w' (hN.keeps hw'.keeps) (hC.keeps hw'.keeps) (on_rc w')).mono (fun en w'' ⟨h1,h2⟩=>⟨by rw [h1,on_ref],h2⟩)) ?_))))))));refine Zm rfl (Zv (OV.extract rfl rfl) (Zv (OV.extract rfl rfl) (WL.alloc T.zr87 rfl ?_)));intro b7;refine WL.ag (vs:=pgC ⟨none,0,[],none,0,[]⟩) rfl rfl rfl T.z87 rfl ?_;refine Za rfl (Nn (Csr (Zm rfl (Zv ((OV.eb rfl rfl).cast (u:=.bool true) (rfl)) (Zm rfl (WL.known (t:=33) (b:=true) rfl (by rfl) ?_))))));refine yY (Zm rfl (yY (Zv ((OV.eb rfl rfl).cast (u:=.bool true) (rfl)) (Zv (OV.am rfl rfl) (Zm rfl (WL.known (t:=37) (b:=true) rfl (by rfl) ?_))))));refine yY (Zm rfl (yY (Zv (OV.ae rfl T.u39) (yY (Zv ((OV.eb rfl rfl).cast (u:=.bool true) (rfl)) (Zv (OV.am rfl rfl) (Zm rfl (WL.known (t:=42) (b:=true) rfl (by rfl) ?_))))))));refine yY (Zm rfl (yY ?_));refine WL.j2 (fun w' hw'=>Jed (hw'.it (rowR ta tc [t]) (by simp)) Nat.zero_lt_one) (fun hqq=>?_);obtain ⟨q1,hq1⟩:=hqq;refine Zv ((OV.ad (show _=some (Value.slice (some ⟨q1,0,none⟩) 1 tc) by rw [← hq1];rfl) rfl T.u39 T.z27 (by omega)).cast (u:=.pointer (some ((⟨q1,0,none⟩:Addr).add 0))) rfl) (yY (Zv (OV.ah (v:=tgV t) rfl T.u27 rfl (fun w2 hw=>(Jdx (a:=ta) hw hq1 (show rowR ta tc [t]∈_ by simp) 0 (tgV t) rfl:_))) (yY (Zv (OV.ae rfl T.u27) (yY (Zv ((OV.eb rfl rfl).cast (u:=.bool true) (by show Value.bool (decide (((t.l.length:Nat):Int)=0))=_;rw [htl];rfl)) (Zv (OV.am rfl rfl) (Zm rfl (WL.known (t:=49) (b:=true) rfl (by rfl) ?_)))))))));refine yY (Zm rfl (yY (Zv (OV.ae rfl T.u22) (yY (Zv ((OV.eb rfl rfl).cast (u:=.bool true) (rfl)) (Zv (OV.am rfl rfl) (Zm rfl (WL.known (t:=54) (b:=true) rfl (by rfl) ?_))))))));refine yY (Zm rfl (yY ?_));refine WL.j2 (fun w' hw'=>Jed (hw'.it (rowAt la lc [y]) (by simp)) Nat.zero_lt_one) (fun hqq=>?_);obtain ⟨q2,hq2⟩:=hqq;refine Zv ((OV.ad (show _=some (Value.slice (some ⟨q2,0,none⟩) 1 lc) by rw [← hq2];rfl) rfl T.u22 T.z29 (by omega)).cast (u:=.pointer (some ⟨q2,0,none⟩)) rfl) (yY (Zv (OV.f0 3 rfl T.u29 rfl) (yY (Zv (OV.ah (v:=.string y.x.name) rfl T.u9 rfl (fun w2 hw=>by have h:=Jdx (a:=la) hw hq2 (show rowAt la lc [y]∈_ by simp) 3 (.string y.x.name) rfl;exact h)) (yY (Zv ((OV.mt rfl rfl).cast (u:=.bool true) (by show Value.bool (decide (y.x.name=onN))=_;rw [xO (by rw [hyx];rfl)])) (Zv (OV.am rfl rfl) (Zm rfl (WL.known (t:=61) (b:=true) rfl (by rfl) ?_)))))))));refine yY (Zm rfl (yY (Zv ((OV.eb rfl rfl).cast (u:=.bool true) (rfl)) (Zv (OV.am rfl rfl) (Za rfl (Nn (WC.az ?_)))))));exact WX.ret1 rfl rfl rfl (fun w' hw=>⟨rfl,hw.fr⟩)
section
open Go.ChangeShapes Go.WideShapes Go.ChangeAt Go.RowKit
variable {H:Type} {enc:TypeId × Value→H} {w:World} {base:Nat} {spare:Nat→Bool} {held:Bool} {r:Reach} {b0:Nat}
def inI (k:Int):Prop:=-9223372036854775808≤k∧k≤9223372036854775807
theorem getD_at {α:Type}{l:List α}{i:Nat}{x d:α}(h:l[i]?=some x):l.getD i d=x:=by rw [yF,h];rfl
theorem Jon {α:Type}(wt:α→Nat){k:Nat}(h:∀ y,k≤wt y)(ys:List α):k*ys.length≤(ys.map wt).sum:=by
 induction ys with
 | nil=>simp
 | cons x ys ih=>have:=h x;simp only [yC,List.sum_cons,List.length_cons];rw [Nat.mul_add];omega
theorem bulk_sum {α:Type}(dflt:α)(wt:α→Nat):∀ (elems:List (DataW H)) (ys:List α),elems.length=ys.length→(∀ i d,elems[i]?=some d→wt (ys.getD i dflt)≤Rows.uptoBulk d)→(ys.map wt).sum≤Rows.uptoBulkAll elems
 | [],[],_,_=>by simp [Rows.uptoBulkAll]
 | [],_::_,h,_=>by simp at h
 | _::_,[],h,_=>by simp at h
 | d::elems,y::ys,h,hd=>by
  have h1:=hd 0 d rfl;have h2:=bulk_sum dflt wt elems ys (by simpa using h) (fun i d hi=>hd (i+1) d hi);simp only [List.getD_cons_zero] at h1;simp only [yC,List.sum_cons,Rows.uptoBulkAll];omega
theorem Jjb {α:Type}(dflt:α){tt t:TypeId}{s:Nat}{fuel:Nat}{cs:List Value}{x:DataW H × List MemPlace}(htt:Program.underlying Tryz.prog tt=some (.slice t))(hs:Program.cellsOf Tryz.prog t=s)(en:α→List Value)(hl:∀ y,(en y).length=s)(G:α→Prop)(wt:α→Nat) 
  (hel:∀ fuel cs x,DataW.trod enc Tryz.prog w base spare held fuel t cs=some x→∃ y,cs=en y∧G y∧wt y≤Rows.uptoBulk x.1) (h:DataW.trod enc Tryz.prog w base spare held fuel tt cs=some x) :
  ∃ a c,∃ ys:List α,cs=[.slice a ys.length c]∧(a=none→ys.length=0)∧(∀ q,a=some q→∀ i y,ys[i]?=some y→∀ j v,(en y)[j]?=some v→w.cell? ((q.add (i*s)).add j)=some v)∧(∀ y∈ys,G y)∧(ys.map wt).sum+1≤Rows.uptoBulk x.1:=by
 rcases DataW.trod_slice htt h with ⟨rfl,rfl⟩ | ⟨a,len,cap,elems,rest,n,rfl,rfl,rfl,hb,hlc,hcm,hlen,hele,_,_⟩
 ·exact ⟨none,0,[],rfl,fun _=>rfl,(fun q hq=>(by cases hq)),(fun y hy=>by cases hy),by simp [Rows.uptoBulk]⟩
 ·have key:∀ i,i<len→∃ y:α,((∀ j v,(en y)[j]?=some v→w.cell? ((a.add (i*s)).add j)=some v)∧G y)∧∀ d,(elems.map (·.1))[i]?=some d→wt y≤Rows.uptoBulk d:=by
   intro i hi;have h3:=hele i hi;rw [hs] at h3;have h4:i<elems.length:=by omega
   rw [xD h4] at h3;obtain ⟨us,hus,h5⟩:=Option.bind_eq_some_iff.1 h3;obtain ⟨y,rfl,h6,h7⟩:=hel _ _ _ h5;have h8:=(World.cells?_some hus).2.2;refine ⟨y,⟨fun j v hj=>?_,h6⟩,fun d hd=>?_⟩
   ·have hj7:j<s:=by have:=(List.getElem?_eq_some_iff.1 hj).1;rw [hl] at this;exact this
    rw [h8 j hj7];exact hj
   ·rw [xG,xD h4] at hd;simp only [Option.map_some,Option.some.injEq] at hd;rw [← hd];exact h7
  obtain ⟨ys,hyl,hq⟩:=exists_list dflt _ len key;refine ⟨some a,cap,ys,by rw [hyl],fun h=>(by cases h),fun q hq' i y hy=>?_,fun y hy=>?_,?_⟩
  ·simp only [Option.some.injEq] at hq';subst hq';have hi:i<len:=by have:=(List.getElem?_eq_some_iff.1 hy).1;omega
   have h9:=(hq i hi).1.1;rwa [getD_at hy] at h9
  ·obtain ⟨i,hi⟩:=List.mem_iff_getElem?.1 hy;have hil:i<len:=by have:=(List.getElem?_eq_some_iff.1 hi).1;omega
   have h9:=(hq i hil).1.2;rwa [getD_at hi] at h9
  ·have:=bulk_sum dflt wt (elems.map (·.1)) ys (by simp [hyl,hlen]) (fun i d hd=>by
    have hi:i<len:=by have:=(List.getElem?_eq_some_iff.1 hd).1;simp at this;omega
    exact (hq i hi).2 d hd)
   simp only [Rows.uptoBulk];omega
theorem Jpi {n:Int}(h:(Lit.int .i64 n).wf=true):inI n:=by simpa [inI,Lit.wf,IntKind.min,IntKind.max,IntKind.signed,IntKind.bits] using h
set_option maxRecDepth 100000 in
theorem trod_ints {fuel:Nat}{cs:List Value}{x:DataW H × List MemPlace}(h:DataW.trod enc Tryz.prog w base spare held fuel 51 cs=some x):
  ∃ a c l,cs=[.slice a l.length c]∧RI w a l.length l∧i64s l∧l.length+1≤Rows.uptoBulk x.1:=by
 obtain ⟨a,c,ys,hcs,ha,hat,hi,hb⟩:=Jjb (0:Int) (s:=1) T.u51 (by kernel_rfl) (fun k=>[.int .i64 k]) (fun _=>rfl) inI (fun _=>1) (fun fuel cs x hx=>by
  obtain ⟨k,e0,d0,w0⟩:=DataW.trod_int T.u3 hx;exact ⟨k,e0,Jpi w0,by rw [d0];simp [Rows.uptoBulk]⟩) h
 refine ⟨a,c,ys,hcs,⟨rfl,ha,fun q hq j k hk=>?_⟩,hi,by have:=Jon (fun _:Int=>1) (k:=1) (fun _=>Nat.le_refl _) ys;omega⟩;have h1:=hat q hq j k hk 0 _ rfl;rwa [Nat.mul_one,Jd2] at h1
def wtT (t:Tm):Nat:=t.s.size+4
set_option maxRecDepth 100000 in
theorem Jja {fuel:Nat}{cs:List Value}{x:DataW H × List MemPlace}(h:DataW.trod enc Tryz.prog w base spare held fuel 26 cs=some x):
  ∃ t:Tm,cs=tmC t∧(inI t.kind∧inI t.n)∧wtT t≤Rows.uptoBulk x.1∧x.1=.agg [.lit (.int .i64 t.kind),.lit (.int .i64 t.n),.lit (.string t.s.data.toList)]:=by
 obtain ⟨xs,n,rfl,rfl,hl,hxs,hf⟩:=DataW.trod_struct T.u26 h;have hl3:cs.length=3:=by rw [hl];kernel_rfl
 have cI:Program.cellsOf Tryz.prog 3=1:=by kernel_rfl
 have cS:Program.cellsOf Tryz.prog 9=1:=by kernel_rfl
 match cs,hl3 with
 | [v0,v1,v2],_=>
  match xs,hxs with
  | [x0,x1,x2],_=>
   have k0:DataW.trod enc Tryz.prog w base spare held n 3 [v0]=some x0:=by
    have k:DataW.trod enc Tryz.prog w base spare held n 3 (List.take (Program.cellsOf Tryz.prog 3) (List.drop 0 [v0,v1,v2]))=some x0:=hf 0 _ rfl;rw [cI] at k;exact k
   have k1:DataW.trod enc Tryz.prog w base spare held n 3 [v1]=some x1:=by
    have k:DataW.trod enc Tryz.prog w base spare held n 3 (List.take (Program.cellsOf Tryz.prog 3) (List.drop 1 [v0,v1,v2]))=some x1:=hf 1 _ rfl;rw [cI] at k;exact k
   have k2:DataW.trod enc Tryz.prog w base spare held n 9 [v2]=some x2:=by
    have k:DataW.trod enc Tryz.prog w base spare held n 9 (List.take (Program.cellsOf Tryz.prog 9) (List.drop 2 [v0,v1,v2]))=some x2:=hf 2 _ rfl;rw [cS] at k;exact k
   obtain ⟨kind,e0,rfl,w0⟩:=DataW.trod_int T.u3 k0;obtain ⟨num,e1,rfl,w1⟩:=DataW.trod_int T.u3 k1;obtain ⟨s,e2,rfl,w2⟩:=DataW.trod_string T.u9 k2;simp only [List.cons.injEq,and_true] at e0 e1 e2;subst e0;subst e1;subst e2;refine ⟨⟨kind,num,s⟩,rfl,⟨Jpi w0,Jpi w1⟩,?_,rfl⟩;simp only [yC,yD,Rows.uptoBulk,Rows.uptoBulkAll,wtT];have:s.data.toList.length=s.size:=by simp
   omega
def wtA (y:AG):Nat:=y.x.name.size+y.x.args.length+7
set_option maxRecDepth 100000 in
theorem trod_atom {fuel:Nat}{cs:List Value}{x:DataW H × List MemPlace}(h:DataW.trod enc Tryz.prog w base spare held fuel 29 cs=some x):
  ∃ y:AG,cs=agC y∧RT w y.a y.x.args∧wtA y≤Rows.uptoBulk x.1:=by
 obtain ⟨xs,n,rfl,rfl,hl,hxs,hf⟩:=DataW.trod_struct T.u29 h;have hl5:cs.length=5:=by rw [hl];kernel_rfl
 have cT:Program.cellsOf Tryz.prog 26=3:=by kernel_rfl
 have cS:Program.cellsOf Tryz.prog 9=1:=by kernel_rfl
 have cL:Program.cellsOf Tryz.prog 27=1:=by kernel_rfl
 match cs,hl5 with
 | [v0,v1,v2,v3,v4],_=>
  match xs,hxs with
  | [x0,x1,x2],_=>
   have k0:DataW.trod enc Tryz.prog w base spare held n 26 [v0,v1,v2]=some x0:=by
    have k:DataW.trod enc Tryz.prog w base spare held n 26 (List.take (Program.cellsOf Tryz.prog 26) (List.drop 0 [v0,v1,v2,v3,v4]))=some x0:=hf 0 _ rfl;rw [cT] at k;exact k
   have k1:DataW.trod enc Tryz.prog w base spare held n 9 [v3]=some x1:=by
    have k:DataW.trod enc Tryz.prog w base spare held n 9 (List.take (Program.cellsOf Tryz.prog 9) (List.drop 3 [v0,v1,v2,v3,v4]))=some x1:=hf 1 _ rfl;rw [cS] at k;exact k
   have k2:DataW.trod enc Tryz.prog w base spare held n 27 [v4]=some x2:=by
    have k:DataW.trod enc Tryz.prog w base spare held n 27 (List.take (Program.cellsOf Tryz.prog 27) (List.drop 4 [v0,v1,v2,v3,v4]))=some x2:=hf 2 _ rfl;rw [cL] at k;exact k
   obtain ⟨t,e0,_,b0,_⟩:=Jja k0;obtain ⟨s,e1,rfl,w1⟩:=DataW.trod_string T.u9 k1
   obtain ⟨a,c,ts,e2,ha,hat,_,b2⟩:=Jjb (default:Tm) T.u27 (by kernel_rfl) tmC Jc0 (fun _=>True) wtT (fun fuel cs x hx=>by
    obtain ⟨t,e,_,hb,_⟩:=Jja hx;exact ⟨t,e,trivial,hb⟩) k2
   simp only [tmC,List.cons.injEq,and_true] at e0 e1 e2;obtain ⟨rfl,rfl,rfl⟩:=e0;subst e1;subst e2;refine ⟨⟨⟨t,s,ts⟩,a,c⟩,rfl,⟨ha,hat⟩,?_⟩;have h1:=Jon wtT (k:=1) (fun y=>by unfold wtT;omega) ts;have h2:s.data.toList.length=s.size:=by simp
   unfold wtT at b0;simp only [yC,yD,Rows.uptoBulk,Rows.uptoBulkAll,wtA];omega
set_option maxRecDepth 100000 in
theorem Jjc {fuel:Nat}{cs:List Value}{x:DataW H × List MemPlace}(h:DataW.trod enc Tryz.prog w base spare held fuel 22 cs=some x):
  ∃ a c ys,cs=[.slice a ys.length c]∧RA w a ys∧(ys.map wtA).sum+1≤Rows.uptoBulk x.1:=by
 obtain ⟨a,c,ys,e,ha,hat,hg,hb⟩:=Jjb (⟨default,none,0⟩:AG) T.u22 (by kernel_rfl) agC Joy (fun y=>RT w y.a y.x.args) wtA (fun fuel cs x hx=>by
  obtain ⟨y,e,h1,h2⟩:=trod_atom hx;exact ⟨y,e,h1,h2⟩) h
 exact ⟨a,c,ys,e,⟨ha,hat,hg⟩,hb⟩
theorem le_sum {α:Type}(wt:α→Nat){ys:List α}{y:α}(h:y∈ys):wt y≤(ys.map wt).sum:=by
 induction ys with
 | nil=>cases h
 | cons x ys ih=>
  rw [yC,List.sum_cons];rcases List.mem_cons.1 h with rfl | h
  ·omega
  ·have:=ih h;omega
def T00:Ts:=⟨0,T0,T0⟩
set_option maxRecDepth 100000 in
theorem trod_test {fuel:Nat}{cs:List Value}{x:DataW H × List MemPlace}(h:DataW.trod enc Tryz.prog w base spare held fuel 61 cs=some x):
  ∃ t:Ts,cs=tsC t∧1≤Rows.uptoBulk x.1:=by
 obtain ⟨xs,n,rfl,rfl,hl,hxs,hf⟩:=DataW.trod_struct T.u61 h;have hl7:cs.length=7:=by rw [hl];kernel_rfl
 have cT:Program.cellsOf Tryz.prog 26=3:=by kernel_rfl
 have cI:Program.cellsOf Tryz.prog 3=1:=by kernel_rfl
 match cs,hl7 with
 | [v0,v1,v2,v3,v4,v5,v6],_=>
  match xs,hxs with
  | [x0,x1,x2],_=>
   have k0:DataW.trod enc Tryz.prog w base spare held n 3 [v0]=some x0:=by
    have k:DataW.trod enc Tryz.prog w base spare held n 3 (List.take (Program.cellsOf Tryz.prog 3) (List.drop 0 [v0,v1,v2,v3,v4,v5,v6]))=some x0:=hf 0 _ rfl;rw [cI] at k;exact k
   have k1:DataW.trod enc Tryz.prog w base spare held n 26 [v1,v2,v3]=some x1:=by
    have k:DataW.trod enc Tryz.prog w base spare held n 26 (List.take (Program.cellsOf Tryz.prog 26) (List.drop 1 [v0,v1,v2,v3,v4,v5,v6]))=some x1:=hf 1 _ rfl;rw [cT] at k;exact k
   have k2:DataW.trod enc Tryz.prog w base spare held n 26 [v4,v5,v6]=some x2:=by
    have k:DataW.trod enc Tryz.prog w base spare held n 26 (List.take (Program.cellsOf Tryz.prog 26) (List.drop 4 [v0,v1,v2,v3,v4,v5,v6]))=some x2:=hf 2 _ rfl;rw [cT] at k;exact k
   obtain ⟨op,e0,rfl,w0⟩:=DataW.trod_int T.u3 k0;obtain ⟨l,e1,_,b1,_⟩:=Jja k1;obtain ⟨r,e2,_,b2,_⟩:=Jja k2;simp only [tmC,List.cons.injEq,and_true] at e0 e1 e2;obtain ⟨rfl,rfl,rfl⟩:=e1;obtain ⟨rfl,rfl,rfl⟩:=e2;subst e0;refine ⟨⟨op,l,r⟩,rfl,?_⟩;simp only [Rows.uptoBulk];omega
theorem trod_tests {fuel:Nat}{cs:List Value}{x:DataW H × List MemPlace}(h:DataW.trod enc Tryz.prog w base spare held fuel 30 cs=some x):
  ∃ a c ts,cs=[.slice a ts.length c]∧RS w a ts∧ts.length+1≤Rows.uptoBulk x.1:=by
 obtain ⟨a,c,ts,e,ha,hat,_,hb⟩:=Jjb T00 (s:=7) T.u30 (by kernel_rfl) tsC (fun _=>rfl) (fun _=>True) (fun _=>1) (fun fuel cs x hx=>by
  obtain ⟨t,e,h2⟩:=trod_test hx;exact ⟨t,e,trivial,h2⟩) h
 have h1:=Jon (fun _:Ts=>1) (k:=1) (fun _=>Nat.le_refl _) ts;exact ⟨a,c,ts,e,⟨ha,hat⟩,by omega⟩
def wtC (g:CG):Nat:=wtA g.hd+(g.bd.map wtA).sum+g.ts.length+3
set_option maxRecDepth 100000 in
theorem trod_clause {fuel:Nat}{cs:List Value}{x:DataW H × List MemPlace}(h:DataW.trod enc Tryz.prog w base spare held fuel 32 cs=some x):
  ∃ g:CG,cs=cgC g∧RC w g∧wtC g≤Rows.uptoBulk x.1:=by
 obtain ⟨xs,n,rfl,rfl,hl,hxs,hf⟩:=DataW.trod_struct T.u32 h;have hl7:cs.length=7:=by rw [hl];kernel_rfl
 have cA:Program.cellsOf Tryz.prog 29=5:=by kernel_rfl
 have cL:Program.cellsOf Tryz.prog 22=1:=by kernel_rfl
 have cS:Program.cellsOf Tryz.prog 30=1:=by kernel_rfl
 match cs,hl7 with
 | [v0,v1,v2,v3,v4,v5,v6],_=>
  match xs,hxs with
  | [x0,x1,x2],_=>
   have k0:DataW.trod enc Tryz.prog w base spare held n 29 [v0,v1,v2,v3,v4]=some x0:=by
    have k:DataW.trod enc Tryz.prog w base spare held n 29 (List.take (Program.cellsOf Tryz.prog 29) (List.drop 0 [v0,v1,v2,v3,v4,v5,v6]))=some x0:=hf 0 _ rfl;rw [cA] at k;exact k
   have k1:DataW.trod enc Tryz.prog w base spare held n 22 [v5]=some x1:=by
    have k:DataW.trod enc Tryz.prog w base spare held n 22 (List.take (Program.cellsOf Tryz.prog 22) (List.drop 5 [v0,v1,v2,v3,v4,v5,v6]))=some x1:=hf 1 _ rfl;rw [cL] at k;exact k
   have k2:DataW.trod enc Tryz.prog w base spare held n 30 [v6]=some x2:=by
    have k:DataW.trod enc Tryz.prog w base spare held n 30 (List.take (Program.cellsOf Tryz.prog 30) (List.drop 6 [v0,v1,v2,v3,v4,v5,v6]))=some x2:=hf 2 _ rfl;rw [cS] at k;exact k
   obtain ⟨y,e0,r0,b0⟩:=trod_atom k0;obtain ⟨ba,bc,bd,e1,r1,b1⟩:=Jjc k1;obtain ⟨ta,tc,ts,e2,r2,b2⟩:=trod_tests k2;simp only [agC,atC,List.cons.injEq,and_true] at e0 e1 e2;obtain ⟨rfl,rfl,rfl,rfl,rfl⟩:=e0;subst e1;subst e2;refine ⟨⟨y,ba,bc,bd,ta,tc,ts⟩,rfl,⟨r0,r1,r2⟩,?_⟩;simp only [yC,yD,Rows.uptoBulk,Rows.uptoBulkAll,wtC];omega
set_option maxRecDepth 100000 in
theorem open_clause {v:Value}{d:DataW H}{p:List MemPlace}(hv:Value.okWide Tryz.prog w r b0 32 v)(h:DataW.Trod enc Tryz.prog w base spare held 32 v d p):
  ∃ g:CG,v=cgV g∧RC w g∧wtC g≤Rows.uptoBulk d:=by
 obtain ⟨fuel,hf⟩:=h;obtain ⟨g,e,h1,h2⟩:=trod_clause hf
 have ha:∃ cs,v=.agg cs:=by
  unfold Value.okWide at hv;rw [T.u32] at hv;cases v <;> simp_all
 obtain ⟨cs,rfl⟩:=ha;refine ⟨g,?_,h1,h2⟩;have e2:cs.toList=cgC g:=e;show Value.agg cs=Value.agg (cgC g).toArray;rw [show cs=(cgC g).toArray from by rw [← e2]]
theorem clause_ok {g:CG}(h:wtC g≤1048576):(∀ y,y=g.hd∨y∈g.bd→y.x.args.length≤1048576∧y.x.name.size≤1099511627776)∧g.bd.length≤1048576∧g.ts.length≤1048576:=by
 unfold wtC at h;have h1:=Jon wtA (k:=1) (fun y=>by unfold wtA;omega) g.bd;refine ⟨fun y hy=>?_,by omega,by omega⟩;have h3:wtA y=y.x.name.size+y.x.args.length+7:=rfl;rcases hy with rfl | hy
 ·omega
 ·have h2:=le_sum wtA hy;omega
theorem none_laid {fuel:Nat}{cs:Array Value}{q:List MemPlace}(hg:Program.globalNamed Tryz.prog "hearsay/term.none"=some 0)(hv:w.var? Tryz.prog "hearsay/term.none"=some cs)(hd:DataW.trod enc Tryz.prog w base spare held fuel 26 cs.toList=some (Rows.laid_hearsay_term_none,q)):Jdb w:=by
 obtain ⟨t,e,_,_,ht⟩:=Jja hd
 have ht0:t=T0:=by
  simp only [Rows.laid_hearsay_term_none,DataW.agg.injEq,List.cons.injEq,DataW.lit.injEq,Lit.int.injEq,true_and,Lit.string.injEq,and_true] at ht;obtain ⟨h1,h2,h3⟩:=ht;obtain ⟨k,n,s⟩:=t;simp only at h1 h2 h3;subst h1;subst h2
  have:s=E0:=by
   obtain ⟨⟨l⟩⟩:=s;have h4:([]:List UInt8)=l:=h3;subst h4;rfl
  rw [this];rfl
 intro j v hj;rw [World.var?_cell hg hv j,← Array.getElem?_toList,e,ht0];exact hj
theorem Jfx {fuel:Nat}{v:Value}{x:DataW (List UInt8) × List MemPlace}{b:UInt8}{s:List UInt8}{f0:FuncId}(hone:((List.range (Tryz.prog).funcs.size).filter fun f=>((Tryz.prog).funcs[f]?).any (·.name.toUTF8.data.toList == b::s))=[f0]) 
  (h:DataW.trod (funcToken Tryz.prog) Tryz.prog w 0 (fun _=>true) true fuel 231 [v]=some x) (hx:x.1=.agg [.held (b::s)]):v=.func (.func f0) #[] #[]:=by
 obtain ⟨xs,n,rfl,rfl,hl,hxs,hf⟩:=DataW.trod_struct T.u231 h;have c1:Program.cellsOf Tryz.prog 189=1:=by kernel_rfl
 match xs,hxs with
 | [x0],_=>
  have k:DataW.trod (funcToken Tryz.prog) Tryz.prog w 0 (fun _=>true) true n 189 (List.take (Program.cellsOf Tryz.prog 189) (List.drop 0 [v]))=some x0:=hf 0 _ rfl;rw [c1] at k;have k1:DataW.trod (funcToken Tryz.prog) Tryz.prog w 0 (fun _=>true) true n 189 [v]=some x0:=k;simp only [yC,yD,DataW.agg.injEq,List.cons.injEq,and_true] at hx;obtain ⟨d,q⟩:=x0;simp only at hx;subst hx;exact func_of_trod T.u189 hone k1
set_option maxRecDepth 100000 in
theorem checks_laid {d:DataW Unit}(hd:d.funcsOut=.agg [.agg [.held [104,101,97,114,115,97,121,47,99,108,97,117,115,101,46,116,111,111,76,111,110,103]],.agg [.held [104,101,97,114,115,97,121,47,99,108,97,117,115,101,46,98,97,100,65,116,111,109]],.agg [.held [104,101,97,114,115,97,121,47,99,108,97,117,115,101,46,98,97,100,84,101,115,116]],.agg [.held [104,101,97,114,115,97,121,47,99,108,97,117,115,101,46,111,112,101,110,72,101,97,100]],.agg [.held [104,101,97,114,115,97,121,47,99,108,97,117,115,101,46,117,110,115,97,102,101]],.agg [.held [104,101,97,114,115,97,121,47,99,108,97,117,115,101,46,109,105,115,110,117,109,98,101,114,101,100]]])(h:funcsAt Tryz.prog w "hearsay/clause.checks" d):Jjz w:=by
 obtain ⟨g,t,cs,fuel,p,hg,ht,hv,h⟩:=h;obtain rfl:=xH ((show Program.globalNamed Tryz.prog "hearsay/clause.checks"=some 2 by kernel_rfl).symm.trans hg);obtain rfl:=xH ((show ((Tryz.prog).globals[2]?).map (·.type)=some 232 by kernel_rfl).symm.trans ht);rw [hd] at h;obtain ⟨xs,m,rfl,hx,hl,hxl,hf⟩:=DataW.trod_array T.u232 h;have hl6:cs.toList.length=6:=by rw [hl];kernel_rfl
 have c1:Program.cellsOf Tryz.prog 231=1:=by kernel_rfl
 rw [c1] at hf;have hvc:=World.var?_cell hg hv;obtain ⟨l⟩:=cs;simp only at hl6 hf
 match l,hl6,xs,hxl with
 | [v0,v1,v2,v3,v4,v5],_,[x0,x1,x2,x3,x4,x5],_=>
  simp only [yC,yD,Prod.mk.injEq,DataW.agg.injEq,List.cons.injEq,and_true] at hx;obtain ⟨⟨h0,h1,h2,h3,h4,h5⟩,_⟩:=hx;obtain rfl:=Jfx (f0:=258) (by kernel_rfl) (hf 0 (by omega):_=some x0) h0.symm;obtain rfl:=Jfx (f0:=259) (by kernel_rfl) (hf 1 (by omega):_=some x1) h1.symm;obtain rfl:=Jfx (f0:=260) (by kernel_rfl) (hf 2 (by omega):_=some x2) h2.symm;obtain rfl:=Jfx (f0:=261) (by kernel_rfl) (hf 3 (by omega):_=some x3) h3.symm;obtain rfl:=Jfx (f0:=262) (by kernel_rfl) (hf 4 (by omega):_=some x4) h4.symm;obtain rfl:=Jfx (f0:=263) (by kernel_rfl) (hf 5 (by omega):_=some x5) h5.symm;intro j v hj;rw [hvc j,← Array.getElem?_toList];exact hj
end
def bL (n:Nat)(p:Nat→Bool):List Value:=(List.range n).map fun i=>.bool (p i)
theorem nodup_sub {l m:List Tm}(h:l.Nodup)(hs:∀ x∈l,x∈m):l.length≤m.length:=by
 induction l generalizing m with
 | nil=>exact Nat.zero_le _
 | cons x l ih=>
  obtain ⟨h1,h2⟩:=List.nodup_cons.1 h;have h3:=ih (m:=m.erase x) h2 fun y hy=>(List.mem_erase_of_ne (fun e:y=x=>h1 (by rw [← e];exact hy))).2 (hs y (.tail _ hy))
  have h4:=List.length_erase_of_mem (hs x yH);have h5:0<m.length:=List.length_pos_of_mem (hs x yH);simp only [List.length_cons];omega
theorem plc_length (x:At):(plc x).length=x.args.length+1:=by simp [plc]
theorem bodyTm_le {c:Cl}(h:∀ a∈c.bd,a.args.length≤8):(Jck c).length≤9*c.bd.length:=by
 unfold Jck
 generalize c.bd=l at h
 induction l with
 | nil=>simp
 | cons a l ih=>
  have h1:=ih fun b hb=>h b (.tail _ hb)
  have h2:=h a yH;simp only [List.flatMap_cons,xL,List.length_cons,plc_length];omega
theorem VC.args {c:Cl}(h:VC c){a:At}(ha:a∈c.bd):a.args.length≤8:=(chkA_zero.1 (h.bd a ha)).2.1
theorem VC.body72 {c:Cl}(h:VC c):(Jck c).length≤72:=by
 have h1:=bodyTm_le fun a ha=>h.args ha
 have:=h.bl;omega
theorem VC.nV72 {c:Cl}(h:VC c):nV c≤72:=by
 refine Nat.le_trans (nodup_sub (m:=Jck c) (dedV_nodup _) fun t ht=>?_) h.body72;have h2:=(Jgt _ _).1 ht;have h3:=h2.1;unfold Jbi at h3;simp only [xT] at h3;rcases h3 with hh | hh | hh
 ·exact h.safe _ (by simp [hh]) h2.2
 ·exact hh
 ·exact h.safe _ (by simp [hh]) h2.2
theorem VC.cs {g:CG}(h:VC g.cl):CS g where
 at_:=fun y hy=>by
  have h1:chkA y.x=0:=by
   rcases hy with rfl | hy
   ·exact h.hd
   ·exact h.bd _ (List.mem_map.2 ⟨y,hy,rfl⟩)
  obtain ⟨hn,hl,_⟩:=chkA_zero.1 h1;refine ⟨by omega,?_⟩;unfold nameB at hn;rw [decide_eq_true_eq] at hn;have:=hn.2.1;omega
 bl:=by have h1:=h.bl;rw [show g.cl.bd.length=g.bd.length from xE _] at h1;omega
 tl:=by have h1:=h.tl;have:g.ts.length≤8:=h1;omega
 tt:=by
  rw [Jgm];have h0:=plc_length g.cl.hd;have h1:=h.body72;have h2:=(chkA_zero.1 h.hd).2.1;have h3:=h.tl;omega
theorem pick1_ok {c:Cl}{lead:Option Nat}(hlead:∀ l,lead=some l→l<c.bd.length){jo:List Nat}{V:List Int}(hn:jo.Nodup)(hb:∀ i∈jo,i<c.bd.length)(hl:jo.length<c.bd.length):pick1 c lead jo V∉jo∧pick1 c lead jo V<c.bd.length:=by
 obtain ⟨y,h1,h2,h3⟩:=Jol (V:=V) hn hb hl;unfold pick1
 split
 ·rename_i h;obtain ⟨l,hl2⟩:=Option.isSome_iff_exists.1 h.2;rw [h.1,hl2];exact ⟨by simp,hlead l hl2⟩
 ·rw [h1];exact ⟨h2,h3⟩
structure St where
 jo:List Nat
 V:List Int
 A:List Nat
def stN (c:Cl)(lead:Option Nat)(s:St):Jn:=
 ⟨pick1 c lead s.jo s.V,Jbx s.V (clA c (pick1 c lead s.jo s.V)),Jd9 c (s.V++Jaq (clA c (pick1 c lead s.jo s.V))) s.A⟩
def stS (c:Cl)(lead:Option Nat)(s:St):St:=⟨s.jo++[(stN c lead s).a],s.V++Jaq (clA c (stN c lead s).a),s.A++(stN c lead s).ts⟩
def stP (c:Cl)(lead:Option Nat):Nat→St
 | 0=>⟨[],[],Jbp c⟩
 | i+1=>stS c lead (stP c lead i)
structure StOK (c:Cl) (s:St) (i:Nat):Prop where
 len:s.jo.length=i
 nd:s.jo.Nodup
 jb:∀ k∈s.jo,k<c.bd.length
 hV:∀ v,v∈s.V↔∃ k∈s.jo,v∈Jaq (clA c k)
 hA:∀ k,k<c.ts.length→(Jip s.V (clT c k)=true↔k∈s.A)
theorem stP_ok {c:Cl}{lead:Option Nat}(hlead:∀ l,lead=some l→l<c.bd.length):∀ i,i≤c.bd.length→StOK c (stP c lead i) i
 | 0,_=>⟨rfl,List.nodup_nil,by simp [stP],fun v=>by simp [stP],fun k hk=>by
   show _↔k∈Jbp c;rw [mem_aheadP,Jj7];constructor
   ·intro h;refine ⟨hk,List.eq_nil_iff_forall_not_mem.2 fun v hv=>?_⟩;have:=h v hv;simp [stP] at this
   ·rintro ⟨_,h⟩ v hv;rw [h] at hv;cases hv⟩
 | i+1,hi=>by
  have ih:=stP_ok hlead i (by omega);obtain ⟨h1,h2⟩:=pick1_ok (V:=(stP c lead i).V) hlead ih.nd ih.jb (by rw [ih.len];omega);refine ⟨?_,?_,?_,fun v=>?_,fun k hk=>?_⟩
  ·show ((stP c lead i).jo++[_]).length=i+1;rw [xL,ih.len];rfl
  ·show ((stP c lead i).jo++[_]).Nodup;exact List.nodup_append.2 ⟨ih.nd,by simp,fun x hx z hz=>by simp only [xI] at hz;subst hz;rintro rfl;exact h1 hx⟩
  ·intro k hk;rcases List.mem_append.1 (show k∈(stP c lead i).jo++[_] from hk) with h | h
   ·exact ih.jb k h
   ·simp only [xI] at h;rw [h];exact h2
  ·show v∈(stP c lead i).V++_↔∃ k∈(stP c lead i).jo++[_],_;rw [xT,ih.hV];constructor
   ·rintro (⟨k,hk,hv⟩ | hv)
    ·exact ⟨k,by simp [hk],hv⟩
    ·exact ⟨_,by simp,hv⟩
   ·rintro ⟨k,hk,hv⟩;rcases List.mem_append.1 hk with h | h
    ·exact Or.inl ⟨k,h,hv⟩
    ·simp only [xI] at h;rw [h] at hv;exact Or.inr hv
  ·have hmono:Jip (stP c lead i).V (clT c k)=true→Jip (stP c lead (i+1)).V (clT c k)=true:=fun h=>by
    rw [Jj7] at h ⊢;exact fun v hv=>xA _ (h v hv)
   show _↔k∈(stP c lead i).A++(stN c lead (stP c lead i)).ts;rw [xT];constructor
   ·intro h
    by_cases hm:k∈(stP c lead i).A
    ·exact Or.inl hm
    ·exact Or.inr (List.mem_filter.2 ⟨List.mem_range.2 hk,by rw [yA,decide_eq_true_eq];exact ⟨h,hm⟩⟩)
   ·rintro (h | h)
    ·exact hmono ((ih.hA k hk).2 h)
    ·have h3:=(List.mem_filter.1 h).2;rw [yA] at h3;exact h3.1
theorem Jph {c:Cl}{lead:Option Nat}:∀ (n:Nat) (s:St),mkR c lead (n+1) s.jo s.V s.A=stN c lead s::mkR c lead n (stS c lead s).jo (stS c lead s).V (stS c lead s).A:=fun _ _=>rfl
theorem makeP_drop {c:Cl}{lead:Option Nat}:∀ i,i≤c.bd.length→(makeP c lead).drop i=mkR c lead (c.bd.length - i) (stP c lead i).jo (stP c lead i).V (stP c lead i).A
 | 0,_=>rfl
 | i+1,hi=>by
  have ih:=makeP_drop (c:=c) (lead:=lead) i (by omega);have h1:(makeP c lead).drop (i+1)=((makeP c lead).drop i).drop 1:=by rw [List.drop_drop]
  rw [h1,ih,show c.bd.length - i=(c.bd.length - (i+1))+1 by omega,Jph];rfl
theorem makeP_at {c:Cl}{lead:Option Nat}{i:Nat}(hi:i<c.bd.length):(makeP c lead)[i]?=some (stN c lead (stP c lead i)):=by
 have h1:=makeP_drop (c:=c) (lead:=lead) i (by omega);have h2:((makeP c lead).drop i)[0]?=(makeP c lead)[i]?:=by rw [List.getElem?_drop,Nat.add_zero]
 rw [← h2,h1,show c.bd.length - i=(c.bd.length - (i+1))+1 by omega,Jph];rfl
theorem Jl7 {c:Cl}{lead:Option Nat}:(makeP c lead).length=c.bd.length:=by
 have h1:∀ (n:Nat) (s:St),(mkR c lead n s.jo s.V s.A).length=n:=by
  intro n
  induction n with
  | zero=>intro s;rfl
  | succ n ih=>intro s;rw [Jph,List.length_cons,ih]
 exact h1 _ ⟨[],[],Jbp c⟩
theorem jnEq.at_ {js:List JG}{l:List Jn}(h:jnEq js l){i:Nat}{y:JG}{j:Jn}(hy:js[i]?=some y)(hj:l[i]?=some j):y.a=j.a∧y.kn=nI j.kn∧y.ts=nI j.ts:=by
 have h1:=congrArg (·[i]?) h;simp only [xG,hy,hj,Option.map_some,Option.some.injEq,Prod.mk.injEq] at h1;exact h1
theorem jnEq.len {js:List JG}{l:List Jn}(h:jnEq js l):js.length=l.length:=by
 have h1:=congrArg List.length h
 simpa using h1
theorem ts_new {c:Cl}{lead:Option Nat}{s:St}:∀ k∈(stN c lead s).ts,k<c.ts.length∧k∉s.A:=fun k hk=>by
 obtain ⟨h1,h2⟩:=List.mem_filter.1 hk;rw [yA,decide_eq_true_eq] at h2;exact ⟨List.mem_range.1 h1,h2.2⟩
theorem ahead_at {c:Cl}{k:Nat}(h:k∈Jbp c):k<c.ts.length∧varB (clT c k).l=false∧varB (clT c k).r=false:=by
 obtain ⟨h1,h2⟩:=List.mem_filter.1 h;rw [yA] at h2;exact ⟨List.mem_range.1 h1,by simpa using h2.1,by simpa using h2.2⟩
end Go.Proofs.YtgebaodagaecmaaGreatDoor
namespace Go.Hw
set_option linter.unusedVariables false
set_option linter.unusedSimpArgs false
open Go Go.RowKit
section
variable {w0 ws w:World} {M I:Nat→Prop} {ow:List Item}
theorem Sat.rowCut {T s m cap:Nat}{a:Option Addr}{xs:List Value}(h:Sat w0 M I ws (row T s a m cap xs::ow) w){k:Nat}(hk:k≤m):Sat w0 M I ws (row T s a k cap (xs.take (k*s))::ow) w:=by
 have hown:w.ownsRow 0 T s (.slice a m cap) m xs:=h.it _ yH;refine h.turn (Fr.refl _ _) ⟨?_,?_⟩ (fun b hb=>Or.inl hb)
 ·rw [xJ,hown.1];exact Nat.min_eq_left (Nat.mul_le_mul_right _ hk)
 ·rcases hown.2 with ⟨hv,h0⟩ | ⟨g,c,cur,hv,hg0,hg,hmc,hcm,hcs,htake⟩
  ·simp only [Value.slice.injEq] at hv;obtain ⟨rfl,rfl,rfl⟩:=hv;have hk0:k=0:=by omega
   subst hk0;exact .inl ⟨rfl,rfl⟩
  ·simp only [Value.slice.injEq] at hv;obtain ⟨rfl,_,rfl⟩:=hv;refine .inr ⟨g,cap,cur,rfl,hg0,hg,by omega,hcm,hcs,?_⟩;rw [← htake,List.take_take,Nat.min_eq_left (Nat.mul_le_mul_right _ hk)]
end
section
variable {P:Program} {w0 ws:World} {M I:Nat→Prop} {ow:List Item} {ops:Array Oper} {Q:Post} {n:Nat} {ds:DS} {e:Env} {rest:List Oper} {S S':World→Prop}
theorem WL.runV {op:Op}{t:TypeId}{p:String}{af:Array Edge}(hr:∀ a w,Fits n ds e a→S w→∃ v w',(execOp a.eval ⟨none,op,t,p,af,none⟩).run P w=.ok (.value v) w'∧S' w') 
  (h:WL P ops Q n ds e S' rest):WL P ops Q n ds e S (⟨none,op,t,p,af,none⟩::rest):=by
 intro a w ha hw;unfold wpListIn;rw [if_pos (Jde rfl)];refine ⟨fun f _=>Jgj _ f,?_⟩;obtain ⟨v,w',h1,h2⟩:=hr a w ha hw;rw [Jfi h1 (fun _=>by simp)];exact h _ _ ha h2
theorem WL.clearRow {T m cap o cl b l:Nat}{a:Option Addr}{xs:List Value}{z:Value}{q:Operand}{t1 t:TypeId}{p:String}{af:Array Edge}(hx:ev e q=some (.slice (some ⟨b,o,none⟩) l cl))(ha:a=some ⟨b,0,none⟩)(hu:P.underlying t1=some (.slice T))(hz:P.zr T=some [z].toArray)(h1:z.oneCell'=true)(hl:0<l)(ho:o+l=m) 
  (h:WL P ops Q n ds e (Sat w0 M I ws (row T 1 a m cap (xs.take o++List.replicate l z)::ow)) rest) :
  WL P ops Q n ds e (Sat w0 M I ws (row T 1 a m cap xs::ow)) (⟨none,.call ⟨.builtin .clear,#[q],#[t1]⟩,t,p,af,none⟩::rest):=by
 subst ha;refine WL.runV (S':=Sat w0 M I ws (row T 1 (some ⟨b,0,none⟩) m cap (xs.take o++List.replicate l z)::ow)) (fun ac w ha hw=>?_) h;have hown:w.ownsRow 0 T 1 (.slice (some ⟨b,0,none⟩) m cap) m xs:=hw.it _ yH;rcases hown.2 with ⟨hv,_⟩ | ⟨g,c,cur,hv,hg0,hg,hmc,hcm,hcs,htake⟩
 ·cases hv
 ·simp only [Value.slice.injEq,Option.some.injEq,Addr.mk.injEq,and_true] at hv;obtain ⟨rfl,_,rfl⟩:=hv;have hlen:=hown.1;have hcl:cur.toList.length=cur.size:=Array.length_toList;have hs:=run_storeCells_at P b o T (List.replicate l z) 0 cur w hg (by rw [List.length_replicate];omega) (fun v hv=>by rw [List.eq_of_mem_replicate hv];exact h1);simp only [Nat.add_zero] at hs;obtain ⟨zv,hzv,hc⟩:=Jgo hz w;have hz1:zv.cells=#[z]:=hc
  have hzc:(Builtin.zeroCells zv.cells l).toList=List.replicate l z:=by
   rw [hz1];simp [Builtin.zeroCells];apply List.ext_getElem
   ·simp
   ·intro i h1 h2;simp [Nat.mod_one]
  obtain ⟨l',rfl⟩:∃ l',l=l'+1:=⟨l - 1,by omega⟩
  refine ⟨.tuple #[],w.setRow b (cur.toList.take o++List.replicate (l'+1) z++cur.toList.drop (o+(l'+1))).toArray,?_,?_⟩
  ·rw [List.length_replicate] at hs;simp [execOp,resolve,invoke,builtin,ha.eval hx,Builtin.clear_,run_underlying hu,hzv,hzc,hs]
  ·refine hw.turn ((Fr.setRow _ _ _).mono (fun i hi=>⟨_,rfl,by subst hi;rfl⟩)) ⟨?_,.inr ⟨b,cap,_,rfl,hg0,setRow_heap w b cur _ T (0,0) hg,hmc,hcm,?_,?_⟩⟩ (fun q hq=>.inl hq)
   ·simp only [xL,xJ,List.length_replicate];omega
   ·simp only [List.size_toArray,xL,xJ,List.length_drop,List.length_replicate];omega
   ·have h4:=take_set_mid (o:=o) (vs:=List.replicate (l'+1) z) htake (by rw [List.length_replicate];omega) (by omega);rw [List.length_replicate] at h4;show List.take (m*1) (cur.toList.take o++List.replicate (l'+1) z++cur.toList.drop (o+(l'+1)))=_;rw [h4,xW (by omega),xZ]
theorem OV.sliceFrom1 {b m cp l:Nat}{el lt t:TypeId}{p:String}{af:Array Edge}{dst:Option Tmp}{g:Option (Nat × Bool)}{x lo:Operand}(hx:ev e x=some (.slice (some ⟨b,0,none⟩) m cp))(hu:P.underlying lt=some (.slice el))(hz:P.sz el=some 1)(hlo:ev e lo=some (.int .i64 (l:Int)))(h1:l<m)(h2:m≤cp):
  OV P n ds e S ⟨dst,.slice lt x (some lo) none none,t,p,af,g⟩ (.slice (some ⟨b,l,none⟩) (m - l) (cp - l)):=
 (OV.mr (ml:=some l) (mh:=none) (l:=l) (h:=m) hx hu hz (by simp only [bnd,hlo]) rfl rfl rfl (by omega)).cast (by
  rw [if_neg (by omega),Option.map_some,Nat.mul_one,Jap,xM])
end
end Go.Hw
set_option maxRecDepth 10000
namespace Go.Proofs.YtgebaodagaecmaaGreatDoor
open Go Go.Hw
set_option linter.unusedSimpArgs false
set_option linter.unusedVariables false
instance:Inhabited TG:=⟨⟨[],none,0⟩⟩
def kpB (ts:List TG)(p:Nat):Bool:=decide (p=0) || !decide (Jb0 cmpT (ts.getD p default).l (ts.getD (p - 1) default).l=0)
def kpL (ts:List TG)(j:Nat):List Nat:=(List.range j).filter (kpB ts)
def kpT (ts:List TG)(j:Nat):List TG:=(kpL ts j).map fun p=>ts.getD p default
def dupT (ts:List TG):List TG:=kpT ts ts.length
theorem kpT_len (ts:List TG)(j:Nat):(kpT ts j).length=(kpL ts j).length:=xE _
theorem kpT_le (ts:List TG)(j:Nat):(kpT ts j).length≤j:=by rw [kpT_len];exact Je8 _ _
theorem Jkx (ts:List TG)(j:Nat):kpT ts (j+1)=kpT ts j++if kpB ts j=true then [ts.getD j default] else []:=by
 unfold kpT kpL;rw [Jfa,xU]
 split <;> rfl
theorem Jop {ts:List TG}:∀ {j:Nat},j≤ts.length→(∀ p,p<j→kpB ts p=true)→kpT ts j=ts.take j
 | 0,_,_=>rfl
 | j+1,hj,h=>by
  rw [Jkx,if_pos (h j (by omega)),Jop (by omega) fun p hp=>h p (by omega)];obtain ⟨x,hx⟩:∃ x,ts[j]?=some x:=⟨_,xD (by omega)⟩
  rw [Jb3 hx,yF,hx];rfl
theorem getD_range {α:Type}(d:α)(l:List α):(List.range l.length).map (fun p=>l.getD p d)=l:=by
 refine List.ext_getElem? fun i=>?_
 by_cases h:i<l.length
 ·rw [xG,List.getElem?_range h,Option.map_some,yF,xD h];rfl
 ·rw [xV (by simp;omega),xV (by omega)]
theorem dupT_sub (ts:List TG):(dupT ts).Sublist ts:=by
 unfold dupT kpT kpL
 conv=>rhs;rw [← getD_range default ts]
 exact List.filter_sublist.map _
theorem dupT_le (ts:List TG):(dupT ts).length≤ts.length:=(dupT_sub ts).length_le
set_option maxHeartbeats 1000000 in
theorem compRG_calls (ts:List TG)(hsz:∀ y∈ts,y.l.length≤1099511627776)(b c:Nat)(h2:2≤ts.length)(hc:ts.length≤c)(hm:ts.length≤1099511627776)(w:World)(hA:Holds (rowR (some ⟨b,0,none⟩) c ts::ts.map tgA) w):Calls Tryz.prog 44 #[.slice (some ⟨b,0,none⟩) ts.length c,(.func (.func 45) #[] #[])] w fun e w'=>e=.returned (.slice (some ⟨b,0,none⟩) (dupT ts).length c)∧Turns (rowR (some ⟨b,0,none⟩) c ts::ts.map tgA) (rowR (some ⟨b,0,none⟩) c (dupT ts)::(dupT ts).map tgA) w w':=by
 refine Jdt hA (args:=[.slice (some ⟨b,0,none⟩) ts.length c,(.func (.func 45) #[] #[])]) Tryz.func44 rfl Tryz.ntmps44 rfl rfl ?_;refine Csr (Za rfl (Nn (Cs (Csr (Zm rfl (Zv (OV.ae rfl T.u39) (Zv ((OV.cq rfl rfl).cast (u:=.bool false) (congrArg Value.bool (xP (by omega)))) (Nn (WC.bu (show _=some (Value.bool false) from by rfl) ?_)))))))));refine Ck (Xn (Cs (Csr (Za rfl (Nn (Cb ?_))))))
 refine WC.cm (fun (i:Nat)=>[(0,.slice (some ⟨b,0,none⟩) ts.length c),(1,(.func (.func 45) #[] #[])),(5,.int .i64 (i:Int))])
   (fun i w'=>(1≤i∧i≤ts.length∧∀ p,p<i→kpB ts p=true)∧SatA w (rowR (some ⟨b,0,none⟩) c ts::ts.map tgA) (row 27 1 (some ⟨b,0,none⟩) ts.length c (ts.map tgV)::ts.map tgA) w')
   (fun i=>ts.length - i) 1 Y3 (fun w' hw=>⟨⟨by omega,by omega,fun p hp=>by (obtain rfl:p=0:=(by omega));rfl⟩,hw⟩) ?_
 intro i;refine WC.pure (fun hi=>?_);obtain ⟨hi1,hi,hK⟩:=hi;refine Cs (Csr (Zm rfl (Zm rfl (Zv (OV.ae rfl T.u39) (Zv (OV.cq rfl rfl) (Nn ?_))))));refine Cc rfl (fun c15=>?_) (fun c15=>?_)
 ·refine Ck (Xn (Cs (Cb (Cs ?_))));obtain ⟨y,hy⟩:∃ y,ts[i]?=some y:=⟨_,xD (by omega)⟩
  obtain ⟨z,hz⟩:∃ y,ts[i - 1]?=some y:=⟨_,xD (by omega)⟩
  have hgy:ts.getD i default=y:=by rw [yF,hy];rfl
  have hgz:ts.getD (i - 1) default=z:=by rw [yF,hz];rfl
  refine Hq [10] (m:=11) rfl ?_;refine Hf 0 rfl (OV.aw rfl) (Hf 1 rfl (OV.aw rfl) (Hf 2 rfl (OV.aw rfl) (Hf 3 rfl ((OV.d8 rfl rfl T.u39 T.z27 (by omega)).cast (u:=.pointer (some ⟨b,i,none⟩)) (by first | rfl | (congr 3;omega))) ?_)));refine Ht 4 rfl (OV.ah (v:=tgV y) rfl T.u27 rfl (fun _ hw=>by have h:=Jdx hw rfl yH (i) (tgV y) (by rw [xG,hy,Option.map_some]);rwa [Jap,xM] at h)) ?_;refine Hf 5 rfl (OV.aw rfl) (Hf 6 rfl (OV.aw rfl) (Hf 7 rfl ((OV.m3 rfl rfl (by omega)).cast (u:=.int .i64 ((i - 1:Nat):Int)) (by congr 1;omega)) (Hf 8 rfl ((OV.d8 rfl rfl T.u39 T.z27 (by omega)).cast (u:=.pointer (some ⟨b,i - 1,none⟩)) (by first | rfl | (congr 3;omega))) ?_)));refine Ht 9 rfl (OV.ah (v:=tgV z) rfl T.u27 rfl (fun _ hw=>by have h:=Jdx hw rfl yH (i - 1) (tgV z) (by rw [xG,hz,Option.map_some]);rwa [Jap,xM] at h)) ?_;refine Ho 10 rfl (fl':=true) rfl ?_;refine WL.fm (f:=45) (caps:=[]) (vs:=[tgV y,tgV z]) (v:=.bool (decide (Jb0 cmpT y.l z.l=0))) (by kernel_rfl) rfl rfl rfl (fun w' hw'=>solveE_calls y.l z.l y.a z.a y.c z.c (hsz y (xC hy)) (hsz z (xC hz)) w' (RT.of_row (c:=y.c) rfl hw' (yV (List.mem_map.2 ⟨y,xC hy,rfl⟩))) (RT.of_row (c:=z.c) rfl hw' (yV (List.mem_map.2 ⟨z,xC hz,rfl⟩)))) ?_;refine Hc (fun h=>by cases h) ?_;refine He (Xn ?_);refine Cc rfl (fun c28=>?_) (fun c28=>?_)
  ·refine Csr (Zm rfl (Zm rfl (Zv (OV.sliceFrom1 rfl T.u39 T.z27 rfl (by omega) (by omega)) (Za rfl (Nn (Cs (Csr (Za rfl (Nn (Cb ?_))))))))))
   have hnk:kpB ts i=false:=by
    unfold kpB;rw [hgy,hgz,Bool.or_eq_false_iff];exact ⟨xP (by omega),by simpa using c28⟩
   have hall:kpT ts i=ts.take i:=Jop hi hK;have hi1n:kpT ts (i+1)=ts.take i:=by rw [Jkx,if_neg (by rw [hnk];simp),xZ,hall]
   clear hgy hgz c28 hy hz;obtain ⟨i0,rfl⟩:∃ j,j=i:=⟨i,rfl⟩
   refine WC.j1 (fun (k:Nat) (C:List TG)=>[(0,.slice (some ⟨b,0,none⟩) ts.length c),(1,(.func (.func 45) #[] #[])),(5,.int .i64 ((kpT ts (i0+k)).length:Nat)),(6,.slice (some ⟨b,i0,none⟩) (ts.length - i0) (c - i0)),(7,.int .i64 (k:Int))])
     (fun k C w'=>((1≤k∧k≤ts.length - i0∧(kpT ts (i0+k)).length<i0+k∧C.length=ts.length)∧C.take (kpT ts (i0+k)).length=kpT ts (i0+k)∧∀ p,i0+k≤p+1→C[p]?=ts[p]?)∧SatA w (rowR (some ⟨b,0,none⟩) c ts::ts.map tgA) (row 27 1 (some ⟨b,0,none⟩) ts.length c (C.map tgV)::ts.map tgA) w')
     (fun k _=>ts.length - i0 - k) 1 ts ⟨rfl,rfl,by rw [hi1n,xJ,Nat.min_eq_left hi];rfl,rfl,rfl,trivial⟩ (fun w' hw=>⟨⟨⟨by omega,by omega,by rw [hi1n,xJ];omega,rfl⟩,by rw [hi1n,xJ,Nat.min_eq_left hi],fun p _=>rfl⟩,hw⟩) ?_
   intro k C;refine WC.pure (fun hk=>?_);clear hK;obtain ⟨⟨hk1,hk,hK,hCl⟩,hC1,hC2⟩:=hk;refine Cs (Csr (Zm rfl (Zm rfl (Zv (OV.ae rfl T.u39) (Zv (OV.cq rfl rfl) (Nn ?_))))));refine Cc rfl (fun c35=>?_) (fun c35=>?_)
   ·refine Ck (Xn (Cs (Cb (Cs ?_))));obtain ⟨y,hy⟩:∃ y,ts[i0+k]?=some y:=⟨_,xD (by omega)⟩
    obtain ⟨z,hz⟩:∃ y,ts[i0+k - 1]?=some y:=⟨_,xD (by omega)⟩
    have hgy:ts.getD (i0+k) default=y:=by rw [yF,hy];rfl
    have hgz:ts.getD (i0+k - 1) default=z:=by rw [yF,hz];rfl
    have hkle:=kpT_le ts (i0+k);refine Hq [10] (m:=12) rfl ?_;refine Hf 0 rfl (OV.aw rfl) (Hf 1 rfl (OV.aw rfl) (Hf 2 rfl (OV.aw rfl) (Hf 3 rfl ((OV.d8 rfl rfl T.u39 T.z27 (by omega)).cast (u:=.pointer (some ⟨b,i0+k,none⟩)) (by first | rfl | (congr 3;omega))) ?_)));refine Ht 4 rfl (OV.ah (v:=tgV y) rfl T.u27 rfl (fun _ hw=>by have h:=Jdx hw rfl yH (i0+k) (tgV y) (by rw [xG,hC2 (i0+k) (by omega),hy,Option.map_some]);rwa [Jap,xM] at h)) ?_;refine Hf 5 rfl (OV.aw rfl) (Hf 6 rfl (OV.aw rfl) (Hf 7 rfl ((OV.m3 rfl rfl (by omega)).cast (u:=.int .i64 ((k - 1:Nat):Int)) (by congr 1;omega)) (Hf 8 rfl ((OV.d8 rfl rfl T.u39 T.z27 (by omega)).cast (u:=.pointer (some ⟨b,i0+k - 1,none⟩)) (by first | rfl | (congr 3;omega))) ?_)));refine Ht 9 rfl (OV.ah (v:=tgV z) rfl T.u27 rfl (fun _ hw=>by have h:=Jdx hw rfl yH (i0+k - 1) (tgV z) (by rw [xG,hC2 (i0+k - 1) (by omega),hz,Option.map_some]);rwa [Jap,xM] at h)) ?_;refine Ho 10 rfl (fl':=true) rfl ?_;refine WL.fm (f:=45) (caps:=[]) (vs:=[tgV y,tgV z]) (v:=.bool (decide (Jb0 cmpT y.l z.l=0))) (by kernel_rfl) rfl rfl rfl (fun w' hw'=>solveE_calls y.l z.l y.a z.a y.c z.c (hsz y (xC hy)) (hsz z (xC hz)) w' (RT.of_row (c:=y.c) rfl hw' (yV (List.mem_map.2 ⟨y,xC hy,rfl⟩))) (RT.of_row (c:=z.c) rfl hw' (yV (List.mem_map.2 ⟨z,xC hz,rfl⟩)))) ?_;refine Hc (fun h=>by cases h) ?_;refine Hf 11 rfl (OV.not rfl) (He (Xn ?_));refine Cc rfl (fun c49=>?_) (fun c49=>?_)
    ·refine Csr (Zm rfl (Zm rfl (Zm rfl (Zm rfl (Zv ((OV.d8 rfl rfl T.u39 T.z27 (by omega)).cast (u:=.pointer (some ⟨b,i0+k,none⟩)) (by first | rfl | (congr 3;omega))) ?_)))));refine WL.val (OV.ah (v:=tgV y) rfl T.u27 rfl (fun _ hw=>by have h:=Jdx hw rfl yH (i0+k) (tgV y) (by rw [xG,hC2 (i0+k) (by omega),hy,Option.map_some]);rwa [Jap,xM] at h)) rfl ?_;refine Zv ((OV.d8 rfl rfl T.u39 T.z27 (by omega)).cast (u:=.pointer (some ⟨b,(kpT ts (i0+k)).length,none⟩)) (by first | rfl | (congr 3;omega))) (WL.storeRow (o:=(kpT ts (i0+k)).length) rfl rfl rfl rfl T.z27 (by rw [xE];omega) ?_);refine Nn (Cr (Zm rfl (Zv (OV.bm (j:=1) rfl rfl (by omega)) (Za rfl (Nl (Xb (Xn (Cr (Zm rfl (Zv (OV.bm (j:=1) rfl rfl (by omega)) (Za rfl (Nl ?_))))))))))))
     have hkp:kpB ts (i0+k)=true:=by
      unfold kpB;rw [hgy,hgz,xR];exact Or.inr (by simpa using c49)
     have hsn:kpT ts (i0+k+1)=kpT ts (i0+k)++[y]:=by rw [Jkx,if_pos hkp,hgy]
     have hsl:(kpT ts (i0+(k+1))).length=(kpT ts (i0+k)).length+1:=by rw [show i0+(k+1)=i0+k+1 by omega,hsn,xL];rfl
     exact WX.er (k+1) (C.set (kpT ts (i0+k)).length y) ⟨rfl,rfl,by rw [hsl];rfl,rfl,rfl,trivial⟩ (fun w' hw=>⟨⟨⟨by omega,by omega,by omega,by rw [List.length_set];exact hCl⟩,by
      rw [hsl,show i0+(k+1)=i0+k+1 by omega,hsn,Jb3 (t:=y) (by rw [List.getElem?_set_self (by omega)]),List.take_set_of_le (Nat.le_refl _),hC1],fun p hp=>by
      rw [List.getElem?_set_ne (by omega)];exact hC2 p (by omega)⟩,by rw [← List.map_set] at hw;exact hw⟩) (by show ts.length - i0 - (k+1)<ts.length - i0 - k;omega)
    refine Ck (Xb (Xn (Cr (Zm rfl (Zv (OV.bm (j:=1) rfl rfl (by omega)) (Za rfl (Nl ?_)))))))
    have hkp:kpB ts (i0+k)=false:=by
     unfold kpB;rw [hgy,hgz,Bool.or_eq_false_iff];exact ⟨xP (by omega),by simpa using c49⟩
    have hsn:kpT ts (i0+(k+1))=kpT ts (i0+k):=by rw [show i0+(k+1)=i0+k+1 by omega,Jkx,if_neg (by rw [hkp];simp),xZ]
    exact WX.er (k+1) C ⟨rfl,rfl,by rw [hsn];rfl,rfl,rfl,trivial⟩ (fun w' hw=>⟨⟨⟨by omega,by omega,by rw [hsn];omega,hCl⟩,by rw [hsn];exact hC1,fun p hp=>hC2 p (by omega)⟩,hw⟩) (by show ts.length - i0 - (k+1)<ts.length - i0 - k;omega)
   refine Ce (Xe (Xe (Xh (Xn (Cs ?_)))));obtain rfl:k=ts.length - i0:=by omega
   have he:i0+(ts.length - i0)=ts.length:=by omega
   rw [he] at hK hC1 hC2 ⊢;have hdl:(kpT ts ts.length).length=(dupT ts).length:=rfl;refine Cr (Zm rfl (Zm rfl (Zv (OV.sliceFrom1 rfl T.u39 T.z27 rfl (by omega) (by omega)) (WL.clearRow (o:=(dupT ts).length) (l:=ts.length - (dupT ts).length) (z:=.slice none 0 0) rfl rfl T.u39 T.zr27 rfl (by omega) (by omega) ?_))));refine Nn (Cs ?_);have hdl2:(dupT ts).length≤ts.length:=dupT_le ts;refine Cr (Zm rfl (Zm rfl (Zv (OV.sliceTo rfl T.u39 T.z27 rfl (by omega)) (Za rfl (Nn (WC.az ?_))))));refine Xq (Xr (Xr (Xq (Xr ?_))))
   have hfin:((C.map tgV).take (dupT ts).length++List.replicate (ts.length - (dupT ts).length) (Value.slice none 0 0)).take ((dupT ts).length*1)=(dupT ts).map tgV:=by
    rw [Nat.mul_one,List.take_append_of_le_length (by rw [xJ,xE];omega),List.take_take,Nat.min_self,← List.map_take,show C.take (dupT ts).length=dupT ts from hC1]
   exact WX.ret1 rfl rfl rfl (fun w' hw=>⟨rfl,by
    have h1:=hw.rowCut (k:=(dupT ts).length) hdl2;rw [hfin] at h1;exact (Hw.Sat.part (List.Sublist.cons_cons _ ((dupT_sub ts).map tgA)) h1).turned⟩)
  refine Ck (Xb (Xn (Cr (Zm rfl (Zv (OV.bm (j:=1) rfl rfl (by omega)) (Za rfl (Nl ?_)))))))
  exact WX.bk (i+1) Y3 (fun w' hw=>⟨⟨by omega,by omega,fun p hp=>by
   rcases Nat.lt_or_ge p i with h | h
   ·exact hK p h
   ·obtain rfl:p=i:=by omega
    unfold kpB;rw [hgy,hgz,xR];exact Or.inr (by simpa using c28)⟩,hw⟩) (by show ts.length - (i+1)<ts.length - i;omega)
 refine Ce (Xe (Xe (Xh (Xn (Csr (Zm rfl (Za rfl (Nn (WC.az ?_)))))))));obtain rfl:i=ts.length:=by omega
 have hd:dupT ts=ts:=by
  unfold dupT;rw [Jop (Nat.le_refl _) hK,List.take_length]
 exact WX.ret1 rfl rfl rfl (fun w' hw=>⟨by rw [hd],by rw [hd];exact hw.turned⟩)
theorem kp_ok {ts:List TG}(hs:ts.Pairwise fun x y=>¬ Jb0 cmpT y.l x.l<0):∀ j,j≤ts.length→Str cmpR ((kpT ts j).map TG.l)∧(0<j→∃ m,(kpT ts j).map TG.l=m++[(ts.getD (j - 1) default).l])∧∀ r,r∈(kpT ts j).map TG.l↔r∈(ts.take j).map TG.l
 | 0,_=>⟨List.Pairwise.nil,fun h=>absurd h (by omega),fun r=>by simp [kpT,kpL]⟩
 | j+1,hj=>by
  obtain ⟨h1,h2,h3⟩:=kp_ok hs j (by omega);obtain ⟨x,hx⟩:∃ x,ts[j]?=some x:=⟨_,xD (by omega)⟩
  have hgx:ts.getD j default=x:=by rw [yF,hx];rfl
  rw [Jkx,hgx,Jb3 hx]
  by_cases hk:kpB ts j=true
  ·rw [if_pos hk,xU,xU];refine ⟨List.pairwise_append.2 ⟨h1,by simp,fun a ha b hb=>?_⟩,fun _=>⟨_,by rw [Nat.add_sub_cancel,hgx];rfl⟩,fun r=>by rw [xT,xT,h3]⟩;simp only [yC,yD,xI] at hb;subst hb;rcases Nat.eq_zero_or_pos j with rfl | h0
   ·simp [kpT,kpL] at ha
   obtain ⟨m,hm⟩:=h2 h0;obtain ⟨z,hz⟩:∃ z,ts[j - 1]?=some z:=⟨_,xD (by omega)⟩
   have hgz:ts.getD (j - 1) default=z:=by rw [yF,hz];rfl
   have hzx:cmpR z.l x.l<0:=by
    unfold kpB at hk;rw [hgx,hgz,xR,decide_eq_true_eq] at hk
    have hne:Jb0 cmpT x.l z.l≠0:=by
     rcases hk with h | h
     ·omega
     ·simpa using h
    have hnl:¬ Jb0 cmpT x.l z.l<0:=by
     have h5:=List.pairwise_iff_getElem.1 hs (j - 1) j (by omega) (by omega) (by omega);rw [xD (by omega)] at hx hz;rw [← xH hx,← xH hz];exact h5
    have h6:=Jn2.anti x.l z.l;show Jb0 cmpT z.l x.l<0;have h7:cmpR z.l x.l=- cmpR x.l z.l:=h6;have h8:cmpR x.l z.l=Jb0 cmpT x.l z.l:=rfl;have h9:cmpR z.l x.l=Jb0 cmpT z.l x.l:=rfl;omega
   rw [hm,hgz] at ha h1;rcases List.mem_append.1 ha with h | h
   ·exact Jn2.tr _ _ _ ((List.pairwise_append.1 h1).2.2 a h _ (by simp)) hzx
   ·simp only [xI] at h;rw [h];exact hzx
  ·rw [if_neg hk,xZ];have hk2:kpB ts j=false:=by simpa using hk
   unfold kpB at hk2;rw [Bool.or_eq_false_iff] at hk2;have h0:0<j:=by have:=hk2.1;simp at this;omega
   have he:x.l=(ts.getD (j - 1) default).l:=by
    have h5:=hk2.2;rw [hgx] at h5;exact Jn2.eq _ _ (by simpa using h5)
   obtain ⟨m,hm⟩:=h2 h0;refine ⟨h1,fun _=>⟨m,by rw [Nat.add_sub_cancel,hgx,he];exact hm⟩,fun r=>?_⟩;rw [h3,xU,xT];refine ⟨Or.inl,fun h=>h.elim id fun h=>?_⟩;simp only [yC,yD,xI] at h;rw [h,he,← h3,hm];simp
theorem dup_ok {ts:List TG}(hs:ts.Pairwise fun x y=>¬ Jb0 cmpT y.l x.l<0):Str cmpR ((dupT ts).map TG.l)∧∀ r,r∈(dupT ts).map TG.l↔r∈ts.map TG.l:=by
 obtain ⟨h1,_,h3⟩:=kp_ok hs ts.length (Nat.le_refl _);rw [List.take_length] at h3;exact ⟨h1,h3⟩
def ResOK (rs:List (List Tm))(l:List (List Tm)):Prop:=Str cmpR l∧∀ r,r∈l↔r∈rs
theorem comp_ok {rs:List (List Tm)}(hl:rs.length≤1099511627776)(hr:∀ r∈rs,r.length≤1099511627776):Jpr rs (ResOK rs):=by
 intro a c ts w1 hp hs hA;have hlen:ts.length=rs.length:=by have:=hp.length_eq;simpa using this
 have hsz:∀ y∈ts,y.l.length≤1099511627776:=fun y hy=>hr _ (hp.mem_iff.1 (List.mem_map.2 ⟨y,hy,rfl⟩))
 by_cases h2:ts.length<2
 ·have h3:Str cmpR (ts.map TG.l):=by
   rcases ts with _ | ⟨x,_ | ⟨y,l⟩⟩
   ·exact List.Pairwise.nil
   ·simp [Str]
   ·simp at h2;omega
  refine (compR1_calls a ts.length c _ h2 w1).mono (fun e w2 ⟨h5,h6⟩=>⟨ts,h5,⟨h3,fun r=>hp.mem_iff⟩,⟨h6.mono (fun _ f=>f.elim),(Hw.Sat.keep (Sat.startA hA) h6).holdsAll.φ,fun i hi b hb=>⟨(Hw.Sat.keep (Sat.startA hA) h6).holdsAll.lt i hi b hb,Or.inl ⟨i,hi,hb⟩⟩,hA.disj⟩⟩)
 ·obtain ⟨b,rfl,hc⟩:∃ b,a=some ⟨b,0,none⟩∧ts.length≤c:=by
   rcases (Jd4 (Sat.startA hA) yH).2 with ⟨_,h,_⟩ | h
   ·omega
   ·exact h
  exact (compRG_calls ts hsz b c (by omega) hc (by omega) w1 hA).mono (fun e w2 ⟨h5,h6⟩=>⟨dupT ts,h5,⟨(dup_ok hs).1,fun r=>((dup_ok hs).2 r).trans hp.mem_iff⟩,h6⟩)
end Go.Proofs.YtgebaodagaecmaaGreatDoor
