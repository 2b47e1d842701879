/- Contracts of functions of the program: what each returns and leaves in memory. Printed by gen.py and walk.py. -/
import Derived.Test.YtgebaodagaecmaaGreatDoorMg15
import Derived.Test.YtgebaodagaecmaaGreatDoorHxA
set_option maxRecDepth 10000
namespace Go.Proofs.YtgebaodagaecmaaGreatDoor
open Go Go.Hw
set_option linter.unusedSimpArgs false
set_option linter.unusedVariables false
structure AG where
 x:At
 a:Option Addr
 c:Nat
def agC (y:AG):List Value:=atC y.x y.a y.c
theorem Joy (y:AG):(agC y).length=5:=rfl
theorem Jis (y:AG):∀ v∈agC y,v.oneCell'=true:=by simp [agC,atC,Value.oneCell']
abbrev argA (y:AG):Hw.Item:=rowT y.a y.c y.x.args
abbrev argsA (ys:List AG):List Hw.Item:=ys.map argA
abbrev rowAt (la:Option Addr)(lc:Nat)(ys:List AG):Hw.Item:=row 29 5 la ys.length lc (ys.flatMap agC)
def atsA (la:Option Addr)(lc:Nat)(ys:List AG):List Hw.Item:=rowAt la lc ys::argsA ys
def sortA (l:List At):List At:=l.mergeSort fun a b=>!decide (cmpA b a<0)
theorem Jec (l:List At):(sortA l).Perm l:=List.mergeSort_perm _ _
theorem sortA_sorted (l:List At):(sortA l).Pairwise fun a b=>¬ cmpA b a<0:=by
 have hO:=cmpA_ok.swo
 have h:=List.pairwise_mergeSort (le:=fun a b=>!decide (cmpA b a<0)) (fun a b c h1 h2=>by
  simp only [Bool.not_eq_true',decide_eq_false_iff_not] at *;have:=hO.ntrans c b a (by simpa [Go.Proofs.ltOf] using h2) (by simpa [Go.Proofs.ltOf] using h1)
  simpa [Go.Proofs.ltOf] using this) (fun a b=>by
  simp only [xR,Bool.not_eq_true',decide_eq_false_iff_not];have:=cmpA_ok.anti a b;omega) l
 refine h.imp ?_;intro a b hab
 simpa using hab
theorem Jna {ys rows:List At}(hp:ys.Perm rows)(hs:ys.Pairwise fun a b=>¬ cmpA b a<0):ys=sortA rows:=by
 refine List.Perm.eq_of_pairwise (le:=fun a b=>¬ cmpA b a<0) (fun a b _ _ h1 h2=>?_) hs (sortA_sorted rows) (hp.trans (Jec _).symm);have:=cmpA_ok.anti a b;exact cmpA_ok.eq _ _ (by omega)
theorem T.apA:appB Tryz.prog 22 29 5 72=true:=by kernel_rfl
theorem RT.fr {w w':World}{M:Nat→Prop}{a:Option Addr}{ts:List Tm}(h:RT w a ts)(hne:∀ q,a=some q→0<ts.length→¬ M q.block)(hf:Fr M w w'):RT w' a ts:=by
 refine ⟨h.nil,fun q hq i t ht j v hv=>?_⟩;have hl:0<ts.length:=by have:=(List.getElem?_eq_some_iff.1 ht).1;omega
 have h1:=h.at_ q hq i t ht j v hv;have h2:=hf.keep q.block (h.lt hq hl) (hne q hq hl);unfold World.cell? at h1 ⊢;rw [Jcv,Jcv] at h1 ⊢;rw [h2];exact h1
theorem selR_and {g:RelG}(ok:RelOK g)(parts:Int):selR (rp g) (bits .and .i64 parts 7) [] []=selR (rp g) parts [] []:=by
 unfold selR;congr 2;refine List.filter_congr fun q hq=>?_
 obtain ⟨e,he,rfl⟩:=List.mem_map.1 hq;rw [inP_and parts (ok.part e he)]
theorem selR_mem {L:List (List Int × Nat)}{parts:Int}{l:List Int}(h:l∈selR L parts [] []):∃ q∈L,q.1=l:=by
 have h1:=(Jgn _).mem_iff.1 h;obtain ⟨q,hq,rfl⟩:=List.mem_map.1 h1;exact ⟨q,(List.mem_filter.1 hq).1,rfl⟩
theorem flat_perm {α β:Type}(f h:α→List β):∀ l:List α,(∀ x∈l,(f x).Perm (h x))→(l.flatMap f).Perm (l.flatMap h)
 | [],_=>.refl _
 | x::l,hh=>by
  rw [List.flatMap_cons,List.flatMap_cons];exact (hh x yH).append (flat_perm f h l fun y hy=>hh y (.tail _ hy))
def accF (g:BaseG)(parts:Int)(rs:List (Pd × RelG)):List At:=rs.flatMap fun x=>(selR (rp x.2) parts [] []).map (Jbs g.vs x.1)
theorem accF_perm (g:BaseG)(parts:Int):(accF g parts g.rs).Perm (selF (Jcj g) parts):=by
 unfold accF selF Jcj;rw [List.filter_flatMap,List.map_flatMap];refine flat_perm _ _ _ fun x _=>?_
 rw [List.filter_map,List.map_map];refine ((Jgn _).map _).trans (List.Perm.of_eq ?_);rw [List.map_map]
 have e:(fun p:List Int × Nat=>inP parts p.2 && decide (fitsL p.1 [] []))=fun p=>inP parts p.2:=by
  funext p;simp [fitsL]
 rw [e];rfl
theorem accF_len (g:BaseG)(parts:Int)(rs:List (Pd × RelG)):(accF g parts rs).length=(rs.map fun x=>(selR (rp x.2) parts [] []).length).sum:=by
 unfold accF;rw [List.length_flatMap];congr 1;exact List.map_congr_left fun x _=>by rw [xE]
theorem accF_snoc (g:BaseG)(parts:Int)(rs:List (Pd × RelG))(x:Pd × RelG):accF g parts (rs++[x])=accF g parts rs++(selR (rp x.2) parts [] []).map (Jbs g.vs x.1):=by simp [accF]
theorem CmpOK.pull_swo {α β:Type}{f:β→β→Int}(hf:CmpOK f)(m:α→β):Go.Sort.SWO (Go.Proofs.ltOf fun a b=>f (m a) (m b)):=
 ⟨fun a=>hf.swo.irrefl (m a),fun a b c=>hf.swo.trans (m a) (m b) (m c),fun a b c=>hf.swo.ntrans (m a) (m b) (m c)⟩
theorem col_at2 {ys:List Col}{rows:List (List Int)}(h:ys.map Col.l=rows){k:Nat}(hk:k<ys.length):∃ y,ys[k]?=some y∧y∈ys∧rows[k]?=some y.l:=
 ⟨ys[k],xD hk,List.getElem_mem hk,by rw [← h,xG,xD hk];rfl⟩
theorem lst_addr2 {w0 ws w:World}{M I:Nat→Prop}{ow:List Hw.Item}{za:Option Addr}{zc:Nat}{zs:List Col}(hw:Sat w0 M I ws ow w)(hm:row 51 1 za zs.length zc (zs.map encC)∈ow):0<zs.length→∃ q,za=some ⟨q,0,none⟩:=fun hp=>Jed (hw.it _ hm) hp
theorem zmem {za:Option Addr}{zc:Nat}{zs:List Col}{z:Col}{A B:List Hw.Item}{i j k:Hw.Item}(h:z∈zs):row 3 1 z.a z.l.length z.c (ints z.l)∈i::j::k::(A++(B++lstA za zc zs)):=.tail _ (yV (.tail _ (xB _ (xB _ (yV (List.mem_flatMap.2 ⟨z,h,.head _⟩))))))
theorem sub_tab (g:BaseG)(X A B:List Hw.Item):(tabA g).Sublist (X++(A++(baseA g++B))):=((((List.sublist_append_left (tabA g) _).trans (List.sublist_append_left (baseA g) B)).trans (List.sublist_append_right A _))).trans (List.sublist_append_right X _)
theorem Jcr {w:World}{T:TypeId}{size:Nat}{a:Option Addr}{q:Addr}{m cap:Nat}{xs:List Value}(hq:a=some q)(h:(row T size a m cap xs).φ w):∀ j u,xs[j]?=some u→w.cell? (q.add j)=some u:=by
 subst hq;intro j u hj;have h1:w.ownsRow 0 T size (.slice (some q) m cap) m xs:=h;have h2:=h1.cells (g:=q.block) rfl j u hj;rcases h1.2 with ⟨hv,_⟩ | ⟨g,c,cur,hv,_⟩
 ·cases hv
 ·simp only [Value.slice.injEq,Option.some.injEq] at hv;rw [hv.1] at h2 ⊢;exact h2
theorem Jdx {w0 ws w:World}{M I:Nat→Prop}{ow:List Hw.Item}(h:Sat w0 M I ws ow w){T:TypeId}{size:Nat}{a:Option Addr}{q:Addr}{m cap:Nat}{xs:List Value}(hq:a=some q)(hm:row T size a m cap xs∈ow):∀ j u,xs[j]?=some u→w.cell? (q.add j)=some u:=
 Jcr hq (h.it _ hm)
theorem row_cap {w:World}{T c m:Nat}{a:Option Addr}{xs:List Value}(h:(row T 1 a m c xs).φ w):m≤c:=by
 have h1:w.ownsRow 0 T 1 (.slice a m c) m xs:=h;rcases h1.2 with ⟨hv,h0⟩ | ⟨g,cc,cur,hv,_,_,hmc,_⟩
 ·omega
 ·simp only [Value.slice.injEq] at hv;omega
set_option maxHeartbeats 2000000 in
theorem bfacts_calls (g:BaseG)(ok:BaseOK g)(parts:Int)(w:World)(hA:Holds (baseA g) w):Calls Tryz.prog 19 #[ptr g.p,.int .i64 parts] w fun e w'=>∃ g1 la lc ys,e=.returned (.slice la ys.length lc)∧ys.map AG.x=sortA (selF (Jcj g) parts)∧SameB g g1∧Turns (baseA g) (baseA g1++atsA la lc ys) w w':=by
 refine Jdt hA (args:=[ptr g.p,.int .i64 parts]) Tryz.func19 rfl Tryz.ntmps19 rfl rfl ?_;refine Csr (Za rfl (Nn (Csr (Za rfl (Nn (Cs (Csr (Zm rfl (Zv (OV.ak rfl) (Zv (OV.f0 2 rfl T.u105 rfl) (Zv (OV.l1 (v:=.map (some g.rb)) rfl T.u103 rfl yH rfl) (WL.range T.u103 rfl (fun _ hw=>Je7 (kv:=relKV g.rs) (xB _ yH) _ hw) rfl ?_))))))))))));intro it14;refine Nn (Cb ?_)
 refine WC.weak (S':=SatA w (baseA g) (own it14 (iterK g.rb (relKV g.rs).length [])::rowAt none 0 []::(baseA g++argsA []))) (fun w' hw=>by
  have h2:=(hw.rowNil 29 5).pick [[row 29 5 none 0 0 []],[own it14 (iterK g.rb (relKV g.rs).length [])],baseA g] [1,0,2] 3 rfl (by decide) (by decide);exact h2.perm (List.Perm.of_eq (by simp [cat,argsA,rowAt]))) ?_
 refine WC.n4 (fun (vis:List Nat) (la:Option Addr) (lc:Nat) (ys:List AG) (g1:BaseG)=>[(0,ptr g.p),(1,.int .i64 parts),(5,.slice la ys.length lc),(14,yZ it14)])
   (fun vis la lc ys g1 w'=>(Vs g.rs vis∧SameB g g1∧ys.map AG.x=accF g parts (visL g.rs vis)∧(∀ y∈ys,y.x.args.length≤8)∧ys.length≤1099511627776)∧SatA w (baseA g) (own it14 (iterK g.rb (relKV g.rs).length vis)::rowAt la lc ys::(baseA g1++argsA ys)) w') (fun vis _ _ _ _=>unseen (relKV g.rs).length vis) [] none 0 [] g Y4 (fun w' hw=>⟨⟨Vs.start _,SameB.refl ok,rfl,(fun y hy=>by cases hy),by decide⟩,hw⟩) ?_
 intro vis la lc ys g1;refine WC.pure (fun hi=>?_);obtain ⟨hvs,hsame,hys,hyargs,hyl⟩:=hi;refine Csr ?_;refine WL.next (enc:=pdV) (kv:=relKV g.rs) rfl rfl (fun _ hw=>by rw [← hsame.kv,← hsame.rb];exact Je7 (yV (.tail _ (xA _ (xB _ yH)))) _ hw) ?_ ?_
 ·intro hall;refine Zv (OV.extract rfl rfl) (Nn (Cs (WC.bu rfl ?_)));refine Ce (Xe (Xe (Xh (Xn (Csr (Zm rfl ?_))))));have hal:∀ i,i<g.rs.length→i∈vis:=fun i hi=>hall i (by rw [Jj6];exact hi)
  have hpm:(ys.map AG.x).Perm (selF (Jcj g) parts):=by
   rw [hys];refine List.Perm.trans ?_ (accF_perm g parts);unfold accF;exact (hvs.all hal).flatMap_right _
  refine WL.focus (ow':=rowAt la lc ys::(argsA ys++(own it14 (iterK g.rb (relKV g.rs).length vis)::baseA g1))) (by exact pmC [[own it14 (iterK g.rb (relKV g.rs).length vis)],[rowAt la lc ys],baseA g1,argsA ys] [1,3,0,2]) ?_;obtain ⟨us,hus⟩:∃ us:List {y:AG // y∈ys},us.map (·.1)=ys:=⟨_,List.attach_map_subtype_val ys⟩
  have hul:us.length=ys.length:=by have h:=congrArg List.length hus;rwa [xE] at h
  have huf:us.flatMap (fun z=>agC z.1)=ys.flatMap agC:=by have h:=congrArg (List.flatMap agC) hus;rwa [List.flatMap_map] at h
  refine WL.cT (ι:=List {y:AG // y∈ys}) (vs:=[.slice la ys.length lc,.func (.func 29) #[] #[]]) (vv:=fun _=>.tuple #[]) (pp:=fun vs=>vs.Perm us∧vs.Pairwise (fun x y=>Go.Proofs.ltOf (fun a b:{y:AG // y∈ys}=>cmpA a.1.x b.1.x) y x=false)) [rowAt la lc ys] (AA:=fun vs=>[rowAt la lc (vs.map (·.1))]) rfl (fun w' hw' hH=>?_) ?_
  ·have hcon:=Jfj (P:=Tryz.prog) Tryz.sortA (T:=29) (c:=lc) 5 (by decide) (by kernel_rfl) T.z29 (fun z:{y:AG // y∈ys}=>agC z.1) (fun _=>rfl) (fun z=>Jis z.1) (fun a b=>cmpA a.1.x b.1.x) (cmpA_ok.pull_swo fun z:{y:AG // y∈ys}=>z.1.x) 29 (by kernel_rfl) la us w' (by rw [hul,huf];exact hH) ?_ (by omega)
   ·rw [hul,huf] at hcon;refine hcon.mono ?_;rintro en w'' ⟨h1,vs,h2,h3,h4⟩;refine ⟨vs,h1,⟨h2,h3⟩,?_⟩;have e1:(vs.map (·.1)).length=vs.length:=xE ..;have e2:(vs.map (·.1)).flatMap agC=vs.flatMap fun z=>agC z.1:=by rw [List.flatMap_map]
    show Turns _ [row _ _ la (vs.map (·.1)).length lc ((vs.map (·.1)).flatMap agC)] _ _;rw [e1,e2];exact h4
   ·intro q hq w2 hf y1 y2
    have hrt:∀ y:{y:AG // y∈ys},RT w2 y.1.a y.1.x.args:=fun y=>by
     have hm:argA y.1∈rowAt la lc ys::(argsA ys++(own it14 (iterK g.rb (relKV g.rs).length vis)::baseA g1)):=.tail _ (xA _ (List.mem_map.2 ⟨y.1,y.2,rfl⟩));refine RT.fr (RT.of_row (c:=y.1.c) rfl hw' hm) (fun q2 hq2 _ he=>?_) hf;exact (List.pairwise_cons.1 hw'.disj).1 (argA y.1) (xB _ (xA _ (List.mem_map.2 ⟨y.1,y.2,rfl⟩))) q.block ⟨q,hq,rfl⟩ ⟨q2,hq2,he⟩
    exact Jk5 y1.1.x y2.1.x y1.1.a y2.1.a y1.1.c y2.1.c (by have:=hyargs y1.1 y1.2;omega) (by have:=hyargs y2.1 y2.2;omega) w2 (hrt y1) (hrt y2)
  rintro vs hpp;obtain ⟨hvp,hvsort⟩:vs.Perm us∧vs.Pairwise (fun x y=>Go.Proofs.ltOf (fun a b:{y:AG // y∈ys}=>cmpA a.1.x b.1.x) y x=false):=hpp;obtain ⟨ts,hts⟩:∃ ts,ts=vs.map (·.1):=⟨_,rfl⟩
  have htp:ts.Perm ys:=by have h:=hvp.map (·.1);rwa [hus,← hts] at h
  have htl:ts.length=ys.length:=htp.length_eq
  have htx:ts.map AG.x=sortA (selF (Jcj g) parts):=by
   refine Jna ((htp.map _).trans hpm) ?_;rw [hts,List.map_map,List.pairwise_map];refine hvsort.imp ?_;intro a b hab
   simpa [Go.Proofs.ltOf] using hab
  rw [← hts];refine Nn (Csr (Zm rfl (Za rfl (Nn (WC.az ?_)))));refine WX.ret1 rfl rfl rfl (fun w' hw=>⟨g1,la,lc,ts,by rw [htl],htx,hsame,?_⟩);have h2:=(show Sat w (DD (baseA g)) (fun b=>b<w.heap.size∧¬ DD (baseA g) b) w ([rowAt la lc ts]++(argsA ys++([own it14 (iterK g.rb (relKV g.rs).length vis)]++baseA g1))) w' from hw).pick [[rowAt la lc ts],argsA ys,[own it14 (iterK g.rb (relKV g.rs).length vis)],baseA g1] [3,0,1] 4 rfl (by decide) (by decide);refine Hw.Sat.turned (h2.perm (ow':=baseA g1++atsA la lc ts) ?_);exact List.Perm.append_left _ (List.Perm.cons _ (htp.map _))
 intro i q hi2 hv;obtain ⟨x,hx,hxm,rfl,hil⟩:=relKV_get hi2;refine Zv (OV.extract rfl rfl) (Nn (Cs (WC.co rfl ?_)));refine Ck (Xn (Cb (Csr (Zv (OV.entry (enc:=pdV) (kv:=relKV g.rs) (i:=i) rfl (fun _ hw=>hw.it _ yH) (fun _ hw=>by rw [← hsame.kv,← hsame.rb];exact Je7 (yV (.tail _ (xA _ (xB _ yH)))) _ hw) hi2) (Zv (OV.extract rfl rfl) (Zv (OV.extract rfl rfl) (WL.alloc T.zr107 rfl ?_)))))));intro b6;refine WL.ag (vs:=pdC x.1) rfl rfl rfl T.z107 rfl ?_;refine Za rfl (Nn (Csr (Zm rfl (Zm rfl (Zv (OV.and rfl rfl) ?_)))));obtain ⟨x',hx',hx1,hxe,hxr,hxw,okx⟩:=hsame.at_ i x hx;obtain ⟨r1,r2,hs1,_⟩:=Jlv hx';refine WL.focus (ow':=oQ b6 (pdC x.1) 107::own it14 (iterK g.rb (relKV g.rs).length (vis++[i]))::rowAt la lc ys::((tabA g1++(rbA g1::(relsA r1++(relA x'.2++relsA r2))))++argsA ys)) (List.Perm.of_eq (by unfold baseA;rw [hs1,show x'=(x'.1,x'.2) from rfl,Jez])) ?_
 refine WL.focus (ow':=relA x'.2++(([oQ b6 (pdC x.1) 107,own it14 (iterK g.rb (relKV g.rs).length (vis++[i])),rowAt la lc ys]++(tabA g1++[rbA g1]))++(relsA r1++(relsA r2++argsA ys)))) (by
  refine List.Perm.trans ?_ (List.Perm.of_eq (show [oQ b6 (pdC x.1) 107,own it14 (iterK g.rb (relKV g.rs).length (vis++[i])),rowAt la lc ys]++(tabA g1++([rbA g1]++(relsA r1++(relA x'.2++(relsA r2++argsA ys)))))=_ by simp));exact (List.Perm.of_eq (by simp [cat])).trans (pmC [[oQ b6 (pdC x.1) 107,own it14 (iterK g.rb (relKV g.rs).length (vis++[i])),rowAt la lc ys],tabA g1,[rbA g1],relsA r1,relA x'.2,relsA r2,argsA ys] [4,0,1,2,3,5,6])) ?_
 refine WL.dl (ι:=RelG × Option Addr × Nat × List Col) (vs:=[ptr x'.2.r,.int .i64 (bits .and .i64 parts 7)]) (vv:=fun z=>.slice z.2.1 z.2.2.2.length z.2.2.1) (pp:=fun z=>z.2.2.2.map Col.l=selR (rp x'.2) (bits .and .i64 parts 7) [] []∧RelOK z.1∧RelLe x'.2 z.1∧z.1.es=x'.2.es) (relA x'.2) (AA:=fun z=>relA z.1++lstA z.2.1 z.2.2.1 z.2.2.2) rfl (by kernel_rfl) (by rw [hxr];rfl) rfl (fun w' hw' hH=>(rows_calls x'.2 okx (bits .and .i64 parts 7) w' hH).mono (fun en w'' ⟨g',la,lc,ys,h1,h2,h3,h4,h5,h6⟩=>⟨(g',la,lc,ys),h1,⟨h2,h3,h4,h5⟩,h6⟩)) ?_;rintro ⟨gr,za,zc,zs⟩ hpp;obtain ⟨hzs0,okr,ler,esr⟩:zs.map Col.l=selR (rp x'.2) (bits .and .i64 parts 7) [] []∧RelOK gr∧RelLe x'.2 gr∧gr.es=x'.2.es:=hpp;have hzs:zs.map Col.l=selR (rp x.2) parts [] []:=by rw [hzs0,selR_and okx,rp,hxe,rp]
 have hzn:zs.length≤x.2.es.length:=by
  have h1:=congrArg List.length hzs;rw [xE] at h1;have h2:=Jkl (rp x.2) parts [] [];rw [Jly] at h2;omega
 obtain ⟨g2,hg2⟩:∃ g2:BaseG,g2={ g1 with rs:=r1++(x'.1,gr)::r2 }:=⟨_,rfl⟩
 have hsame2:SameB g g2:=by rw [hg2];exact hsame.setRel hs1 esr ler.r ler.width okr
 have hp2:g2.p=g.p:=hsame2.p
 have hbnd:(accF g parts (visL g.rs vis)).length+zs.length≤1099511627776:=by
  have h1:=vis_le (f:=fun x:Pd × RelG=>(selR (rp x.2) parts [] []).length) (f2:=fun x=>x.2.es.length) (fun y=>by have:=Jkl (rp y.2) parts [] [];rw [Jly] at this;exact this) (hvs.step hil hv);rw [Ji7 hx,← accF_len g,accF_snoc,xL,xE,← hzs,xE] at h1;have:=ok.fl;omega
 refine WL.weak (S':=SatA w (baseA g) (oQ b6 (pdC x.1) 107::own it14 (iterK g.rb (relKV g.rs).length (vis++[i]))::rowAt la lc ys::(argsA ys++(baseA g2++lstA za zc zs)))) (fun w' hw=>?_) ?_
 ·have h2:=hw.perm (ow':=relA gr++(lstA za zc zs++(([oQ b6 (pdC x.1) 107,own it14 (iterK g.rb (relKV g.rs).length (vis++[i])),rowAt la lc ys]++(tabA g1++[rbA g1]))++(relsA r1++(relsA r2++argsA ys))))) (List.Perm.of_eq (xF _ _ _).symm);have h3:=h2.perm (ow':=relA gr++(lstA za zc zs++([oQ b6 (pdC x.1) 107,own it14 (iterK g.rb (relKV g.rs).length (vis++[i])),rowAt la lc ys]++(tabA g1++([rbA g1]++(relsA r1++(relsA r2++argsA ys))))))) (List.Perm.of_eq (by simp));have h4:=h3.pik [relA gr,lstA za zc zs,[oQ b6 (pdC x.1) 107,own it14 (iterK g.rb (relKV g.rs).length (vis++[i])),rowAt la lc ys],tabA g1,[rbA g1],relsA r1,relsA r2,argsA ys] [2,7,3,4,5,0,6,1] 8;refine h4.perm (List.Perm.of_eq ?_);have hk:relKV g1.rs=relKV (r1++(x'.1,gr)::r2):=by rw [hs1];simp [relKV,ler.r]
  rw [hg2];unfold baseA rbA;simp only [Jez,← hk];simp [cat,tabA,nbA];rfl
 refine Zv (OV.ae rfl T.u109) (Zm rfl (Nn (Cb ?_)));refine WC.mq (fun w' hw=>(lst_addr2 (za:=za) (zc:=zc) (zs:=zs) hw (yV (.tail _ (yV (xB _ (xB _ yH))))):0<zs.length→∃ q,za=some ⟨q,0,none⟩)) (fun hza=>?_)
 refine WC.dd (fun (k:Nat) (la2:Option Addr) (lc2:Nat) (ys2:List AG)=>[(0,ptr g.p),(1,.int .i64 parts),(5,.slice la2 ys2.length lc2),(6,yZ b6),(14,yZ it14),(23,.slice za zs.length zc),(24,.int .i64 (zs.length:Int)),(25,.int .i64 (k:Int))])
   (fun k la2 lc2 ys2 w'=>(k≤zs.length∧ys2.length=ys.length+k∧ys2.map AG.x=accF g parts (visL g.rs vis)++((selR (rp x.2) parts [] []).take k).map (Jbs g.vs x.1)∧(∀ y∈ys2,y.x.args.length≤8))∧SatA w (baseA g) (oQ b6 (pdC x.1) 107::own it14 (iterK g.rb (relKV g.rs).length (vis++[i]))::rowAt la2 lc2 ys2::(argsA ys2++(baseA g2++lstA za zc zs))) w')
   (fun k _ _ _=>zs.length - k) 0 la lc ys Y8 (fun w' hw=>⟨⟨by omega,rfl,by simp [hys],hyargs⟩,hw⟩) ?_
 have hyn:ys.length=(accF g parts (visL g.rs vis)).length:=by rw [← hys,xE]
 intro k la2 lc2 ys2;refine WC.pure (fun hi=>?_);obtain ⟨hk,hyl2,hys2,hya2⟩:=hi;refine Csr (Zv (OV.cq rfl rfl) (Nn (Cs ?_)));refine Cc rfl (fun c26=>?_) (fun c26=>?_)
 ·refine Ck (Xn (Cs (Cb (Csr ?_))));obtain ⟨z,hz,hzm,hzl⟩:=col_at2 hzs (k:=k) (by omega);obtain ⟨zq,hzq⟩:=hza (by omega);obtain ⟨zr,hzr,hzrl⟩:=selR_mem (xC hzl);obtain ⟨hrl,hrin⟩:=Jgp ok hxm hzr;rw [hzrl] at hrl hrin;have har:=ok.ar x hxm;refine Zv (OV.cd (a:=⟨zq,0,none⟩) (i:=k) (show _=some (Value.slice (some ⟨zq,0,none⟩) zs.length zc) by rw [← hzq];rfl) rfl T.u109 T.z51 (by omega)) ?_;refine WL.val (OV.ah (v:=encC z) rfl T.u51 rfl (fun _ hw=>Jdx hw hzq (yV (.tail _ (yV (xB _ (xB _ yH))))) k _ (by rw [xG,hz];rfl))) rfl ?_;refine Za rfl (Nn (Cr (Zm rfl (Zm rfl (Zv (OV.lN (cs:=pdC x.1) rfl T.u107 rfl T.z107 yH) (Zm rfl ?_))))))
  refine WL.cT (ι:=Option Addr × Nat) (vs:=[ptr g.p,pdV x.1,encC z]) (vv:=fun q=>atV (Jbs g.vs x.1 z.l) q.1 q.2) (pp:=fun _=>True) [] (AA:=fun q=>[rowT q.1 q.2 (Jbs g.vs x.1 z.l).args]) rfl (fun w' hw' _=>(by
   have h5:=bfact_calls g2 (hsame2.ok ok) x.1 z.l z.a z.c (by omega) (by omega) (row_cap (hw'.it _ (zmem hzm))) (by rw [hsame2.vs];exact hrin) w' (RI.of_row (c:=z.c) hw' (zmem hzm)) (Hw.Sat.part (sub_tab g2 [oQ b6 (pdC x.1) 107,own it14 (iterK g.rb (relKV g.rs).length (vis++[i])),rowAt la2 lc2 ys2] (argsA ys2) (lstA za zc zs)) hw').holdsAll;rw [hp2,hsame2.vs] at h5;exact h5.mono (fun en w'' ⟨la,lc,h1,h2⟩=>⟨(la,lc),h1,trivial,h2⟩))) ?_
  rintro ⟨fa,fc⟩ _;refine WL.bg (cs:=agC ⟨Jbs g.vs x.1 z.l,fa,fc⟩) T.u22 T.z29 T.zr29 rfl rfl (by omega) (by omega) rfl ?_;intro b34;refine WL.focus (ow':=rowAt la2 lc2 ys2::oQ b34 (agC ⟨Jbs g.vs x.1 z.l,fa,fc⟩) 29::rowT fa fc (Jbs g.vs x.1 z.l).args::oQ b6 (pdC x.1) 107::own it14 (iterK g.rb (relKV g.rs).length (vis++[i]))::(argsA ys2++(baseA g2++lstA za zc zs))) (pmP [_,_,_,_,_] [4,0,1,2,3]) ?_;refine WL.append (news:=agC ⟨Jbs g.vs x.1 z.l,fa,fc⟩) rfl rfl T.apA (fun _ _=>Jcw yI rfl) (Jis _) ⟨by omega,by unfold maxLen;omega⟩ rfl ?_;intro a35 c35;refine Za rfl (Nl (Xb (Xn (Cr (Zv (OV.bm (j:=1) rfl rfl (by omega)) (Zm rfl (Nl ?_)))))));have el:ys2.length+1=(ys2++[(⟨Jbs g.vs x.1 z.l,fa,fc⟩:AG)]).length:=by simp
  have ef:ys2.flatMap agC++agC ⟨Jbs g.vs x.1 z.l,fa,fc⟩=(ys2++[(⟨Jbs g.vs x.1 z.l,fa,fc⟩:AG)]).flatMap agC:=by simp
  have em:argsA (ys2++[(⟨Jbs g.vs x.1 z.l,fa,fc⟩:AG)])=argsA ys2++[rowT fa fc (Jbs g.vs x.1 z.l).args]:=by simp [argsA]
  exact WX.cg (k+1) a35 c35 (ys2++[(⟨Jbs g.vs x.1 z.l,fa,fc⟩:AG)]) ⟨rfl,rfl,by rw [← el];rfl,rfl,rfl,rfl,rfl,rfl,trivial⟩ (fun w' hw=>⟨⟨by omega,by simp [hyl2];omega,by rw [xU,hys2,List.take_add_one,hzl];simp,fun y hy=>by
   rcases List.mem_append.1 hy with h | h
   ·exact hya2 y h
   ·simp only [xI] at h;subst h;simp [Jbs,hrl];exact har⟩,by
   rw [el,ef] at hw;rw [em];exact (hw.pik [[rowAt a35 c35 (ys2++[(⟨Jbs g.vs x.1 z.l,fa,fc⟩:AG)])],[oQ b34 (agC ⟨Jbs g.vs x.1 z.l,fa,fc⟩) 29],[rowT fa fc (Jbs g.vs x.1 z.l).args],[oQ b6 (pdC x.1) 107],[own it14 (iterK g.rb (relKV g.rs).length (vis++[i]))],argsA ys2,baseA g2++lstA za zc zs] [3,4,0,5,2,6] 7).perm (List.Perm.of_eq (by simp [cat]))⟩) (by show zs.length - (k+1)<zs.length - k;omega)
 refine Ce (Xe (Xe (Xh (Xb ?_))));have hk:zs.length≤k:=by omega
 exact WX.lf (vis++[i]) la2 lc2 ys2 g2 Y4 (fun w' hw=>⟨⟨hvs.step hil hv,hsame2,by rw [Ji7 hx,accF_snoc,hys2,← hzs,xK (by rw [xE];omega)],hya2,by omega⟩,hw.pik [[oQ b6 (pdC x.1) 107],[own it14 (iterK g.rb (relKV g.rs).length (vis++[i]))],[rowAt la2 lc2 ys2],argsA ys2,baseA g2,lstA za zc zs] [1,2,4,3] 6⟩) (Ji8 (by rw [Jj6];exact hil) hv)
abbrev rowPd (la:Option Addr)(lc:Nat)(ys:List Pd):Hw.Item:=row 107 2 la ys.length lc (ys.flatMap pdC)
theorem take_extA {α:Type}{l m:List α}{i:Nat}(h1:l.length=m.length)(h:l.take i=m.take i)(hi:l.length≤i):l=m:=by
 rwa [xK hi,xK (by omega)] at h
structure RA (w:World) (a:Option Addr) (ys:List AG):Prop where
 nil:a=none→ys.length=0
 at_:∀ q,a=some q→∀ i y,ys[i]?=some y→∀ j v,(agC y)[j]?=some v→w.cell? ((q.add (i*5)).add j)=some v
 args:∀ y∈ys,RT w y.a y.x.args
theorem RA.keeps {w w':World}{a:Option Addr}{ys:List AG}(h:RA w a ys)(k:Keeps w w'):RA w' a ys:=⟨h.nil,fun q hq i t ht j v hv=>k _ _ (h.at_ q hq i t ht j v hv),fun y hy=>(h.args y hy).keeps k⟩
theorem RA.get {w:World}{a:Option Addr}{ys:List AG}(h:RA w a ys){i:Nat}(hi:i<ys.length):∃ q y,a=some q∧ys[i]?=some y∧y∈ys∧RT w y.a y.x.args∧∀ j v,(agC y)[j]?=some v→w.cell? ((q.add (i*5)).add j)=some v:=by
 cases a with
 | none=>have:=h.nil rfl;omega
 | some q=>exact ⟨q,ys[i],rfl,xD hi,List.getElem_mem hi,h.args _ (List.getElem_mem hi),h.at_ q rfl i _ (xD hi)⟩
theorem RA.of_row {w0 ws w:World}{M I:Nat→Prop}{ow:List Hw.Item}{a:Option Addr}{c:Nat}{ys:List AG}(hw:Sat w0 M I ws ow w)(hm:∀ i∈atsA a c ys,i∈ow):RA w a ys:=by
 have hr:rowAt a c ys∈ow:=hm _ yH;refine ⟨fun ha=>?_,fun q hq i t ht j v hv=>?_,fun y hy=>RT.of_row (c:=y.c) rfl hw (hm _ (yV (List.mem_map.2 ⟨y,hy,rfl⟩)))⟩
 ·rcases (Jd4 hw hr).2 with ⟨_,h,_⟩ | ⟨b,hb,_⟩
  ·exact h
  ·rw [ha] at hb;cases hb
 ·subst hq;have hj:j<5:=(List.getElem?_eq_some_iff.1 hv).1;have h1:=Jdr hw hr (i*5+j) v (by rw [Jcu Joy ys i j t ht hj];exact hv);rwa [Jdy] at h1
structure RP (w:World) (a:Option Addr) (ys:List Pd):Prop where
 nil:a=none→ys.length=0
 at_:∀ q,a=some q→∀ i y,ys[i]?=some y→∀ j v,(pdC y)[j]?=some v→w.cell? ((q.add (i*2)).add j)=some v
theorem RP.get {w:World}{a:Option Addr}{ys:List Pd}(h:RP w a ys){i:Nat}(hi:i<ys.length):∃ q y,a=some q∧ys[i]?=some y∧y∈ys∧∀ j v,(pdC y)[j]?=some v→w.cell? ((q.add (i*2)).add j)=some v:=by
 cases a with
 | none=>have:=h.nil rfl;omega
 | some q=>exact ⟨q,ys[i],rfl,xD hi,List.getElem_mem hi,h.at_ q rfl i _ (xD hi)⟩
theorem pdC_len':∀ y:Pd,(pdC y).length=2:=fun _=>rfl
theorem RP.of_row {w0 ws w:World}{M I:Nat→Prop}{ow:List Hw.Item}{a:Option Addr}{c:Nat}{ys:List Pd}(hw:Sat w0 M I ws ow w)(hr:rowPd a c ys∈ow):RP w a ys:=by
 refine ⟨fun ha=>?_,fun q hq i t ht j v hv=>?_⟩
 ·rcases (Jd4 hw hr).2 with ⟨_,h,_⟩ | ⟨b,hb,_⟩
  ·exact h
  ·rw [ha] at hb;cases hb
 ·subst hq;have hj:j<2:=(List.getElem?_eq_some_iff.1 hv).1;have h1:=Jdr hw hr (i*2+j) v (by rw [Jcu pdC_len' ys i j t ht hj];exact hv);rwa [Jdy] at h1
theorem sameTerms_calls (ls ms:List Tm)(a1 a2:Option Addr)(c1 c2:Nat)(h1:ls.length≤1099511627776)(h2:ms.length≤1099511627776)(w:World)(hr1:RT w a1 ls)(hr2:RT w a2 ms):Calls Tryz.prog 48 #[.slice a1 ls.length c1,.slice a2 ms.length c2] w fun e w'=>e=.returned (.bool (decide (ls=ms)))∧Fr0 w w':=by
 refine Jbo (args:=[.slice a1 ls.length c1,.slice a2 ms.length c2]) (fun _=>False) Tryz.func48 rfl Tryz.ntmps48 rfl rfl ?_;refine Csr (Za rfl (Nn (Cs (Csr (Zm rfl (Zv (OV.ae rfl T.u27) (Zm rfl (Zv (OV.ae rfl T.u27) (Zv (OV.iu rfl rfl) (Nn ?_))))))))));refine Cc rfl (fun c10=>?_) (fun c10=>?_)
 ·refine Csr (Za rfl (Nn (WC.az ?_)));refine Xr ?_;exact WX.ret1 rfl rfl rfl (fun w' hw=>⟨by rw [xP (fun h=>c10 (by have h9:=congrArg List.length h;(try simp only [xE] at h9);omega))],hw.fr⟩)
 refine Ck (Xn (Cs (Csr (Za rfl (Nn (Cb ?_))))))
 refine WC.cm (fun (i:Nat)=>[(0,.slice a1 ls.length c1),(1,.slice a2 ms.length c2),(5,.int .i64 (i:Int))])
   (fun i w'=>(i≤ls.length∧ls.take i=ms.take i)∧Sat w (fun _=>False) (fun b=>b<w.heap.size) w [] w')
   (fun i=>ls.length - i) 0 Y3 (fun w' hw=>⟨⟨by omega,by simp⟩,hw⟩) ?_
 intro i;refine WC.pure (fun hi=>?_);obtain ⟨hi,heq⟩:=hi;refine Cs (Csr (Zm rfl (Zm rfl (Zv (OV.ae rfl T.u27) (Zv (OV.cq rfl rfl) (Nn ?_))))));refine Cc rfl (fun c14=>?_) (fun c14=>?_)
 ·refine Ck (Xn (Cs (Cb (Cs (Hq [] (m:=9) rfl ?_)))));refine Hf 0 rfl (OV.aw rfl) (Hf 1 rfl (OV.aw rfl) ?_);obtain ⟨q1,t1,rfl,ht1,hm1,_,hc1⟩:=hr1.get (i:=i) (by omega);obtain ⟨q2,t2,rfl,ht2,hm2,_,hc2⟩:=hr2.get (i:=i) (by omega);refine Hf 2 rfl ((OV.ad rfl rfl T.u27 T.z26 (by omega)).cast (u:=.pointer (some (q1.add (i*3)))) (by rw [xN])) (Ht 3 rfl (OV.ai (cs:=tmC t1) rfl T.u26 rfl T.z26 (fun _ hw j v hj=>hw.keeps _ _ (hc1 j v hj))) (Hf 4 rfl (OV.aw rfl) (Hf 5 rfl (OV.aw rfl) (Hf 6 rfl ((OV.ad rfl rfl T.u27 T.z26 (by omega)).cast (u:=.pointer (some (q2.add (i*3)))) (by rw [xN])) (Ht 7 rfl (OV.ai (cs:=tmC t2) rfl T.u26 rfl T.z26 (fun _ hw j v hj=>hw.keeps _ _ (hc2 j v hj))) (Hf 8 rfl (OV.li (a:=t1) (b:=t2) rfl rfl) (He (Xn ?_))))))));refine Cc rfl (fun c25=>?_) (fun c25=>?_)
  ·refine Csr (Za rfl (Nn (WC.az ?_)));refine Xq (Xr (Xr (Xq (Xr ?_))));exact WX.ret1 rfl rfl rfl (fun w' hw=>⟨by rw [xP (fun h=>c25 (by rw [h] at ht1;exact xH (ht1.symm.trans ht2)))],hw.fr⟩)
  refine Ck (Xb (Xn (Cr (Zm rfl (Zv (OV.bm (j:=1) rfl rfl (by omega)) (Za rfl (Nl ?_)))))));have hg:t1=t2:=by simpa using c25
  exact WX.bk (i+1) Y3 (fun w' hw=>⟨⟨by omega,take_ext_step heq ht1 (by rw [hg];exact ht2)⟩,hw⟩) (by show ls.length - (i+1)<ls.length - i;omega)
 refine Ce (Xe (Xe (Xh (Xn (Csr (Za rfl (Nn (WC.az ?_))))))));exact WX.ret1 rfl rfl rfl (fun w' hw=>⟨by rw [xO (take_extA (by (try simp only [xE]);omega) heq (by (try simp only [xE]);omega))],hw.fr⟩)
structure BS (g:BaseG) (k:Nat) (F:List (At × Nat)):Prop where
 ok:BaseOK g
 fs:(Jcj g).Perm F
 vk:g.vs.length≤9*k
 rk:g.rs.length≤k
 fk:F.length≤k
theorem addF_perm {F G:List (At × Nat)}(h:F.Perm G)(x:At):(addF F x).Perm (addF G x):=by
 unfold addF;have h1:(x∉F.map (·.1))↔(x∉G.map (·.1)):=by rw [(h.map (·.1)).mem_iff]
 by_cases hc:factB x=true∧x∉F.map (·.1)
 ·rw [if_pos hc,if_pos ⟨hc.1,h1.1 hc.2⟩];exact h.append_right _
 ·rw [if_neg hc,if_neg (fun k=>hc ⟨k.1,h1.2 k.2⟩)];exact h
theorem addF_len (F:List (At × Nat))(x:At):(addF F x).length≤F.length+1:=by
 unfold addF;split <;> simp
theorem BS.add {g g':BaseG}{k:Nat}{F:List (At × Nat)}(b:BS g k F){x:At}(ok:BaseOK g')(h:(Jcj g').Perm (addF (Jcj g) x))(h1:g'.vs.length≤g.vs.length+9)(h2:g'.rs.length≤g.rs.length+1):BS g' (k+1) (addF F x):=
 ⟨ok,h.trans (addF_perm b.fs x),by have:=b.vk;omega,by have:=b.rk;omega,by have:=b.fk;have:=addF_len F x;omega⟩
theorem BS.turn {g:BaseG}{k:Nat}{F:List (At × Nat)}(b:BS g k F):BS (turnB g) k (turnF F):=
 ⟨turnB_ok b.ok,by rw [factsB_turn];exact b.fs.map _,b.vk,by simpa [turnB] using b.rk,by simpa [turnF] using b.fk⟩
theorem BS.same {g g1:BaseG}{k:Nat}{F:List (At × Nat)}(b:BS g k F)(h:SameB g g1):BS g1 k F:=
 ⟨h.ok b.ok,by rw [h.facts];exact b.fs,by rw [h.vs];exact b.vk,by rw [h.len];exact b.rk,b.fk⟩
theorem BS.nodup {g:BaseG}{k:Nat}{F:List (At × Nat)}(b:BS g k F):(F.map (·.1)).Nodup:=(b.fs.map (·.1)).nodup_iff.1 (facts_nodup b.ok)
theorem BS.mem {g:BaseG}{k:Nat}{F:List (At × Nat)}(b:BS g k F)(x:At):x∈(Jcj g).map (·.1)↔x∈F.map (·.1):=(b.fs.map (·.1)).mem_iff
theorem Jlw {F G:List (At × Nat)}(h:F.Perm G)(parts:Int):(selF F parts).Perm (selF G parts):=(h.filter _).map _
theorem n4F_perm {F G:List (At × Nat)}(h:F.Perm G):n4F F=n4F G:=(h.filter _).length_eq
theorem sortA_congr {l m:List At}(h:l.Perm m):sortA l=sortA m:=Jna ((Jec l).trans h) (sortA_sorted l)
theorem new_bs (p rb:Nat):BS ⟨p,none,none,0,[],rb,[]⟩ 0 []:=
 ⟨⟨fun _=>rfl,List.nodup_nil,List.nodup_nil,(fun x hx=>by cases hx),(fun x hx=>by cases hx),(fun x hx=>by cases hx),(fun x hx=>by cases hx),by simp,by simp,by simp⟩,.refl _,by simp,by simp,by simp⟩
theorem Jj8 {g:BaseG}(ok:BaseOK g){x:Pd × RelG}(hx:x∈g.rs){q:List Int × Nat}(hq:q∈rp x.2):Jay (Jbs g.vs x.1 q.1)=x.1:=by
 have h:=(Jgp ok hx hq).1;unfold Jay Jbs;simp [h]
theorem facts_args {g:BaseG}(ok:BaseOK g){x:At}(h:x∈(Jcj g).map (·.1)):x.args.length≤8:=by
 obtain ⟨⟨y,n⟩,hy,rfl⟩:=List.mem_map.1 h;unfold Jcj at hy;obtain ⟨z,hz,hq⟩:=List.mem_flatMap.1 hy;obtain ⟨q,hq,he⟩:=List.mem_map.1 hq;simp only [Prod.mk.injEq] at he;have h1:=Jj8 ok hz hq;rw [he.1] at h1;have h2:=ok.ar z hz;rw [← h1] at h2;exact h2
def Jeu (F:List (At × Nat))(l:List At):List (At × Nat):=l.foldl addF F
theorem addAll_snoc (F:List (At × Nat))(l:List At)(x:At):Jeu F (l++[x])=addF (Jeu F l) x:=by simp [Jeu]
theorem addF_mem (F:List (At × Nat))(x:At)(q:At × Nat):q∈addF F x↔q∈F∨(q=(x,4)∧factB x=true∧x∉F.map (·.1)):=by
 unfold addF
 split
 ·rename_i h;simp [h]
 ·rename_i h;simp;intro h1 h2 h3;exact absurd ⟨h2,by simpa using h3⟩ h
theorem addF_key (F:List (At × Nat))(x y:At):y∈(addF F x).map (·.1)↔y∈F.map (·.1)∨(y=x∧factB x=true):=by
 unfold addF
 by_cases hc:factB x=true∧x∉F.map (·.1)
 ·rw [if_pos hc,xU,xT];simp [hc.1]
 ·rw [if_neg hc];constructor
  ·exact .inl
  ·rintro (h | ⟨rfl,h⟩)
   ·exact h
   ·exact Classical.byContradiction fun hh=>hc ⟨h,hh⟩
theorem Jjo:∀ (l:List At) (F:List (At × Nat)) (q:At × Nat),q∈Jeu F l↔q∈F∨(q.2=4∧q.1∈l∧factB q.1=true∧q.1∉F.map (·.1))
 | [],F,q=>by simp [Jeu]
 | x::l,F,q=>by
  show q∈Jeu (addF F x) l↔_;rw [Jjo l (addF F x) q,addF_mem,addF_key];obtain ⟨y,n⟩:=q
  by_cases hyx:y=x
  ·subst hyx
   by_cases h1:factB y=true <;> by_cases h2:y∈F.map (·.1) <;> simp_all
   all_goals (try (constructor <;> intro h <;> simp_all))
  ·simp [hyx]
theorem badd_bs (g:BaseG)(k:Nat)(F:List (At × Nat))(b:BS g k F)(hk:k≤100000000000)(x:At)(a:Option Addr)(c:Nat)(hl:x.args.length≤1099511627775)(hs:x.name.size≤1099511627776)(w:World)(hN:Jdb w)(hN1:¬ DD (baseA g) 0)(hr:RT w a x.args)(hne:∀ q,a=some q→0<x.args.length→¬ DD (baseA g) q.block)(hA:Holds (baseA g) w):
  Calls Tryz.prog 49 #[ptr g.p,atV x a c] w fun e w'=>∃ g',e=.returned (.tuple #[.bool (factB x && decide (x∉F.map (·.1))),.int .i64 (if factB x=true then 0 else 81)])∧(BS g' (k+1) (addF F x)∧g'.p=g.p)∧Turns (baseA g) (baseA g') w w':=by
 have h1:=b.vk;have h2:=b.rk;have h3:=b.fk;have h4:=b.fs.length_eq;refine (badd_calls g b.ok x a c hl hs (by omega) (by omega) (by omega) w hN hN1 hr hne hA).mono ?_;rintro e w' ⟨he,g',ok,hp,hf,hv,hrs,ht⟩;have hx:(x∉(Jcj g).map (·.1))↔(x∉F.map (·.1)):=not_congr (b.mem x);exact ⟨g',by rw [he];simp only [hx],⟨b.add ok hf hv hrs,hp⟩,ht⟩
theorem Jno (g:BaseG)(k:Nat)(F:List (At × Nat))(b:BS g k F)(w:World)(hA:Holds (baseA g) w):
  Calls Tryz.prog 17 #[ptr g.p] w fun e w'=>∃ g',e=.returned (.int .i64 ((n4F F:Nat):Int))∧(BS g' k (turnF F)∧g'.p=g.p)∧Turns (baseA g) (baseA g') w w':=by
 refine (bturn_calls g b.ok w hA).mono ?_;rintro e w' ⟨he,ht⟩;exact ⟨turnB g,by rw [he,n4F_perm b.fs],⟨b.turn,rfl⟩,ht⟩
structure AnsA where
 g:BaseG
 a:Option Addr
 c:Nat
 ys:List AG
theorem bfacts_bs (g:BaseG)(k:Nat)(F:List (At × Nat))(b:BS g k F)(parts:Int)(w:World)(hA:Holds (baseA g) w):
  Calls Tryz.prog 19 #[ptr g.p,.int .i64 parts] w fun e w'=>∃ z:AnsA,e=.returned (.slice z.a z.ys.length z.c)∧(z.ys.map AG.x=sortA (selF F parts)∧BS z.g k F∧z.g.p=g.p∧(∀ y∈z.ys,y.x.args.length≤8)∧z.ys.length≤k)∧Turns (baseA g) (baseA z.g++atsA z.a z.c z.ys) w w':=by
 refine (bfacts_calls g b.ok parts w hA).mono ?_;rintro e w' ⟨g1,la,lc,ys,he,hx,hs,ht⟩;have hx2:ys.map AG.x=sortA (selF F parts):=by rw [hx,sortA_congr (Jlw b.fs parts)]
 refine ⟨⟨g1,la,lc,ys⟩,he,⟨hx2,b.same hs,hs.p,fun y hy=>?_,?_⟩,ht⟩
 ·have h1:y.x∈sortA (selF (Jcj g) parts):=by rw [← hx];exact List.mem_map.2 ⟨y,hy,rfl⟩
  have h2:=(Jec _).mem_iff.1 h1;obtain ⟨q,hq,he⟩:=List.mem_map.1 h2;exact facts_args b.ok (by rw [← he];exact List.mem_map.2 ⟨q,(List.mem_filter.1 hq).1,rfl⟩)
 ·have h1:=congrArg List.length hx2;rw [xE,(Jec _).length_eq,selF,xE] at h1;have:=List.length_filter_le (fun q:At × Nat=>inP parts q.2) F;have:=b.fk;show ys.length≤k;have h2:ys.length=(F.filter fun q=>inP parts q.2).length:=h1;omega
theorem cloneT_calls (ts:List Tm)(a:Option Addr)(c:Nat)(hm:ts.length≤1099511627776)(w:World)(hr:RT w a ts):Calls Tryz.prog 156 #[.slice a ts.length c] w fun e w'=>∃ a' c',e=.returned (.slice a' ts.length c')∧Turns [] [rowT a' c' ts] w w':=by
 refine Jbo (args:=[.slice a ts.length c]) (fun _=>False) Tryz.func156 rfl Tryz.ntmps156 rfl rfl ?_;refine Csr (Za rfl (Nn (Cs (Csr (Zm rfl (Zv (OV.eqlSN T.u27 rfl rfl) (Nn ?_)))))));refine WC.od rfl (fun c4=>?_) (fun c4=>?_)
 ·skip
  refine Csr (Za rfl (Nn (WC.az ?_)));refine Xr ?_;have hn:a=none:=by cases a <;> simp at c4;rfl
  have hl:ts=[]:=List.eq_nil_of_length_eq_zero (hr.nil hn);subst hl;exact WX.ret1 rfl rfl rfl (fun w hw=>⟨none,0,rfl,(hw.rowNil 26 3).turned0⟩)
 skip
 refine Ck (Xn (Csr (WL.ia T.u27 T.z26 rfl ?_)));intro b5;refine Zm rfl (WL.append (news:=ts.flatMap tmC) rfl rfl T.apT (fun _ _=>Src.of_rt hr.nil (fun _ hw=>hr.keeps hw.keeps)) (Jj0 _) ⟨by omega,by unfold maxLen;omega⟩ rfl ?_);intro a7 c7;refine Za rfl (Nn (WC.az ?_));refine WX.ret1 rfl rfl rfl (fun w hw=>⟨a7,c7,by rw [xM],?_⟩);rw [xY,xM] at hw;exact hw.turned0
theorem bfind_calls (g:BaseG)(parts:Int)(x:At)(a:Option Addr)(c:Nat)(hl:x.args.length≤1099511627776)(w:World)(hr:RT w a x.args):Calls Tryz.prog 117 #[ptr g.p,.int .i64 parts,atV x a c] w fun e w'=>∃ z:Nat × Nat × Nat × Option Addr × Nat,e=.returned (.func (.func 157) #[] #[ptr z.1,ptr z.2.1,ptr z.2.2.1])∧Turns [] [oQ z.1 [ptr g.p] 35,oQ z.2.1 [.int .i64 parts] 3,oQ z.2.2.1 (atC x z.2.2.2.1 z.2.2.2.2) 29,rowT z.2.2.2.1 z.2.2.2.2 x.args] w w':=by
 refine Jbo (args:=[ptr g.p,.int .i64 parts,atV x a c]) (fun _=>False) Tryz.func117 rfl Tryz.ntmps117 rfl rfl ?_;refine Csr (WL.box rfl rfl rfl ?_);intro b3;refine WL.box rfl rfl rfl ?_;intro b4;refine WL.box rfl rfl rfl ?_;intro b5;refine Za rfl (Nn (Cs (Hd (fun w'=>w'.heap[b5]?=some (.cells (atC x a c).toArray 29 (0,0))) [] (fun _ hw=>hw.it (own b5 _) (by simp)) (m:=10) rfl ?_)));refine Hf 0 rfl (OV.f0 0 rfl T.u29 rfl) (Ht 1 rfl (OV.ai (cs:=tmC x.b) rfl T.u26 rfl T.z26 (fun _ hw j v hj=>by rw [Jap];exact Jch hw (o:=0) (cs':=tmC x.b) rfl j v hj)) (Hf 2 rfl (OV.f0 3 rfl T.u29 rfl) (Ht 3 rfl (OV.ah (v:=.string x.name) rfl T.u9 rfl (fun _ hw=>(Jax hw (o:=3) rfl).1)) (Hf 4 rfl (OV.f0 4 rfl T.u29 rfl) (Ht 5 rfl (OV.ah (v:=.slice a x.args.length c) rfl T.u27 rfl (fun _ hw=>(Jax hw (o:=4) rfl).1)) ?_)))));refine Hr (WH.two 6 8 rfl rfl (by kernel_rfl) (listed1:=[true,true,true,true,true,true,true,false,false,false]) rfl (listed2:=[true,true,true,true,true,true,false,false,true,false]) rfl (fl1:=false) rfl (fl2:=false) rfl ?_ ?_)
 ·refine WL.cT (ι:=Option Addr × Nat) (vs:=[.slice a x.args.length c]) (vv:=fun q=>.slice q.1 x.args.length q.2) (pp:=fun _=>True) [] (AA:=fun q=>[rowT q.1 q.2 x.args]) rfl (fun w' hw' _=>(cloneT_calls x.args a c hl w' (hr.keeps hw'.keeps)).mono (fun en w'' ⟨la,lc,h1,h2⟩=>⟨(la,lc),h1,trivial,h2⟩)) ?_;rintro ⟨la,lc⟩ _;refine Hc (fun _=>(fun _ hw=>hw.it (own b5 _) (by simp))) ?_;refine Hf 7 rfl (OV.ao (xs:=[(0,.tmp 9),(1,.tmp 11),(2,.tmp 14)]) (pl:=[(0,3),(3,1),(4,1)]) (cs:=atC x la lc) T.u29 T.zr29 (by kernel_rfl) rfl (Jal (us:=tmC x.b) rfl rfl yW (Jal (us:=[_]) rfl rfl yW (Jal (us:=[_]) rfl rfl yW rfl)))) (Ho 8 rfl (fl':=false) rfl ?_);refine WL.alloc T.zr29 rfl ?_;intro b7;refine Hc (fun _=>(fun _ hw=>hw.it (own b5 _) (by simp))) ?_;refine Ho 9 rfl (fl':=false) rfl ?_;refine WL.ag (vs:=atC x la lc) rfl rfl rfl T.z29 rfl ?_;refine Hc (fun _=>(fun _ hw=>hw.it (own b5 _) (by simp))) ?_;refine He (Xn (Csr (Zv (OV.makeFunc rfl) (Za rfl (Nn (WC.az ?_))))));refine WX.ret1 rfl rfl rfl (fun w' hw=>⟨(b3,b4,b7,la,lc),rfl,?_⟩);exact (hw.pik [[oQ b7 (atC x la lc) 29],[rowT la lc x.args],[oQ b5 (atC x a c) 29],[oQ b4 [.int .i64 parts] 3],[oQ b3 [ptr g.p] 35]] [4,3,0,1] 5).turned0
 refine WL.alloc T.zr29 rfl ?_;intro b7;refine Hc (fun _=>(fun _ hw=>hw.it (own b5 _) (by simp))) ?_;refine Ho 6 rfl (fl':=false) rfl ?_;refine WL.cT (ι:=Option Addr × Nat) (vs:=[.slice a x.args.length c]) (vv:=fun q=>.slice q.1 x.args.length q.2) (pp:=fun _=>True) [] (AA:=fun q=>[rowT q.1 q.2 x.args]) rfl (fun w' hw' _=>(cloneT_calls x.args a c hl w' (hr.keeps hw'.keeps)).mono (fun en w'' ⟨la,lc,h1,h2⟩=>⟨(la,lc),h1,trivial,h2⟩)) ?_;rintro ⟨la,lc⟩ _;refine Hc (fun _=>(fun _ hw=>hw.it (own b5 _) (by simp))) ?_;refine Hf 7 rfl (OV.ao (xs:=[(0,.tmp 9),(1,.tmp 11),(2,.tmp 14)]) (pl:=[(0,3),(3,1),(4,1)]) (cs:=atC x la lc) T.u29 T.zr29 (by kernel_rfl) rfl (Jal (us:=tmC x.b) rfl rfl yW (Jal (us:=[_]) rfl rfl yW (Jal (us:=[_]) rfl rfl yW rfl)))) (Ho 9 rfl (fl':=false) rfl ?_);refine WL.focus perm1 (WL.ag (vs:=atC x la lc) rfl rfl rfl T.z29 rfl ?_);refine Hc (fun _=>(fun _ hw=>hw.it (own b5 _) (by simp))) ?_;refine He (Xn (Csr (Zv (OV.makeFunc rfl) (Za rfl (Nn (WC.az ?_))))));refine WX.ret1 rfl rfl rfl (fun w' hw=>⟨(b3,b4,b7,la,lc),rfl,?_⟩);exact (hw.pik [[oQ b7 (atC x la lc) 29],[rowT la lc x.args],[oQ b5 (atC x a c) 29],[oQ b4 [.int .i64 parts] 3],[oQ b3 [ptr g.p] 35]] [4,3,0,1] 5).turned0
theorem Jdb.lt {w:World}(h:Jdb w):0<w.heap.size:=World.block_lt_of_cell? w ⟨0,0,none⟩ (h 0 _ rfl)
structure RG where
 ys:List AG
 a:Option Addr
 c:Nat
structure RR (w:World) (a:Option Addr) (rs:List RG):Prop where
 nil:a=none→rs.length=0
 at_:∀ q,a=some q→∀ i r,rs[i]?=some r→w.cell? (q.add i)=some (.slice r.a r.ys.length r.c)
 each:∀ r∈rs,RA w r.a r.ys
theorem RR.get {w:World}{a:Option Addr}{rs:List RG}(h:RR w a rs){i:Nat}(hi:i<rs.length):∃ q r,a=some q∧rs[i]?=some r∧r∈rs∧RA w r.a r.ys∧w.cell? (q.add i)=some (.slice r.a r.ys.length r.c):=by
 cases a with
 | none=>have:=h.nil rfl;omega
 | some q=>exact ⟨q,rs[i],rfl,xD hi,List.getElem_mem hi,h.each _ (List.getElem_mem hi),h.at_ q rfl i _ (xD hi)⟩
theorem BS.mono {g:BaseG}{k m:Nat}{F:List (At × Nat)}(b:BS g k F)(h:k≤m):BS g m F:=⟨b.ok,b.fs,by have:=b.vk;omega,by have:=b.rk;omega,by have:=b.fk;omega⟩
theorem Jge {α:Type}{l:List α}{j:Nat}{x:α}(h:l[j]?=some x):l.drop j=x::l.drop (j+1):=by
 obtain ⟨hj,rfl⟩:=List.getElem?_eq_some_iff.1 h;exact List.drop_eq_getElem_cons hj
end Go.Proofs.YtgebaodagaecmaaGreatDoor
namespace Go.Hw
open Go Go.RowKit Go.Proofs Go.Shelf
section
variable {P:Program} {ρ:Ren} {w:World} {T:TypeId} {b c:Nat}
theorem pdqK_calls (L:SlLaysF0.n14 P ρ){α:Type}[Inhabited α](k:Nat)(hag:(P.underlying (ρ.t 24)).map aggD=some true)(hz:P.sz (ρ.t 24)=some k)(enc:α→List Value)(hk:∀ x,(enc x).length=k)(h1:∀ x,∀ v∈enc x,v.oneCell'=true)(cf:α→α→Int)(hO:Go.Sort.SWO (ltOf cf))(g:Nat)(hg:bodied P g=true)(b:Nat)(xs:List α)(limit:Nat)(hlim:limit<4611686018427387904)(w:World) 
  (hA:Holds [row T k (some ⟨b,0,none⟩) xs.length c (xs.flatMap enc)] w) (hcmp:∀ w',Fr (fun i=>i=b) w w'→∀ x y,Calls P g #[.agg (enc x).toArray,.agg (enc y).toArray] w' fun e w''=>e=.returned (.int .i64 (cf x y))∧Fr0 w' w'') (hsz:xs.length<4611686018427387904) :
  Calls P (ρ.f 14) #[.slice (some ⟨b,0,none⟩) xs.length c,.int .i64 0,.int .i64 (xs.length:Int),.int .i64 (limit:Int),.func (.func g) #[] #[]] w fun e w'=>e=.returned (.tuple #[])∧∃ ys:List α,ys.Perm xs∧ys.Pairwise (fun x y=>ltOf cf y x=false) ∧
   Turns [row T k (some ⟨b,0,none⟩) xs.length c (xs.flatMap enc)] [row T k (some ⟨b,0,none⟩) ys.length c (ys.flatMap enc)] w w':=by
 have hφ:=hA.φ _ yH;have hlt:b<w.heap.size:=hA.lt _ yH b ⟨_,rfl,rfl⟩;obtain ⟨d,hu,hd⟩:=Option.map_eq_some_iff.1 hag
 have hflat:Go.Sort.flatK enc k xs.toArray=(xs.flatMap enc).toArray:=by
  apply Array.toList_inj.1;rw [Jjj hk]
 have e0:xs.toArray.size=xs.length:=by simp
 have hcon:=AnyQ.pdqsortCmpFunc_all (P:=P) (ρ:=ρ) L k (fun w=>by rw [Jc1 hu,hd]) (fun w=>Hw.run_sizeOf hz w) enc cf g #[] hO b 0 c xs.toArray w (fun args w=>Jd6 hg args w)
  (fun m os dk hs x y=>(hcmp _ (sort_frK (F:=Go.Sort.flatK enc k dk) (n:=m) (os:=os)) x y).mono fun e w' ⟨he,hw⟩=>⟨he,Fr.grown hw⟩)
  ⟨hk,h1,(show Go.Sort.Holds id w b 0 (Go.Sort.flatK enc k xs.toArray) by rw [hflat];exact Jko hφ),hlt⟩
  (xs.toArray.size+1) 0 xs.toArray.size limit xs.toArray w (by omega) rfl (SWK.start (show Go.Sort.Holds id w b 0 (Go.Sort.flatK enc k xs.toArray) by rw [hflat];exact Jko hφ)) (Nat.zero_le _) (Nat.le_refl _) (by simpa using hsz) hlim (Or.inl rfl)
 rw [e0] at hcon;refine hcon.mono ?_;rintro e w' ⟨rfl,n,os,rfl⟩;have hso:=Go.Sort.pdq_sorts (ltOf cf) hO xs.toArray 0 xs.length limit true true (Nat.zero_le _) (by simp) (Or.inl rfl);obtain ⟨d',hd'⟩:∃ d',d'=Go.Sort.pdq (ltOf cf) xs.toArray 0 xs.length limit true true:=⟨_,rfl⟩
 rw [← hd'] at hso;rw [← hd'];obtain ⟨hp1,hp2⟩:=Jig (d:=xs.toArray) (by rw [e0];exact hso.1);have hl:d'.toList.length=xs.length:=by rw [Array.length_toList,hp2,e0]
 refine ⟨rfl,d'.toList,by simpa using hp1,Jd1 (by rw [hp2,e0]) hso.2,?_⟩;have ht:=sort_turnsK (T:=T) (c:=c) (F:=Go.Sort.flatK enc k d') (n:=n) (os:=os) hA (by rw [Go.Sort.size_flatK,hp2,e0]);rw [Jjj hk] at ht;rw [hl];exact ht
end
end Go.Hw
namespace Go.Proofs.YtgebaodagaecmaaGreatDoor
open Go Go.Hw
theorem bitsLen_calls (n:Nat)(hn:n<4611686018427387904)(w:World):Calls Tryz.prog 91 #[.int .u64 (n:Int)] w fun e w'=>e=.returned (.int .i64 ((Lib.bitLen n:Nat):Int))∧w'=w:=by
 have h:=Any.bits_Len (SlLaysF0.n15.bits Go.Proofs.Tryz.bitsLen) (n:Int) w (by omega) (by omega);rwa [xN] at h
structure Bd where
 v:Int
 t:Tm
instance:Inhabited Bd:=⟨⟨0,T0⟩⟩
def bdC (x:Bd):List Value:=.int .i64 x.v::tmC x.t
theorem bdC_len (x:Bd):(bdC x).length=4:=rfl
theorem bdC_one (x:Bd):∀ v∈bdC x,v.oneCell'=true:=by simp [bdC,tmC,Value.oneCell']
abbrev rowB (a:Option Addr)(c:Nat)(ys:List Bd):Hw.Item:=row 64 4 a ys.length c (ys.flatMap bdC)
def cmpB (x y:Bd):Int:=cmpN x.v y.v
theorem cmpB_swo:Go.Sort.SWO (Go.Proofs.ltOf cmpB):=⟨fun a=>cmpN_ok.swo.irrefl a.v,fun a b c=>cmpN_ok.swo.trans a.v b.v c.v,fun a b c=>cmpN_ok.swo.ntrans a.v b.v c.v⟩
theorem Fr0.of_eq {w w':World}(h:w'=w):Fr0 w w':=by subst h;exact Fr.refl _ _
theorem _root_.Go.Hw.OV.fieldAddrA {P:Program}{n:Nat}{ds:DS}{e:Env}{S:World→Prop}{dst:Option Tmp}{t lt:TypeId}{p:String}{af:Array Edge}{x:Operand}{a:Addr}{f off s:Nat}{fs:Array Field}{g:Option (Nat × Bool)}(hx:ev e x=some (.pointer (some a)))(hu:P.underlying lt=some (.struct fs))(hf:(fs[f]?).map (fun q=>(q.offset,P.sz q.type))=some (off,some (s+1))):
  OV P n ds e S ⟨dst,.fieldAddr lt x f,t,p,af,g⟩ (.pointer (some (a.add off))):=fun _ w ha _=>by
 obtain ⟨q,hq,h⟩:=Option.map_eq_some_iff.1 hf;simp only [Prod.mk.injEq] at h;simp [execOp,ha.eval hx,Instr.fieldAt,run_underlying hu,Instr.sureAddr,hq,fieldPlace,Hw.run_sizeOf h.2 w,h.1]
theorem cmpB_calls (x y:Bd)(w:World):Calls Tryz.prog 147 #[.agg (bdC x).toArray,.agg (bdC y).toArray] w fun e w'=>e=.returned (.int .i64 (cmpB x y))∧Fr0 w w':=by
 refine Jbo (args:=[.agg (bdC x).toArray,.agg (bdC y).toArray]) (fun _=>False) Tryz.func147 rfl Tryz.ntmps147 rfl rfl ?_;refine Csr (WL.box rfl rfl rfl ?_);intro b2;refine WL.box rfl rfl rfl ?_;intro b3;refine Za rfl (Nn (Csr (Zv (OV.f0 0 rfl T.u64 rfl) (Zv (OV.l1 (v:=.int .i64 x.v) rfl T.u3 rfl yI rfl) (Zv (OV.f0 0 rfl T.u64 rfl) (Zv (OV.l1 (v:=.int .i64 y.v) rfl T.u3 rfl yH rfl) (WL.au (v:=.int .i64 (cmpN x.v y.v)) (by kernel_rfl) rfl rfl (fun w' hw'=>Jfw _ _ w') ?_)))))));refine Za rfl (Nn (WC.az ?_));exact WX.ret1 rfl rfl rfl (fun w' hw=>⟨rfl,hw.fr⟩)
theorem sortB_calls (b:Nat)(c:Nat)(xs:List Bd)(hl:xs.length≤1099511627776)(w:World)(hA:Holds [rowB (some ⟨b,0,none⟩) c xs] w):Calls Tryz.prog 146 #[.slice (some ⟨b,0,none⟩) xs.length c,.func (.func 147) #[] #[]] w fun e w'=>e=.returned (.tuple #[])∧∃ ys:List Bd,(ys.Perm xs∧ys.Pairwise (fun x y=>Go.Proofs.ltOf cmpB y x=false))∧Turns [rowB (some ⟨b,0,none⟩) c xs] [rowB (some ⟨b,0,none⟩) c ys] w w':=by
 refine Jdt hA (args:=[.slice (some ⟨b,0,none⟩) xs.length c,.func (.func 147) #[] #[]]) Tryz.func146 rfl Tryz.ntmps146 rfl rfl ?_;refine Csr (Zm rfl (Zv (OV.ae rfl T.u54) (Za rfl (Nn (Cr (Zm rfl (Zm rfl (Zm rfl (Zv (OV.convU64 T.u3 T.u151 rfl (by omega)) (WL.au (v:=.int .i64 ((Lib.bitLen xs.length:Nat):Int)) (by kernel_rfl) rfl rfl (fun w' hw'=>(bitsLen_calls xs.length (by omega) w').mono (fun en w'' ⟨h1,h2⟩=>⟨h1,Fr0.of_eq h2⟩)) ?_))))))))));refine Zm rfl ?_;have hlim:Lib.bitLen xs.length<4611686018427387904:=Nat.lt_of_le_of_lt (Lib.bitLen_le xs.length 62 (by omega) (by omega)) (by omega);refine WL.cT (ι:=List Bd) (vs:=[.slice (some ⟨b,0,none⟩) xs.length c,.int .i64 0,.int .i64 (xs.length:Int),.int .i64 ((Lib.bitLen xs.length:Nat):Int),.func (.func 147) #[] #[]]) (vv:=fun _=>.tuple #[]) (pp:=fun ys=>ys.Perm xs∧ys.Pairwise (fun x y=>Go.Proofs.ltOf cmpB y x=false)) [rowB (some ⟨b,0,none⟩) c xs] (AA:=fun ys=>[rowB (some ⟨b,0,none⟩) c ys]) rfl (fun w' hw' hH=>(pdqK_calls (P:=Tryz.prog) Go.Proofs.Tryz.sortB (T:=64) (c:=c) 4 (by kernel_rfl) T.z64 bdC bdC_len bdC_one cmpB cmpB_swo 147 (by kernel_rfl) b xs (Lib.bitLen xs.length) hlim w' hH (fun w2 _ x y=>cmpB_calls x y w2) (by omega)).mono (fun en w'' ⟨h1,ys,h2,h3,h4⟩=>⟨ys,h1,⟨h2,h3⟩,h4⟩)) ?_;rintro ys hys;refine Nl ?_;exact WX.ret0 rfl rfl (fun w' hw=>⟨rfl,ys,hys,hw.turned⟩)
end Go.Proofs.YtgebaodagaecmaaGreatDoor
namespace Go.Hw
open Go Go.RowKit Go.Proofs
section
variable {P:Program} {w0 ws:World} {M I:Nat→Prop} {ow:List Item} {ops:Array Oper} {Q:Post} {n:Nat} {ds:DS} {e:Env} {rest:List Oper}
theorem WL.makeRow0 {t lt T:TypeId}{p:String}{af:Array Edge}{k m s:Nat}{x y:Operand}{zs:Array Value}{bytes:Nat} 
  (hx:ev e x=some (.int .i64 0)) (hy:ev e y=some (.int .i64 (m:Int))) (hu:P.underlying lt=some (.slice T)) (hz:P.sz T=some s) (hzr:P.zr T=some zs) (hb:(P.info? T).map (·.bytes)=some bytes) (hm:bytes*m≤281474976710656∧m≤9223372036854775807∧m≤maxLen) (hk:Nat.blt k n=true)
  (h:∀ b,WL P ops Q n ds ((k,.slice (some ⟨b,0,none⟩) 0 m)::e) (Sat w0 M I ws (row T s (some ⟨b,0,none⟩) 0 m []::ow)) rest) :
  WL P ops Q n ds e (Sat w0 M I ws ow) (⟨some k,.makeSlice lt x y,t,p,af,none⟩::rest):=by
 refine WL.i6 (ι:=Nat) (vv:=fun b=>.slice (some ⟨b,0,none⟩) 0 m) (SS:=fun b=>Sat w0 M I ws (row T s (some ⟨b,0,none⟩) 0 m []::ow)) ?_ hk h;intro a w ha hw;unfold Program.sz at hz;unfold Program.zr at hzr;obtain ⟨i,hi,hsz⟩:=Option.map_eq_some_iff.1 hz;obtain ⟨i2,hi2,h2⟩:=Option.bind_eq_some_iff.1 hzr;obtain ⟨zv,hzv,hzc⟩:=Option.map_eq_some_iff.1 h2;obtain ⟨i3,hi3,hby⟩:=Option.map_eq_some_iff.1 hb;obtain rfl:=xH (hi.symm.trans hi2);obtain rfl:=xH (hi.symm.trans hi3)
 have hr:=run_make (P:=P) w lt T i zv hu hi hzv .i64 .i64 0 (m:Int) (by omega) (by omega) (by
  have h':((bytes*m:Nat):Int)≤((281474976710656:Nat):Int):=Int.ofNat_le.2 hm.1;rw [Int.natCast_mul] at h';rw [hby];exact h') (by omega)
 have hrow:(row T s (some ⟨w.heap.size,0,none⟩) 0 m []).φ (w.alloc (.cells (madeCells zv.cells ((m:Int).toNat*i.size)) T)):=by
  refine ⟨by simp,.inr ⟨w.heap.size,m,madeCells zv.cells ((m:Int).toNat*i.size),rfl,Nat.zero_le _,Jdg _ _,Nat.zero_le _,hm.2.2,?_,by simp⟩⟩;rw [xN,hsz];simp [madeCells]
 refine ⟨w.heap.size,w.alloc (.cells (madeCells zv.cells ((m:Int).toNat*i.size)) T),?_,hw.fresh (Fr.alloc _ _) hrow (fun b hb=>?_)⟩
 ·simp [execOp,ha.eval hx,ha.eval hy,hr]
 ·obtain ⟨q,hq,rfl⟩:=hb;cases hq;simp
end
end Go.Hw
namespace Go.Proofs.YtgebaodagaecmaaGreatDoor
open Go Go.Hw
def sb (ys:List Bd):List (Int × Tm):=ys.map fun b=>(b.v,b.t)
abbrev upB (ys:List Bd):Prop:=ys.Pairwise fun x y=>Go.Proofs.ltOf cmpB y x=false
theorem sb_up {ys:List Bd}(h:upB ys)(hn:((sb ys).map (·.1)).Nodup):(sb ys).Pairwise fun p q=>p.1<q.1:=by
 unfold sb at hn ⊢;rw [List.map_map] at hn;rw [List.pairwise_map]
 have hn2:ys.Pairwise fun x y=>x.v≠y.v:=by
  unfold List.Nodup at hn;rwa [List.pairwise_map] at hn
 refine List.Pairwise.imp (fun {x y} hh=>?_) (h.and hn2);obtain ⟨h1,h2⟩:=hh;have h3:¬ cmpB y x<0:=by simpa [Go.Proofs.ltOf] using h1
 unfold cmpB cmpN at h3;show x.v<y.v
 split at h3
 ·omega
 ·omega
def kvT (l:List (Int × Tm)):List (Int × Value):=l.map fun q=>(q.1,tmV q.2)
abbrev iV (k:Int):Value:=.int .i64 k
theorem Joo (l:List (Int × Tm)):(kvT l).length=l.length:=by simp [kvT]
theorem kvT_get {l:List (Int × Tm)}{i:Nat}{q:Int × Value}(h:(kvT l)[i]?=some q):∃ x,l[i]?=some x∧x∈l∧q=(x.1,tmV x.2)∧i<l.length:=by
 unfold kvT at h;rw [xG] at h;obtain ⟨x,hx,rfl⟩:=Option.map_eq_some_iff.1 h;exact ⟨x,hx,xC hx,rfl,(List.getElem?_eq_some_iff.1 hx).1⟩
theorem Vs.count {α:Type}{rs:List α}{vis:List Nat}(h:Vs rs vis):vis.length≤rs.length:=by
 have h2:vis.Perm ((List.range rs.length).filter fun i=>decide (i∈vis)):=(List.perm_ext_iff_of_nodup h.nd (List.nodup_range.filter _)).2 fun i=>by
  simp only [List.mem_filter,List.mem_range,decide_eq_true_eq];exact ⟨fun hi=>⟨h.lt i hi,hi⟩,fun hi=>hi.2⟩
 rw [h2.length_eq];exact Nat.le_trans (List.length_filter_le _ _) (by simp)
theorem T.apBd:appB Tryz.prog 54 64 4 40=true:=by kernel_rfl
theorem sorted_calls (mb:Nat)(l:List (Int × Tm))(hl:l.length≤1048576)(w:World)(hM:w.heap[mb]?=some (mapK iV (kvT l))):Calls Tryz.prog 100 #[.map (some mb)] w fun e w'=>∃ b c ys,e=.returned (.slice (some ⟨b,0,none⟩) ys.length c)∧((sb ys).Perm l∧upB ys)∧Turns [] [rowB (some ⟨b,0,none⟩) c ys] w w':=by
 refine Jbo (args:=[.map (some mb)]) (fun _=>False) Tryz.func100 rfl Tryz.ntmps100 rfl rfl ?_;refine Csr (Za rfl (Nn (Csr (Zm rfl ?_))));refine WL.val (OV.lenMap T.u175 rfl (fun _ hw=>((hw.snap mb (Array.getElem?_eq_some_iff.1 hM).1).2.trans hM))) rfl ?_;refine WL.makeRow0 (m:=l.length) (bytes:=40) rfl (by rw [Joo];rfl) T.u54 T.z64 T.zr64 (by kernel_rfl) ⟨by omega,by omega,by unfold maxLen;omega⟩ rfl ?_;intro b8;refine Za rfl (Nn (Cs (Csr (Zm rfl ?_))));refine WL.range T.u175 rfl (fun _ hw=>((hw.snap mb (Array.getElem?_eq_some_iff.1 hM).1).2.trans hM)) rfl ?_;intro it10;refine Nn (Cb ?_)
 refine WC.dd (fun (vis:List Nat) (la:Option Addr) (lc:Nat) (ys:List Bd)=>[(0,.map (some mb)),(3,.slice la ys.length lc),(10,yZ it10)])
   (fun vis la lc ys w'=>(Vs l vis∧(ys.length=vis.length∧sb ys=visL l vis)∧((∃ b,la=some ⟨b,0,none⟩)∨0<ys.length))∧Sat0 w (own it10 (iterK mb (kvT l).length vis)::rowB la lc ys::[]) w') (fun vis _ _ _=>unseen (kvT l).length vis) [] (some ⟨b8,0,none⟩) l.length [] Y3 (fun w' hw=>⟨⟨Vs.start _,⟨rfl,rfl⟩,.inl ⟨_,rfl⟩⟩,hw.perm (List.Perm.of_eq (by first | rfl | (simp;rfl)))⟩) ?_
 intro vis la lc ys;refine WC.pure (fun hi=>?_);obtain ⟨hvs,⟨hyl,hsv⟩,hla⟩:=hi;have hvc0:=hvs.count;refine Csr ?_;refine WL.next (enc:=iV) (kv:=kvT l) rfl rfl (fun _ hw=>((hw.snap mb (Array.getElem?_eq_some_iff.1 hM).1).2.trans hM)) ?_ ?_
 ·intro hall;refine Zv (OV.extract rfl rfl) (Nn (Cs (WC.bu rfl ?_)));refine Ce (Xe (Xe (Xh (Xn (Cs ?_)))))
  refine WC.mq (fun w' hw=>(show ∃ b,la=some ⟨b,0,none⟩ from by
   rcases hla with h | h
   ·exact h
   ·exact Jed (hw.it (rowB la lc ys) yI) (by omega))) (fun hla2=>?_)
  obtain ⟨bq,rfl⟩:=hla2;refine Cr (Zm rfl (WL.focus (ow':=rowB (some ⟨bq,0,none⟩) lc ys::own it10 (iterK mb (kvT l).length vis)::[]) perm1 ?_));refine WL.cT (ι:=List Bd) (vs:=[.slice (some ⟨bq,0,none⟩) ys.length lc,.func (.func 147) #[] #[]]) (vv:=fun _=>.tuple #[]) (pp:=fun zs=>zs.Perm ys∧upB zs) [rowB (some ⟨bq,0,none⟩) lc ys] (AA:=fun zs=>[rowB (some ⟨bq,0,none⟩) lc zs]) rfl (fun w' hw' hH=>(sortB_calls bq lc ys (by omega) w' hH).mono (fun en w'' ⟨h1,zs,h2,h3⟩=>⟨zs,h1,h2,h3⟩)) ?_;rintro zs ⟨hzs,hzu⟩;have hzl:zs.length=ys.length:=hzs.length_eq;refine Nn (Csr (Zm rfl (Za rfl (Nn (WC.az ?_)))));refine WX.ret1 rfl rfl (by rw [← hzl];rfl) (fun w' hw=>⟨bq,lc,zs,rfl,⟨(hzs.map _).trans (by rw [show ys.map _=sb ys from rfl,hsv];exact hvs.all (fun i hi=>hall i (by rw [Joo];exact hi))),hzu⟩,?_⟩);exact (hw.pik [[rowB (some ⟨bq,0,none⟩) lc zs],[own it10 (iterK mb (kvT l).length vis)]] [0] 2).turned0
 intro i q hi2 hv;obtain ⟨x,hx,hxm,rfl,hil⟩:=kvT_get hi2;refine Zv (OV.extract rfl rfl) (Nn (Cs (WC.co rfl ?_)));refine Ck (Xn (Cb (Csr ?_)));refine WL.val (OV.entry (enc:=iV) (kv:=kvT l) (i:=i) rfl (fun _ hw=>hw.it _ yH) (fun _ hw=>((hw.snap mb (Array.getElem?_eq_some_iff.1 hM).1).2.trans hM)) hi2) rfl ?_;refine Zv (OV.extract rfl rfl) (Zv (OV.extract rfl rfl) (WL.alloc T.zr26 rfl ?_));intro b5;refine Za rfl (WL.ag (vs:=tmC x.2) rfl rfl rfl T.z26 rfl ?_);refine Nn (Cr (Zm rfl (Zm rfl (Zv (OV.lN (cs:=tmC x.2) rfl T.u26 rfl T.z26 yH) (Zv (OV.ao (xs:=[(0,.tmp 17),(1,.tmp 18)]) (pl:=[(0,1),(1,3)]) (cs:=bdC ⟨x.1,x.2⟩) T.u64 T.zr64 (by kernel_rfl) rfl (Jal (us:=[_]) rfl rfl yW (Jal (us:=tmC x.2) rfl rfl yW rfl))) (WL.bg (cs:=bdC ⟨x.1,x.2⟩) T.u54 T.z64 T.zr64 rfl rfl (by omega) (by omega) rfl ?_))))));intro b20;have hvc:=hvs.count;refine WL.focus (ow':=rowB la lc ys::oQ b20 (bdC ⟨x.1,x.2⟩) 64::oQ b5 (tmC x.2) 26::own it10 (iterK mb (kvT l).length (vis++[i]))::[]) (pmP [_,_,_,_] [3,0,1,2]) ?_;refine WL.append (news:=bdC ⟨x.1,x.2⟩) rfl rfl T.apBd (fun _ _=>Jcw yI rfl) (bdC_one _) ⟨by omega,by unfold maxLen;omega⟩ rfl ?_;intro a21 c21;refine Za rfl (Nl (Xb ?_));have el:ys.length+1=(ys++[(⟨x.1,x.2⟩:Bd)]).length:=by simp
 have ef:ys.flatMap bdC++bdC ⟨x.1,x.2⟩=(ys++[(⟨x.1,x.2⟩:Bd)]).flatMap bdC:=by simp
 exact WX.cg (vis++[i]) a21 c21 (ys++[⟨x.1,x.2⟩]) ⟨rfl,by rw [← el];rfl,rfl,trivial⟩ (fun w' hw=>⟨⟨hvs.step hil hv,⟨by simp [hyl],by rw [Ji7 hx,← hsv];simp [sb]⟩,.inr (by simp)⟩,by
  rw [el,ef] at hw;exact hw.pik [[rowB a21 c21 (ys++[⟨x.1,x.2⟩])],[oQ b20 (bdC ⟨x.1,x.2⟩) 64],[oQ b5 (tmC x.2) 26],[own it10 (iterK mb (kvT l).length (vis++[i]))]] [3,0] 4⟩) (Ji8 (by rw [Joo];exact hil) hv)
def gotT:List (Int × Tm)→Int→Option Tm
 | [],_=>none
 | q::l,a=>if a=q.1 then some q.2 else gotT l a
def upsT:List (Int × Tm)→Int→Tm→List (Int × Tm)
 | [],a,t=>[(a,t)]
 | q::l,a,t=>if a=q.1 then (a,t)::l else q::upsT l a t
theorem Jny (l:List (Int × Tm))(a:Int):got (kvT l) a=(gotT l a).map tmV:=by
 have key:∀ (l:List (Int × Tm)) (i:Nat),(spot (kvT l) a i).map (·.2)=(gotT l a).map tmV:=by
  intro l
  induction l with
  | nil=>intro i;rfl
  | cons q l ih=>
   intro i;show (if a=q.1 then some (i,tmV q.2) else spot (kvT l) a (i+1)).map (·.2)=(if a=q.1 then some q.2 else gotT l a).map tmV
   by_cases h:a=q.1
   ·rw [if_pos h,if_pos h];rfl
   ·rw [if_neg h,if_neg h];exact ih (i+1)
 exact key l 0
theorem Jkg (a:Int)(t:Tm):∀ l:List (Int × Tm),ups (kvT l) a (tmV t)=kvT (upsT l a t)
 | []=>rfl
 | q::l=>by
  show (if a=q.1 then (a,tmV t)::kvT l else (q.1,tmV q.2)::ups (kvT l) a (tmV t))=kvT (if a=q.1 then (a,t)::l else q::upsT l a t)
  by_cases h:a=q.1
  ·rw [if_pos h,if_pos h];rfl
  ·rw [if_neg h,if_neg h,Jkg a t l];rfl
theorem Jkh (a:Int)(t:Tm):∀ l:List (Int × Tm),(upsT l a t).length≤l.length+1
 | []=>by simp [upsT]
 | q::l=>by
  have:=Jkh a t l;unfold upsT
  split <;> simp <;> omega
def Jjh:List (Int × Tm)→List Tm→List Tm→Bool
 | _,[],_=>true
 | _,_::_,[]=>true
 | m,t::ts,u::us=>if varB t=false then (if t=u then Jjh m ts us else false) else if (gotT m t.n).isSome∧(gotT m t.n).getD T0≠u then false else Jjh (upsT m t.n u) ts us
def plc (x:At):List Tm:=x.b::x.args
def Jdc (p x:At):Bool:=decide (p.name=x.name∧p.args.length=x.args.length∧¬ (varB p.b=true∧x.b.kind=0)) && Jjh [] (plc p) (plc x)
theorem Jiq:KeyLaw Tryz.prog 3 iV:=KeyLaw.int T.u3
theorem Jfb (x:At)(a:Option Addr)(c:Nat)(hl:x.args.length≤1048576)(w:World)(hr:RT w a x.args):Calls Tryz.prog 99 #[atV x a c] w fun e w'=>∃ b lc,e=.returned (.slice (some ⟨b,0,none⟩) (plc x).length lc)∧Turns [] [rowT (some ⟨b,0,none⟩) lc (plc x)] w w':=by
 refine Jbo (args:=[atV x a c]) (fun _=>False) Tryz.func99 rfl Tryz.ntmps99 rfl rfl ?_;refine Csr (WL.box rfl rfl rfl ?_);intro b1;refine Za rfl (Nn (Csr (Zv (OV.f0 0 rfl T.u29 rfl) (Zv (OV.ai (cs:=tmC x.b) rfl T.u26 rfl T.z26 (fun _ hw j v hj=>by rw [Jap];exact Jbv hw yH (o:=0) (cs':=tmC x.b) rfl j v hj)) (WL.bg (cs:=tmC x.b) T.u27 T.z26 T.zr26 rfl rfl (by omega) (by omega) rfl ?_)))));intro b5;refine WL.weak (S':=Sat0 w (row 26 3 (some ⟨b5,0,none⟩) 1 1 (tmC x.b)::oQ b1 (atC x a c) 29::[])) (fun w' hw=>hw.asRow (m:=1) rfl (by decide)) ?_;refine Zv (OV.f0 4 rfl T.u29 rfl) (Zv (OV.l1 (v:=.slice a x.args.length c) rfl T.u27 rfl yI rfl) (WL.append (news:=x.args.flatMap tmC) rfl rfl T.apT (fun _ _=>Src.of_rt hr.nil (fun _ hw=>hr.keeps hw.keeps)) (Jj0 _) ⟨by omega,by unfold maxLen;omega⟩ rfl ?_));intro a8 c8;refine Za rfl (Nn (WC.az ?_));have el:1+x.args.length=(plc x).length:=by simp [plc];omega
 have ef:tmC x.b++x.args.flatMap tmC=(plc x).flatMap tmC:=rfl;rw [el,ef];refine WX.know (fun w' hw=>(show ∃ b,a8=some ⟨b,0,none⟩ from Jed (hw.it (rowT a8 c8 (plc x)) yH) (by simp [plc]))) (fun hq=>?_);obtain ⟨bq,rfl⟩:=hq;exact WX.ret1 rfl rfl rfl (fun w' hw=>⟨bq,c8,rfl,(hw.pik [[rowT (some ⟨bq,0,none⟩) c8 (plc x)],[oQ b1 (atC x a c) 29]] [0] 2).turned0⟩)
structure RBd (w:World) (a:Option Addr) (ys:List Bd):Prop where
 nil:a=none→ys.length=0
 at_:∀ q,a=some q→∀ i y,ys[i]?=some y→∀ j v,(bdC y)[j]?=some v→w.cell? ((q.add (i*4)).add j)=some v
theorem RBd.keeps {w w':World}{a:Option Addr}{ys:List Bd}(h:RBd w a ys)(k:Keeps w w'):RBd w' a ys:=⟨h.nil,fun q hq i t ht j v hv=>k _ _ (h.at_ q hq i t ht j v hv)⟩
theorem RBd.nil0 (w:World):RBd w none []:=⟨fun _=>rfl,fun q hq=>by cases hq⟩
theorem RBd.get {w:World}{a:Option Addr}{ys:List Bd}(h:RBd w a ys){i:Nat}(hi:i<ys.length):∃ q y,a=some q∧ys[i]?=some y∧y∈ys∧∀ j v,(bdC y)[j]?=some v→w.cell? ((q.add (i*4)).add j)=some v:=by
 cases a with
 | none=>have:=h.nil rfl;omega
 | some q=>exact ⟨q,ys[i],rfl,xD hi,List.getElem_mem hi,h.at_ q rfl i _ (xD hi)⟩
theorem RBd.of_row {w0 ws w:World}{M I:Nat→Prop}{ow:List Hw.Item}{a:Option Addr}{c:Nat}{ys:List Bd}(hw:Sat w0 M I ws ow w)(hm:rowB a c ys∈ow):RBd w a ys:=by
 refine ⟨fun ha=>?_,fun q hq i t ht j v hv=>?_⟩
 ·rcases (Jd4 hw hm).2 with ⟨_,h,_⟩ | ⟨b,hb,_⟩
  ·exact h
  ·rw [ha] at hb;cases hb
 ·subst hq;have hj:j<4:=(List.getElem?_eq_some_iff.1 hv).1;have h1:=Jdr hw hm (i*4+j) v (by rw [Jcu bdC_len ys i j t ht hj];exact hv);rwa [Jdy] at h1
theorem gotT_at {v:Int}:∀ {ys:List Bd} {i:Nat} {y:Bd},ys[i]?=some y→y.v=v→(∀ (j:Nat) (z:Bd),j<i→ys[j]?=some z→z.v≠v)→gotT (sb ys) v=some y.t
 | [],i,y,h,_,_=>by simp at h
 | x::ys,i,y,h,hv,hn=>by
  show (if v=x.v then some x.t else gotT (sb ys) v)=some y.t;cases i with
  | zero=>simp only [List.getElem?_cons_zero,Option.some.injEq] at h;subst h;rw [if_pos hv.symm]
  | succ i=>
   rw [if_neg (fun e=>hn 0 x (by omega) rfl e.symm)];exact gotT_at (i:=i) (by simpa using h) hv (fun j z hj hz=>hn (j+1) z (by omega) (by simpa using hz))
theorem gotT_no {v:Int}:∀ {ys:List Bd},(∀ (j:Nat) (z:Bd),ys[j]?=some z→z.v≠v)→gotT (sb ys) v=none
 | [],_=>rfl
 | x::ys,hn=>by
  show (if v=x.v then some x.t else gotT (sb ys) v)=none;rw [if_neg (fun e=>hn 0 x rfl e.symm)];exact gotT_no (fun j z hz=>hn (j+1) z (by simpa using hz))
def becD (s:List (Int × Tm))(t:Tm):Tm:=if varB t=true then (gotT s t.n).getD t else t
def appD (s:List (Int × Tm))(x:At):At:=⟨becD s x.b,x.name,x.args.map (becD s)⟩
theorem Jk2 (k:Int)(u:Tm)(v:Int):∀ m:List (Int × Tm),gotT (upsT m k u) v=if v=k then some u else gotT m v
 | []=>by simp [gotT,upsT]
 | q::m=>by
  unfold upsT
  by_cases h:k=q.1
  ·rw [if_pos h];show (if v=k then some u else gotT m v)=if v=k then some u else if v=q.1 then some q.2 else gotT m v
   by_cases h2:v=k
   ·rw [if_pos h2,if_pos h2]
   ·rw [if_neg h2,if_neg h2,if_neg (fun e=>h2 (e.trans h.symm))]
  ·rw [if_neg h];show (if v=q.1 then some q.2 else gotT (upsT m k u) v)=if v=k then some u else if v=q.1 then some q.2 else gotT m v
   rw [Jk2 k u v m]
   by_cases h2:v=q.1
   ·rw [if_pos h2,if_neg (fun e=>h (e.symm.trans h2)),if_pos h2]
   ·rw [if_neg h2,if_neg h2]
abbrev Bn:=List (Int × Tm)
def SB (s:Bn):Prop:=s.Pairwise fun p q=>p.1<q.1
theorem Jk3 {v:Int}:∀ {s:Bn},(∀ q∈s,v<q.1)→gotT s v=none
 | [],_=>rfl
 | q::s,h=>by
  unfold gotT;rw [if_neg (by have:=h q (by simp);omega)];exact Jk3 fun r hr=>h r (yB _ hr)
theorem SB.ext:∀ {s t:Bn},SB s→SB t→(∀ v,gotT s v=gotT t v)→s=t
 | [],[],_,_,_=>rfl
 | [],q::t,_,_,h=>by have:=h q.1;simp [gotT] at this
 | p::s,[],_,_,h=>by have:=h p.1;simp [gotT] at this
 | p::s,q::t,hs,ht,h=>by
  obtain ⟨hs1,hs2⟩:=List.pairwise_cons.1 hs;obtain ⟨ht1,ht2⟩:=List.pairwise_cons.1 ht
  have e:p.1=q.1:=by
   rcases Int.lt_trichotomy p.1 q.1 with hl | hl | hl
   ·have h1:=h p.1
    rw [Jk3 (s:=q::t) (fun r hr=>by
     rcases List.mem_cons.1 hr with rfl | hr
     ·exact hl
     ·have:=ht1 r hr;omega)] at h1
    simp [gotT] at h1
   ·exact hl
   ·have h1:=h q.1
    rw [Jk3 (s:=p::s) (fun r hr=>by
     rcases List.mem_cons.1 hr with rfl | hr
     ·exact hl
     ·have:=hs1 r hr;omega)] at h1
    simp [gotT] at h1
  have e2:p.2=q.2:=by have h1:=h p.1;simpa [gotT,e] using h1
  have e3:s=t:=SB.ext hs2 ht2 fun v=>by
   by_cases hv:v=p.1
   ·rw [Jk3 (fun r hr=>by rw [hv];exact hs1 r hr),Jk3 (fun r hr=>by rw [hv,e];exact ht1 r hr)]
   ·have h1:=h v;unfold gotT at h1;rwa [if_neg hv,if_neg (by rw [← e];exact hv)] at h1
  rw [e3,show p=q from Prod.ext e e2]
def NK (s:Bn):Prop:=(s.map (·.1)).Nodup
theorem SB.nk {s:Bn}(h:SB s):NK s:=by
 unfold NK List.Nodup;rw [List.pairwise_map];exact List.Pairwise.imp (fun {p q} hpq e=>by omega) h
theorem Jfd {v:Int}{z:Tm}:∀ {s:Bn},NK s→(gotT s v=some z↔(v,z)∈s)
 | [],_=>by simp [gotT]
 | q::s,h=>by
  obtain ⟨h1,h2⟩:=List.nodup_cons.1 h;unfold gotT
  by_cases e:v=q.1
  ·rw [if_pos e];constructor
   ·intro hh;simp only [Option.some.injEq] at hh;rw [e,← hh];exact List.mem_cons_self
   ·intro hh;rcases List.mem_cons.1 hh with rfl | hh
    ·rfl
    ·exact absurd (List.mem_map.2 ⟨_,hh,e⟩) h1
  ·rw [if_neg e,Jfd h2];constructor
   ·exact yB _
   ·intro hh;rcases List.mem_cons.1 hh with rfl | hh
    ·exact absurd rfl e
    ·exact hh
theorem gotT_perm {s t:Bn}(hs:NK s)(h:s.Perm t)(v:Int):gotT s v=gotT t v:=by
 have ht:NK t:=by unfold NK at hs ⊢;exact (List.Perm.nodup_iff (h.map (·.1))).1 hs
 cases hg:gotT t v with
 | some z=>exact (Jfd hs).2 (h.mem_iff.2 ((Jfd ht).1 hg))
 | none=>
  cases hg2:gotT s v with
  | none=>rfl
  | some z=>rw [(Jfd ht).2 (h.mem_iff.1 ((Jfd hs).1 hg2))] at hg;cases hg
def insB (q:Int × Tm):Bn→Bn
 | []=>[q]
 | r::l=>if q.1<r.1 then q::r::l else r::insB q l
def srtB (l:Bn):Bn:=l.foldr insB []
theorem Jma (q:Int × Tm):∀ l:Bn,(insB q l).Perm (q::l)
 | []=>.refl _
 | r::l=>by
  unfold insB
  split
  ·exact .refl _
  ·exact ((Jma q l).cons r).trans (List.Perm.swap q r l)
theorem Jlu:∀ l:Bn,(srtB l).Perm l
 | []=>.refl _
 | q::l=>(Jma q (srtB l)).trans ((Jlu l).cons q)
theorem insB_sb {q:Int × Tm}:∀ {l:Bn},SB l→(∀ r∈l,r.1≠q.1)→SB (insB q l)
 | [],_,_=>List.pairwise_singleton _ _
 | r::l,h,hn=>by
  obtain ⟨h1,h2⟩:=List.pairwise_cons.1 h;unfold insB
  split
  ·rename_i hl;refine List.pairwise_cons.2 ⟨fun x hx=>?_,h⟩;rcases List.mem_cons.1 hx with rfl | hx
   ·exact hl
   ·have:=h1 x hx;omega
  ·rename_i hl;refine List.pairwise_cons.2 ⟨fun x hx=>?_,insB_sb h2 fun y hy=>hn y (yB _ hy)⟩;rcases List.mem_cons.1 ((Jma q l).mem_iff.1 hx) with rfl | hx
   ·have:=hn r (by simp);omega
   ·exact h1 x hx
theorem Jnw:∀ {l:Bn},NK l→SB (srtB l)
 | [],_=>List.Pairwise.nil
 | q::l,h=>by
  obtain ⟨h1,h2⟩:=List.nodup_cons.1 h;refine insB_sb (Jnw h2) fun r hr e=>h1 ?_
  exact List.mem_map.2 ⟨r,(Jlu l).mem_iff.1 hr,e⟩
theorem Jk1 {l:Bn}(h:NK l)(v:Int):gotT (srtB l) v=gotT l v:=(gotT_perm h (Jlu l).symm v).symm
theorem upsT_keys (a:Int)(t:Tm):∀ l:Bn,(upsT l a t).map (·.1)=if (gotT l a).isSome=true then l.map (·.1) else l.map (·.1)++[a]
 | []=>by simp [upsT,gotT]
 | q::l=>by
  unfold upsT gotT
  by_cases h:a=q.1
  ·rw [if_pos h,if_pos h];simp [h]
  ·rw [if_neg h,if_neg h,yC,upsT_keys a t l]
   split <;> simp
theorem NK.ups {l:Bn}(h:NK l)(a:Int)(t:Tm):NK (upsT l a t):=by
 unfold NK;rw [upsT_keys]
 split
 ·exact h
 ·rename_i hg;refine List.nodup_append.2 ⟨h,by simp,fun x hx y hy=>?_⟩;simp only [xI] at hy;subst hy;rintro rfl;obtain ⟨⟨k,z⟩,hq,rfl⟩:=List.mem_map.1 hx;exact hg (by rw [(Jfd h).2 hq];rfl)
def goM:Bn→List Tm→List Tm→Option Bn
 | m,[],_=>some m
 | m,_::_,[]=>some m
 | m,t::ts,u::us=>if varB t=false then (if t=u then goM m ts us else none) else if (gotT m t.n).isSome∧(gotT m t.n).getD T0≠u then none else goM (upsT m t.n u) ts us
theorem Jmb:∀ (m:Bn) (ts us:List Tm),(goM m ts us).isSome=Jjh m ts us
 | m,[],_=>by simp [goM,Jjh]
 | _,_::_,[]=>by simp [goM,Jjh]
 | m,t::ts,u::us=>by
  unfold goM Jjh
  split
  ·split
   ·exact Jmb m ts us
   ·rfl
  ·split
   ·rfl
   ·exact Jmb _ ts us
abbrev fitB (p x:At):Prop:=p.name=x.name∧p.args.length=x.args.length∧¬ (varB p.b=true∧x.b.kind=0)
def Jct (p x:At)(s:Bn):Option Bn:=if fitB p x then (goM s (plc p) (plc x)).map srtB else none
theorem Jnz:∀ {ts us:List Tm} {m m':Bn},NK m→ts.length=us.length→goM m ts us=some m' →
  NK m'∧(∀ v z,gotT m v=some z→gotT m' v=some z)∧(∀ v,(gotT m' v).isSome=true↔(gotT m v).isSome=true∨∃ t∈ts,varB t=true∧t.n=v)∧ts.map (becD m')=us
 | [],[],m,m',hk,_,h=>by
  simp only [goM,Option.some.injEq] at h;subst h;exact ⟨hk,fun _ _ h=>h,fun v=>by simp,rfl⟩
 | [],_::_,_,_,_,hl,_=>by simp at hl
 | _::_,[],_,_,_,hl,_=>by simp at hl
 | t::ts,u::us,m,m',hk,hl,h=>by
  have hl2:ts.length=us.length:=by simpa using hl
  rw [goM] at h
  by_cases hv:varB t=true
  ·rw [if_neg (by rw [hv];simp)] at h
   split at h
   ·cases h
   ·rename_i hc;obtain ⟨h1,h2,h3,h4⟩:=Jnz (hk.ups _ _) hl2 h;have hu:gotT m' t.n=some u:=h2 _ _ (by rw [Jk2,if_pos rfl]);refine ⟨h1,fun v z hz=>h2 v z ?_,fun v=>?_,?_⟩
    ·rw [Jk2]
     by_cases e:v=t.n
     ·rw [if_pos e];rw [e] at hz;have:¬ (z≠u):=fun hne=>hc ⟨by rw [hz];rfl,by rw [hz];exact hne⟩
      rw [Classical.not_not.1 this]
     ·rw [if_neg e];exact hz
    ·rw [h3,Jk2]
     by_cases e:v=t.n
     ·rw [if_pos e];exact ⟨fun _=>Or.inr ⟨t,by simp,hv,e.symm⟩,fun _=>Or.inl rfl⟩
     ·rw [if_neg e];constructor
      ·rintro (hh | ⟨x,hx,hh⟩)
       ·exact Or.inl hh
       ·exact Or.inr ⟨x,yB _ hx,hh⟩
      ·rintro (hh | ⟨x,hx,hh,he⟩)
       ·exact Or.inl hh
       ·rcases List.mem_cons.1 hx with rfl | hx
        ·exact absurd he.symm e
        ·exact Or.inr ⟨x,hx,hh,he⟩
    ·rw [yC,h4,List.cons.injEq];refine ⟨?_,rfl⟩;unfold becD;rw [if_pos hv,hu];rfl
  ·have hv2:varB t=false:=by simpa using hv
   rw [if_pos hv2] at h
   split at h
   ·rename_i htu;obtain ⟨h1,h2,h3,h4⟩:=Jnz hk hl2 h;refine ⟨h1,h2,fun v=>?_,?_⟩
    ·rw [h3];constructor
     ·rintro (hh | ⟨x,hx,hh⟩)
      ·exact Or.inl hh
      ·exact Or.inr ⟨x,yB _ hx,hh⟩
     ·rintro (hh | ⟨x,hx,hh,he⟩)
      ·exact Or.inl hh
      ·rcases List.mem_cons.1 hx with rfl | hx
       ·exact absurd hh hv
       ·exact Or.inr ⟨x,hx,hh,he⟩
    ·rw [yC,h4,List.cons.injEq];refine ⟨?_,rfl⟩;unfold becD;rw [if_neg hv,htu]
   ·cases h
theorem Jo8:∀ {ts us:List Tm} {m s:Bn},ts.length=us.length→(∀ v z,gotT m v=some z→gotT s v=some z)→(∀ t∈ts,varB t=true→(gotT s t.n).isSome=true)→ts.map (becD s)=us→∃ m',goM m ts us=some m'
 | [],_,m,s,_,_,_,_=>⟨m,rfl⟩
 | _::_,[],_,_,hl,_,_,_=>by simp at hl
 | t::ts,u::us,m,s,hl,hm,hd,h=>by
  have hl2:ts.length=us.length:=by simpa using hl
  rw [yC,List.cons.injEq] at h;have hd2:∀ t∈ts,varB t=true→(gotT s t.n).isSome=true:=fun x hx=>hd x (yB _ hx)
  rw [goM]
  by_cases hv:varB t=true
  ·obtain ⟨z,hz⟩:=Option.isSome_iff_exists.1 (hd t (by simp) hv);have hzu:z=u:=by have:=h.1;unfold becD at this;rwa [if_pos hv,hz] at this
   rw [if_neg (by rw [hv];simp),if_neg (by
    rintro ⟨h1,h2⟩;obtain ⟨y,hy⟩:=Option.isSome_iff_exists.1 h1;have:=hm _ _ hy;rw [hz] at this;simp only [Option.some.injEq] at this;rw [hy] at h2;exact h2 (by rw [← this];exact hzu))]
   refine Jo8 hl2 (fun v y hy=>?_) hd2 h.2;rw [Jk2] at hy
   split at hy
   ·rename_i e;rw [e,hz,hzu];exact hy
   ·exact hm v y hy
  ·have hv2:varB t=false:=by simpa using hv
   have:=h.1;unfold becD at this;rw [if_neg hv] at this;rw [if_pos hv2,if_pos this];exact Jo8 hl2 hm hd2 h.2
def Jaq (x:At):List Int:=((plc x).filter varB).map (·.n)
theorem mem_varsOf {x:At}{v:Int}:v∈Jaq x↔∃ t∈plc x,varB t=true∧t.n=v:=by
 unfold Jaq;simp only [xS,List.mem_filter];exact ⟨fun ⟨t,⟨h1,h2⟩,h3⟩=>⟨t,h1,h2,h3⟩,fun ⟨t,h1,h2,h3⟩=>⟨t,⟨h1,h2⟩,h3⟩⟩
theorem becD_congr {s s':Bn}{t:Tm}(h:varB t=true→gotT s t.n=gotT s' t.n):becD s t=becD s' t:=by
 unfold becD
 split
 ·rename_i hv;rw [h hv]
 ·rfl
theorem Jin {s:Bn}{p x:At}(hn:p.name=x.name):appD s p=x↔(plc p).map (becD s)=plc x:=by
 obtain ⟨b,n,vs⟩:=p;obtain ⟨b2,n2,vs2⟩:=x;simp only at hn;subst hn;simp [appD,plc]
theorem Jft {p x:At}{s s':Bn}(hs:SB s):Jct p x s=some s'↔SB s'∧fitB p x∧(∀ v z,gotT s v=some z→gotT s' v=some z)∧(∀ v,(gotT s' v).isSome=true↔(gotT s v).isSome=true∨v∈Jaq p)∧appD s' p=x:=by
 have hl:fitB p x→(plc p).length=(plc x).length:=fun h=>by simp [plc,h.2.1]
 unfold Jct;constructor
 ·intro h
  split at h
  ·rename_i hf;obtain ⟨m',hm,rfl⟩:=Option.map_eq_some_iff.1 h;obtain ⟨h1,h2,h3,h4⟩:=Jnz hs.nk (hl hf) hm;refine ⟨Jnw h1,hf,fun v z hz=>by rw [Jk1 h1];exact h2 v z hz,fun v=>by rw [Jk1 h1,h3,mem_varsOf],?_⟩;rw [Jin hf.1,← h4];exact List.map_congr_left fun t _=>becD_congr fun _=>Jk1 h1 _
  ·cases h
 ·rintro ⟨h0,hf,h1,h2,h3⟩;rw [if_pos hf];rw [Jin hf.1] at h3;obtain ⟨m',hm⟩:=Jo8 (hl hf) h1 (fun t ht hv=>(h2 _).2 (Or.inr (mem_varsOf.2 ⟨t,ht,hv,rfl⟩))) h3;obtain ⟨k1,k2,k3,k4⟩:=Jnz hs.nk (hl hf) hm;rw [hm,Option.map_some,Option.some.injEq];refine SB.ext (Jnw k1) h0 fun v=>?_
  rw [Jk1 k1]
  by_cases hv:(gotT s' v).isSome=true
  ·obtain ⟨z,hz⟩:=Option.isSome_iff_exists.1 hv;rw [hz];rcases (h2 v).1 hv with hh | hh
   ·obtain ⟨y,hy⟩:=Option.isSome_iff_exists.1 hh;rw [k2 _ _ hy,← hz,h1 _ _ hy]
   ·obtain ⟨t,ht,hvt,rfl⟩:=mem_varsOf.1 hh;obtain ⟨y,hy⟩:=Option.isSome_iff_exists.1 ((k3 t.n).2 (Or.inr ⟨t,ht,hvt,rfl⟩))
    have e:becD m' t=becD s' t:=by
     have e1:(plc p).map (becD m')=(plc p).map (becD s'):=by rw [k4,h3]
     exact (List.map_inj_left.1 e1) t ht
    unfold becD at e;rw [if_pos hvt,if_pos hvt,hy,hz] at e;rw [hy];exact congrArg some e
  ·have hn:gotT s' v=none:=by simpa using hv
   rw [hn];have:¬ (gotT m' v).isSome=true:=fun hh=>hv ((h2 v).2 (by rw [mem_varsOf];exact (k3 v).1 hh))
   simpa using this
structure Ts where
 op:Int
 l:Tm
 r:Tm
 deriving DecidableEq
instance:Inhabited Ts:=⟨⟨0,default,default⟩⟩
structure Cl where
 hd:At
 bd:List At
 ts:List Ts
 deriving DecidableEq
instance:Inhabited Cl:=⟨⟨default,[],[]⟩⟩
def tstB (t:Ts):Bool:=decide (1≤t.op∧t.op≤4) && (Jcy t.l || varB t.l) && (Jcy t.r || varB t.r)
def decB (t:Ts):Bool × Bool:=
 if tstB t=true∧Jcy t.l=true∧Jcy t.r=true then
  (if t.op=1 then decide (cmpT t.l t.r=0) else if t.op=2 then decide (cmpT t.l t.r≠0) else if t.op=3 then decide (cmpT t.l t.r<0) else decide (cmpT t.l t.r≤0),true)
 else (false,false)
def appT (s:Bn)(t:Ts):Ts:=⟨t.op,becD s t.l,becD s t.r⟩
def okT (s:Bn)(t:Ts):Bool:=(decB (appT s t)).1
def varsT (t:Ts):List Int:=([t.l,t.r].filter varB).map (·.n)
def clA (c:Cl)(i:Nat):At:=c.bd.getD i default
def clT (c:Cl)(i:Nat):Ts:=c.ts.getD i default
def Je1 (c:Cl)(l:List Nat)(s:Bn):Bool:=l.all fun i=>okT s (clT c i)
def sols (fnd:Nat→At→List At)(c:Cl):List (Nat × List Nat)→Bn→List Bn
 | [],s=>[s]
 | j::js,s=>(fnd j.1 (appD s (clA c j.1))).flatMap fun f=>match Jct (clA c j.1) f s with
  | none=>[]
  | some s'=>if Je1 c j.2 s'=true then sols fnd c js s' else []
def tk (c:Cl):(Int→Prop)→List (Nat × List Nat)→Prop
 | _,[]=>True
 | D,j::js=>(∀ i∈j.2,∀ v∈varsT (clT c i),D v∨v∈Jaq (clA c j.1))∧tk c (fun v=>D v∨v∈Jaq (clA c j.1)) js
def GB (s:Bn):Prop:=∀ v z,gotT s v=some z→varB z=false
abbrev Dm (s:Bn)(v:Int):Prop:=(gotT s v).isSome=true
theorem becD_ext {s s':Bn}(h:∀ v z,gotT s v=some z→gotT s' v=some z){t:Tm}(hd:varB t=true→Dm s t.n):becD s' t=becD s t:=by
 refine becD_congr fun hv=>?_
 obtain ⟨z,hz⟩:=Option.isSome_iff_exists.1 (hd hv);rw [h _ _ hz,hz]
theorem Jnq {s s':Bn}(h:∀ v z,gotT s v=some z→gotT s' v=some z){p:At}(hd:∀ v∈Jaq p,Dm s v):appD s' p=appD s p:=by
 have h1:∀ t∈plc p,becD s' t=becD s t:=fun t ht=>becD_ext h fun hv=>hd _ (mem_varsOf.2 ⟨t,ht,hv,rfl⟩)
 unfold appD;rw [h1 p.b (by simp [plc]),List.map_congr_left fun t ht=>h1 t (by simp [plc,ht])]
theorem okT_ext {s s':Bn}(h:∀ v z,gotT s v=some z→gotT s' v=some z){t:Ts}(hd:∀ v∈varsT t,Dm s v):okT s' t=okT s t:=by
 have h1:∀ x∈[t.l,t.r],becD s' x=becD s x:=fun x hx=>becD_ext h fun hv=>hd _ (by
  unfold varsT;exact List.mem_map.2 ⟨x,List.mem_filter.2 ⟨hx,hv⟩,rfl⟩)
 unfold okT appT;rw [h1 t.l (by simp),h1 t.r (by simp)]
theorem Jk0 {c:Cl}{l:List Nat}{s s':Bn}(h:∀ v z,gotT s v=some z→gotT s' v=some z)(hd:∀ i∈l,∀ v∈varsT (clT c i),Dm s v):Je1 c l s'=Je1 c l s:=by
 unfold Je1;rw [Bool.eq_iff_iff,List.all_eq_true,List.all_eq_true];exact forall_congr' fun i=>forall_congr' fun hi=>by rw [okT_ext h (hd i hi)]
theorem gotT_filter {s:Bn}(hs:NK s)(p:Int→Bool)(v:Int):gotT (s.filter fun q=>p q.1) v=if p v=true then gotT s v else none:=by
 have hn:NK (s.filter fun q=>p q.1):=by unfold NK at hs ⊢;exact List.Nodup.sublist (List.filter_sublist.map _) hs
 cases hg:gotT (s.filter fun q=>p q.1) v with
 | some z=>
  have h1:=(Jfd hn).1 hg;obtain ⟨h2,h3⟩:=List.mem_filter.1 h1;rw [if_pos h3,(Jfd hs).2 h2]
 | none=>
  split
  ·rename_i hp;cases hg2:gotT s v with
   | none=>rfl
   | some z=>rw [(Jfd hn).2 (List.mem_filter.2 ⟨(Jfd hs).1 hg2,hp⟩)] at hg;cases hg
  ·rfl
theorem GB.match {p x:At}{s s':Bn}(hs:SB s)(hg:GB s)(hx:∀ t∈plc x,varB t=false)(h:Jct p x s=some s'):GB s':=by
 obtain ⟨h1,hf,h2,h3,h4⟩:=(Jft hs).1 h;intro v z hz;rcases (h3 v).1 (by rw [hz];rfl) with hh | hh
 ·obtain ⟨y,hy⟩:=Option.isSome_iff_exists.1 hh;have:=h2 _ _ hy;rw [hz] at this;rw [xH this];exact hg _ _ hy
 ·obtain ⟨t,ht,hv,rfl⟩:=mem_varsOf.1 hh;rw [Jin hf.1] at h4;have h5:becD s' t∈plc x:=by rw [← h4];exact List.mem_map.2 ⟨t,ht,rfl⟩
  have h6:becD s' t=z:=by unfold becD;rw [if_pos hv,hz];rfl
  rw [← h6];exact hx _ h5
theorem becD_bec {s s':Bn}(hg:GB s)(h:∀ v z,gotT s v=some z→gotT s' v=some z)(t:Tm):becD s' (becD s t)=becD s' t:=by
 by_cases hv:varB t=true
 ·cases hz:gotT s t.n with
  | none=>rw [show becD s t=t by unfold becD;rw [if_pos hv,hz];rfl]
  | some z=>
   rw [show becD s t=z by unfold becD;rw [if_pos hv,hz];rfl];have h1:=hg _ _ hz;unfold becD;rw [if_neg (by rw [h1];simp),if_pos hv,h _ _ hz];rfl
 ·rw [show becD s t=t by unfold becD;rw [if_neg hv]]
theorem matchB_pat {p x:At}{s s':Bn}(hs:SB s)(hg:GB s)(h:Jct p x s=some s'):Jdc (appD s p) x=true:=by
 obtain ⟨h1,hf,h2,h3,h4⟩:=(Jft hs).1 h;unfold Jdc;rw [yA,decide_eq_true_eq];refine ⟨⟨hf.1,by simp [appD,hf.2.1],fun hh=>hf.2.2 ⟨?_,hh.2⟩⟩,?_⟩
 ·have h5:=hh.1
  by_cases hv:varB p.b=true
  ·exact hv
  ·rw [show (appD s p).b=p.b by show becD s p.b=p.b;unfold becD;rw [if_neg hv]] at h5;exact absurd h5 hv
 ·rw [← Jmb];have hl:(plc (appD s p)).length=(plc x).length:=by simp [plc,appD,hf.2.1]
  have hpl:plc (appD s p)=(plc p).map (becD s):=by simp [plc,appD]
  obtain ⟨m',hm⟩:=Jo8 (m:=[]) (s:=s') hl (fun v z hz=>by simp [gotT] at hz) (fun t ht hv=>by
   rw [hpl] at ht;obtain ⟨u,hu,rfl⟩:=List.mem_map.1 ht
   have hu2:becD s u=u:=by
    unfold becD at hv ⊢
    split
    ·rename_i hv2;rw [if_pos hv2] at hv;cases hz:gotT s u.n with
     | none=>rfl
     | some z=>rw [hz] at hv;have:=hg _ _ hz;simp only [Option.getD_some] at hv;rw [this] at hv;cases hv
    ·rfl
   rw [hu2] at hv ⊢;exact (h3 _).2 (Or.inr (mem_varsOf.2 ⟨u,hu,hv,rfl⟩))) (by
   rw [Jin hf.1] at h4;rw [hpl,List.map_map,← h4];exact List.map_congr_left fun t _=>becD_bec hg h2 t)
  rw [hm];rfl
structure FndOK (fnd:Nat→At→List At) (FF:Nat→At→Prop):Prop where
 mem:∀ i p x,x∈fnd i p↔FF i x∧Jdc p x=true
 gr:∀ i x,FF i x→∀ t∈plc x,varB t=false
abbrev Jpo (FF:Nat→At→Prop)(s:Bn)(i:Nat)(a:At):Prop:=FF i (appD s a)∧(varB a.b=true→(becD s a.b).kind≠0)
theorem Jng {fnd:Nat→At→List At}{FF:Nat→At→Prop}(hF:FndOK fnd FF){c:Cl}:∀ {J:List (Nat × List Nat)} {s s':Bn},SB s→GB s→tk c (Dm s) J →
  (s'∈sols fnd c J s↔SB s'∧(∀ v z,gotT s v=some z→gotT s' v=some z)∧(∀ v,Dm s' v↔Dm s v∨∃ j∈J,v∈Jaq (clA c j.1))∧∀ j∈J,Jpo FF s' j.1 (clA c j.1)∧Je1 c j.2 s'=true)
 | [],s,s',hs,hg,_=>by
  simp only [sols,xI];constructor
  ·rintro rfl;exact ⟨hs,fun _ _ h=>h,fun v=>by simp,by simp⟩
  ·rintro ⟨h1,h2,h3,_⟩;refine SB.ext h1 hs fun v=>?_
   cases hz:gotT s v with
   | some z=>exact h2 _ _ hz
   | none=>
    have:=h3 v;simp only [List.not_mem_nil,false_and,exists_false,or_false] at this;have h4:¬ Dm s' v:=fun h=>by have h5:(gotT s v).isSome=true:=this.1 h;rw [hz] at h5;cases h5
    simpa using h4
 | j::js,s,s',hs,hg,ht=>by
  obtain ⟨ht1,ht2⟩:=ht;constructor
  ·intro h;unfold sols at h;obtain ⟨f,hf,h⟩:=List.mem_flatMap.1 h;obtain ⟨hf1,hf2⟩:=(hF.mem _ _ _).1 hf;cases hm:Jct (clA c j.1) f s with
   | none=>rw [hm] at h;simp at h
   | some s1=>
    rw [hm] at h;simp only at h
    split at h
    ·rename_i hJ;obtain ⟨k1,kf,k2,k3,k4⟩:=(Jft hs).1 hm
     have ht3:tk c (Dm s1) js:=by
      have e:Dm s1=fun v=>Dm s v∨v∈Jaq (clA c j.1):=funext fun v=>propext (k3 v)
      rw [e];exact ht2
     obtain ⟨i1,i2,i3,i4⟩:=(Jng hF k1 (hg.match hs (hF.gr _ _ hf1) hm) ht3).1 h;refine ⟨i1,fun v z hz=>i2 _ _ (k2 _ _ hz),fun v=>?_,fun q hq=>?_⟩
     ·rw [i3,show Dm s1 v↔_ from k3 v];constructor
      ·rintro ((hh | hh) | ⟨q,hq,hh⟩)
       ·exact Or.inl hh
       ·exact Or.inr ⟨j,by simp,hh⟩
       ·exact Or.inr ⟨q,yB _ hq,hh⟩
      ·rintro (hh | ⟨q,hq,hh⟩)
       ·exact Or.inl (Or.inl hh)
       ·rcases List.mem_cons.1 hq with rfl | hq
        ·exact Or.inl (Or.inr hh)
        ·exact Or.inr ⟨q,hq,hh⟩
     ·rcases List.mem_cons.1 hq with rfl | hq
      ·have e1:appD s' (clA c q.1)=f:=by rw [Jnq i2 (fun v hv=>(k3 v).2 (Or.inr hv)),k4]
       refine ⟨⟨by rw [e1];exact hf1,fun hv hk=>kf.2.2 ⟨hv,?_⟩⟩,?_⟩
       ·rw [← e1];exact hk
       ·rw [Jk0 i2 (fun i hi v hv=>(k3 v).2 (ht1 i hi v hv))];exact hJ
      ·exact i4 q hq
    ·simp at h
  ·rintro ⟨h1,h2,h3,h4⟩
   have hD:∀ v,Dm s' v↔(Dm s v∨v∈Jaq (clA c j.1))∨∃ q∈js,v∈Jaq (clA c q.1):=fun v=>by
    rw [h3];constructor
    ·rintro (hh | ⟨q,hq,hh⟩)
     ·exact Or.inl (Or.inl hh)
     ·rcases List.mem_cons.1 hq with rfl | hq
      ·exact Or.inl (Or.inr hh)
      ·exact Or.inr ⟨q,hq,hh⟩
    ·rintro ((hh | hh) | ⟨q,hq,hh⟩)
     ·exact Or.inl hh
     ·exact Or.inr ⟨j,by simp,hh⟩
     ·exact Or.inr ⟨q,yB _ hq,hh⟩
   let p:Int→Bool:=fun v=>(gotT s v).isSome || decide (v∈Jaq (clA c j.1))
   have hp:∀ v,p v=true↔Dm s v∨v∈Jaq (clA c j.1):=fun v=>by simp [p]
   let s1:Bn:=s'.filter fun q=>p q.1
   have g1:∀ v,gotT s1 v=if p v=true then gotT s' v else none:=gotT_filter h1.nk p
   have k1:SB s1:=List.Pairwise.sublist List.filter_sublist h1;have k2:∀ v z,gotT s v=some z→gotT s1 v=some z:=fun v z hz=>by rw [g1,if_pos ((hp v).2 (Or.inl (by rw [show Dm s v↔(gotT s v).isSome=true from Iff.rfl,hz];rfl)))];exact h2 _ _ hz
   have k3:∀ v,Dm s1 v↔Dm s v∨v∈Jaq (clA c j.1):=fun v=>by
    rw [← hp];show (gotT s1 v).isSome=true↔_;rw [g1]
    split
    ·rename_i hh;exact ⟨fun _=>hh,fun _=>(hD v).2 (Or.inl ((hp v).1 hh))⟩
    ·rename_i hh;exact ⟨fun h=>by simp at h,fun h=>absurd h hh⟩
   have i2:∀ v z,gotT s1 v=some z→gotT s' v=some z:=fun v z hz=>by
    rw [g1] at hz
    split at hz
    ·exact hz
    ·cases hz
   obtain ⟨⟨hb1,hb2⟩,hb3⟩:=h4 j (by simp);have e1:appD s' (clA c j.1)=appD s1 (clA c j.1):=Jnq i2 (fun v hv=>(k3 v).2 (Or.inr hv));have hm:Jct (clA c j.1) (appD s' (clA c j.1)) s=some s1:=(Jft hs).2 ⟨k1,⟨rfl,by simp [appD],fun hh=>hb2 hh.1 hh.2⟩,k2,k3,e1.symm⟩;unfold sols;refine List.mem_flatMap.2 ⟨_,(hF.mem _ _ _).2 ⟨hb1,matchB_pat hs hg hm⟩,?_⟩;rw [hm];simp only
   have ht3:tk c (Dm s1) js:=by
    have e:Dm s1=fun v=>Dm s v∨v∈Jaq (clA c j.1):=funext fun v=>propext (k3 v)
    rw [e];exact ht2
   rw [if_pos (by rw [← Jk0 i2 (fun i hi v hv=>(k3 v).2 (ht1 i hi v hv))];exact hb3)];refine (Jng hF k1 (hg.match hs (hF.gr _ _ hb1) hm) ht3).2 ⟨h1,i2,fun v=>?_,fun q hq=>h4 q (yB _ hq)⟩;rw [hD,show Dm s1 v↔_ from k3 v]
def bnG:Nat→List Tm→Bn
 | _,[]=>[]
 | k,t::ts=>((k:Int),t)::bnG (k+1) ts
abbrev bnV (r:List Tm):Bn:=bnG 0 r
theorem bnG_got:∀ (k:Nat) (r:List Tm) (v:Int),gotT (bnG k r) v=if (k:Int)≤v then r[(v - k).toNat]? else none
 | k,[],v=>by simp [bnG,gotT]
 | k,t::ts,v=>by
  unfold bnG gotT
  by_cases h:v=(k:Int)
  ·rw [if_pos h,if_pos (by omega)];simp [h]
  ·rw [if_neg h,bnG_got (k+1) ts v]
   by_cases h2:(k:Int)≤v
   ·rw [if_pos h2,if_pos (by omega)];have e:(v - (k:Int)).toNat=(v - ((k+1:Nat):Int)).toNat+1:=by omega
    rw [e,List.getElem?_cons_succ]
   ·rw [if_neg h2,if_neg (by omega)]
theorem bnG_low:∀ (k:Nat) (r:List Tm),∀ q∈bnG k r,(k:Int)≤q.1
 | _,[],q,h=>by simp [bnG] at h
 | k,t::ts,q,h=>by
  rcases List.mem_cons.1 h with rfl | h
  ·exact Int.le_refl _
  ·have:=bnG_low (k+1) ts q h;omega
theorem Jpp:∀ (k:Nat) (r:List Tm),SB (bnG k r)
 | _,[]=>List.Pairwise.nil
 | k,t::ts=>List.pairwise_cons.2 ⟨fun q hq=>by have:=bnG_low (k+1) ts q hq;show (k:Int)<q.1;omega,Jpp (k+1) ts⟩
theorem Jn3 (r:List Tm)(v:Int):gotT (bnV r) v=if 0≤v then r[v.toNat]? else none:=by
 have:=bnG_got 0 r v
 simpa using this
def valsB (n:Nat)(s:Bn):List Tm:=(List.range n).map fun v:Nat=>(gotT s (v:Int)).getD T0
theorem Jfh (n:Nat)(s:Bn):(valsB n s).length=n:=by simp [valsB]
theorem valsB_get {n:Nat}{s:Bn}{v:Nat}(h:v<n):(valsB n s)[v]?=some ((gotT s (v:Int)).getD T0):=by simp [valsB,h]
theorem Jow {n:Nat}{s:Bn}(hs:SB s)(hd:∀ v,Dm s v↔0≤v∧v<(n:Int)):bnV (valsB n s)=s:=by
 refine SB.ext (Jpp _ _) hs fun v=>?_
 rw [Jn3]
 by_cases h:Dm s v
 ·have h1:=(hd v).1 h;rw [if_pos h1.1,valsB_get (by omega),show ((v.toNat:Nat):Int)=v by omega];obtain ⟨z,hz⟩:=Option.isSome_iff_exists.1 h;rw [hz];rfl
 ·have hz:gotT s v=none:=by simpa using h
  rw [hz]
  split
  ·rename_i h0;refine xV ?_;rw [Jfh];have:¬ v<(n:Int):=fun h1=>h ((hd v).2 ⟨h0,h1⟩)
   omega
  ·rfl
theorem row_bnV {n:Nat}{r:List Tm}(h:r.length=n):valsB n (bnV r)=r:=by
 refine List.ext_getElem? fun i=>?_
 by_cases hi:i<n
 ·rw [valsB_get hi,Jn3,if_pos (by omega)];simp only [xN];rw [xD (by omega)];rfl
 ·rw [xV (by rw [Jfh];omega),xV (by omega)]
theorem bnV_dm {r:List Tm}(v:Int):Dm (bnV r) v↔0≤v∧v<(r.length:Int):=by
 show (gotT (bnV r) v).isSome=true↔_;rw [Jn3]
 split
 ·by_cases h:v.toNat<r.length
  ·rw [xD h];exact ⟨fun _=>by omega,fun _=>rfl⟩
  ·rw [xV (by omega)];exact ⟨fun h=>by simp at h,fun h=>by omega⟩
 ·exact ⟨fun h=>by simp at h,fun h=>by omega⟩
structure CVn (c:Cl) (n:Nat):Prop where
 body:∀ v,(∃ a∈c.bd,v∈Jaq a)↔0≤v∧v<(n:Int)
 ts:∀ t∈c.ts,∀ v∈varsT t,0≤v∧v<(n:Int)
 hd:∀ v∈Jaq c.hd,0≤v∧v<(n:Int)
structure PlanOK (c:Cl) (ahead:List Nat) (J:List (Nat × List Nat)):Prop where
 atoms:(J.map (·.1)).Perm (List.range c.bd.length)
 ab:∀ i∈ahead,i<c.ts.length
 jb:∀ j∈J,∀ i∈j.2,i<c.ts.length
 all:∀ i,i<c.ts.length→i∈ahead∨∃ j∈J,i∈j.2
 av:∀ i∈ahead,varsT (clT c i)=[]
 jv:tk c (fun _=>False) J
structure Sol (FF:Nat→At→Prop) (c:Cl) (n:Nat) (r:List Tm):Prop where
 len:r.length=n
 ts:∀ t∈c.ts,okT (bnV r) t=true
 bd:∀ i a,c.bd[i]?=some a→Jpo FF (bnV r) i a
def solsB (fnd:Nat→At→List At)(c:Cl)(ahead:List Nat)(J:List (Nat × List Nat)):List Bn:=if Je1 c ahead []=true then sols fnd c J [] else []
theorem Jnm {c:Cl}{i:Nat}{a:At}(h:c.bd[i]?=some a):clA c i=a:=by unfold clA;rw [yF,h];rfl
theorem Jpa {c:Cl}{i:Nat}{t:Ts}(h:c.ts[i]?=some t):clT c i=t:=by unfold clT;rw [yF,h];rfl
theorem PlanOK.at {c:Cl}{ahead:List Nat}{J:List (Nat × List Nat)}(h:PlanOK c ahead J)(i:Nat):(∃ j∈J,j.1=i)↔i<c.bd.length:=by
 have:=h.atoms.mem_iff (a:=i)
 simpa [xS] using this
theorem rows_sol {fnd:Nat→At→List At}{FF:Nat→At→Prop}(hF:FndOK fnd FF){c:Cl}{n:Nat}(hc:CVn c n){ahead:List Nat}{J:List (Nat × List Nat)}(hp:PlanOK c ahead J)(r:List Tm):
  r∈(solsB fnd c ahead J).map (valsB n)↔Sol FF c n r:=by
 have hgot0:∀ v z,gotT [] v=some z→False:=fun v z h=>by simp [gotT] at h
 have hD0:(Dm [])=fun _=>False:=funext fun v=>propext ⟨fun h=>(by have h2:(none:Option Tm).isSome=true:=h;exact Bool.noConfusion h2),fun h=>h.elim⟩
 have hdom:∀ v,(∃ j∈J,v∈Jaq (clA c j.1))↔0≤v∧v<(n:Int):=fun v=>by
  rw [← hc.body];constructor
  ·rintro ⟨j,hj,hv⟩;have hl:=(hp.at j.1).1 ⟨j,hj,rfl⟩;rw [Jnm (xD hl)] at hv;exact ⟨_,List.getElem_mem hl,hv⟩
  ·rintro ⟨a,ha,hv⟩;obtain ⟨i,hi⟩:=List.mem_iff_getElem?.1 ha;obtain ⟨j,hj,rfl⟩:=(hp.at i).2 (List.getElem?_eq_some_iff.1 hi).1;exact ⟨j,hj,by rw [Jnm hi];exact hv⟩
 have hah:∀ s,Je1 c ahead s=Je1 c ahead []:=fun s=>Jk0 (fun v z hz=>(hgot0 v z hz).elim) (fun i hi v hv=>by rw [hp.av i hi] at hv;cases hv)
 have key:∀ s,s∈solsB fnd c ahead J↔SB s∧(∀ v,Dm s v↔0≤v∧v<(n:Int))∧(∀ t∈c.ts,okT s t=true)∧∀ i a,c.bd[i]?=some a→Jpo FF s i a:=fun s=>by
  have hm:=Jng hF (c:=c) (J:=J) (s:=[]) (s':=s) List.Pairwise.nil (fun v z h=>(hgot0 v z h).elim) (by rw [hD0];exact hp.jv)
  have hm2:s∈solsB fnd c ahead J↔Je1 c ahead s=true∧s∈sols fnd c J []:=by
   unfold solsB;rw [hah s]
   split
   ·rename_i h;exact ⟨fun k=>⟨h,k⟩,fun k=>k.2⟩
   ·rename_i h;exact ⟨fun k=>by simp at k,fun k=>absurd k.1 h⟩
  rw [hm2,hm,hD0];constructor
  ·rintro ⟨h0,h1,_,h3,h4⟩;refine ⟨h1,fun v=>by rw [h3,← hdom];simp,fun t ht=>?_,fun i a hi=>?_⟩
   ·obtain ⟨i,hi⟩:=List.mem_iff_getElem?.1 ht;rcases hp.all i (List.getElem?_eq_some_iff.1 hi).1 with hh | ⟨j,hj,hh⟩
    ·have:=List.all_eq_true.1 h0 i hh;rwa [Jpa hi] at this
    ·have:=List.all_eq_true.1 (h4 j hj).2 i hh;rwa [Jpa hi] at this
   ·obtain ⟨j,hj,rfl⟩:=(hp.at i).2 (List.getElem?_eq_some_iff.1 hi).1;have:=(h4 j hj).1;rwa [Jnm hi] at this
  ·rintro ⟨h1,h2,h3,h4⟩
   have hall:∀ l:List Nat,(∀ i∈l,i<c.ts.length)→Je1 c l s=true:=fun l hl=>List.all_eq_true.2 fun i hi=>by
    have e:=xD (hl i hi);rw [Jpa e];exact h3 _ (List.getElem_mem _)
   refine ⟨hall _ hp.ab,h1,fun v z hz=>(hgot0 v z hz).elim,fun v=>by rw [h2,← hdom];simp,fun j hj=>⟨?_,hall _ (hp.jb j hj)⟩⟩;have hl:=(hp.at j.1).1 ⟨j,hj,rfl⟩;have e:=xD hl;have:=h4 j.1 _ e;rwa [Jnm e]
 constructor
 ·intro h;obtain ⟨s,hs,rfl⟩:=List.mem_map.1 h;obtain ⟨h1,h2,h3,h4⟩:=(key s).1 hs;have e:=Jow h1 h2;exact ⟨Jfh _ _,by rw [e];exact h3,by rw [e];exact h4⟩
 ·intro h;refine List.mem_map.2 ⟨bnV r,(key _).2 ⟨Jpp _ _,fun v=>by rw [bnV_dm,h.len],h.ts,h.bd⟩,row_bnV h.len⟩
end Go.Proofs.YtgebaodagaecmaaGreatDoor
