/- Contracts of functions of the program: what each returns and leaves in memory. Printed by gen.py and walk.py. -/
import Derived.Test.YtgebaodagaecmaaGreatDoorMg23
import Derived.Test.YtgebaodagaecmaaGreatDoorMg22
set_option maxRecDepth 10000
namespace Go.Proofs.YtgebaodagaecmaaGreatDoor
open Go Go.Hw
set_option linter.unusedSimpArgs false
set_option linter.unusedVariables false
theorem T.apB2:appB Tryz.prog 90 54 1 24=true:=by kernel_rfl
theorem heap_cells {w:World}{b:Nat}{cs:List Value}{T:TypeId}{f:Nat × Nat}(h:w.heap[b]?=some (.cells cs.toArray T f)):∀ j v,cs[j]?=some v→w.cell? ⟨b,j,none⟩=some v:=fun j v hj=>by
 simp [World.cell?,h,hj]
set_option maxHeartbeats 4000000 in
theorem bindings_calls (g:BaseG)(k:Nat)(F:List (At × Nat))(b:BS g k F)(hkk:k≤100000000000)(q:CG)(hs:CS q)(hv:VC q.cl)(lead:Option Nat)(hld:∀ l,lead=some l→l<q.cl.bd.length)(w0 w:World)(hk:Keeps w0 w)(hB:∀ b,DD (baseA g) b→w0.heap.size≤b)(hN:Jcy w0)(hr:RC w0 q)(aa:Option Addr)(ac:Nat)(ja:Option Addr)(jc:Nat)(js:List JG)(hpj:jnEq js (makeP q.cl lead))(hp:RPl w (baseA g) (⟨aa,ac,nI (Jbm q.cl),ja,jc,js⟩:PG))(hsl:(sols (fun i p=>Jcw F (Jbv i lead) p) q.cl (jnP (makeP q.cl lead)) []).length≤1048576)(hA:Holds (baseA g) w):
 Calls Tryz.prog 40 #[ptr g.p,cgV q,.int .i64 (leadI lead),pgV (⟨aa,ac,nI (Jbm q.cl),ja,jc,js⟩:PG)] w fun e w'=>∃ z:BaseG × Option Addr × Nat × List BG,e=.returned (.slice z.2.1 z.2.2.2.length z.2.2.1)∧((BS z.1 k F∧z.1.p=g.p)∧z.2.2.2.map (fun y=>sb y.ys)=solsB (fun i p=>Jcw F (Jbv i lead) p) q.cl (Jbm q.cl) (jnP (makeP q.cl lead))∧∀ y∈z.2.2.2,y.ys.length≤1048576)∧Turns (baseA g) (baseA z.1++(rowBB z.2.1 z.2.2.1 z.2.2.2::z.2.2.2.map bgA)) w w':=by
 have h0:w0.heap.size≤w.heap.size:=Nat.le_of_lt (Nat.lt_of_le_of_lt (hB _ (base_in g)) (base_lt hA))
 have hqb:q.cl.bd.length=q.bd.length:=List.length_map _
 have hal:(Jbm q.cl).length≤1048576:=by have h1:(Jbm q.cl).length≤q.ts.length:=Jep _ _;have:=hs.tl;omega
 have hj8:js.length≤8:=by rw [hpj.len,Jlt];exact hv.bl
 have hMk:∀ m∈makeP q.cl lead,∃ i,i<q.cl.bd.length∧m=stN q.cl lead (stP q.cl lead i):=fun m hm=>by
  obtain ⟨i,hi⟩:=List.mem_iff_getElem?.1 hm
  have h1:=(List.getElem?_eq_some_iff.1 hi).1
  rw [Jlt] at h1
  rw [makeP_at h1] at hi
  exact ⟨i,h1,(Option.some.inj hi).symm⟩
 have hMb:∀ m∈makeP q.cl lead,m.a<q.bd.length:=fun m hm=>by
  obtain ⟨i,hi,rfl⟩:=hMk m hm
  have hst:=stP_ok hld i (by omega)
  rw [← hqb]
  exact (pick1_ok hld hst.nd hst.jb (by rw [hst.len];exact hi)).2
 have hMt:∀ m∈makeP q.cl lead,∀ i∈m.ts,i<q.ts.length:=fun m hm i hi=>by
  obtain ⟨n,hn,rfl⟩:=hMk m hm
  exact (ts_new i hi).1
 have hMl:∀ m∈makeP q.cl lead,m.ts.length≤1048576:=fun m hm=>by
  obtain ⟨n,hn,rfl⟩:=hMk m hm
  have h1:(stN q.cl lead (stP q.cl lead n)).ts.length≤q.ts.length:=Jep _ _
  have:=hs.tl
  omega
 refine Jdl hA (args:=[ptr g.p,cgV q,.int .i64 (leadI lead),pgV (⟨aa,ac,nI (Jbm q.cl),ja,jc,js⟩:PG)]) Tryz.func40 rfl Tryz.ntmps40 rfl rfl ?_
 refine Csr (WL.box rfl rfl rfl ?_)
 intro b5
 refine WL.box rfl rfl rfl ?_
 intro b7
 refine Za rfl (Nn (WC.scope ?_))
 refine Cs (Csr (Zv (OV.lN (cs:=cgC q) rfl T.u32 rfl T.z32 (.tail _ (.head _))) (Zv (OV.f0 0 rfl T.u87 rfl) (Zv (OV.l1 (v:=.slice aa (nI (Jbm q.cl)).length ac) rfl T.u51 rfl (.head _) rfl) (WL.c0 (v:=.bool (Jej q.cl (Jbm q.cl) [])) (vs:=[cgV q,.slice aa (nI (Jbm q.cl)).length ac,.slice none 0 0]) (fun w' hw'=>Ji6 q hs (Jbm q.cl) aa ac [] none 0 hal (fun i hi=>(ahead_at hi).1) (by decide) w' (hN.keeps (Jb0 hk hB hw')) (hr.keeps (Jb0 hk hB hw')) (hp.al.satA hp.alne hw') (RBd.nil0 w')) ?_)))))
 refine Zv (OV.not rfl) (Nn ?_)
 refine Cc rfl (fun c20=>?_) (fun c20=>?_)
 ·refine Csr (Za rfl (Nn (WC.az ?_)))
  refine Xr (WX.fh ?_)
  exact WX.ret1 rfl rfl rfl (fun w' hw=>⟨(g,none,0,[]),rfl,⟨⟨b,rfl⟩,by unfold solsB;rw [if_neg (by rw [c20];simp)];rfl,fun y hy=>by cases hy⟩,by
   exact (((hw.pik [[oQ b7 (pgC (⟨aa,ac,nI (Jbm q.cl),ja,jc,js⟩:PG)) 87],[oQ b5 (cgC q) 32],baseA g] [2] 3).rowNil 54 1).perm (pmC [[row 54 1 none 0 0 []],baseA g] [1,0])).turned⟩)
 refine Ck (Xn (Cs (Csr (Zv (OV.f0 1 rfl T.u87 rfl) (Zv (OV.l1 (v:=.slice ja js.length jc) rfl T.u85 rfl (.head _) rfl) (Zv (OV.ae rfl T.u85) (Zv (OV.d0 rfl rfl) (Nn ?_))))))))
 refine Cc rfl (fun c24=>?_) (fun c24=>?_)
 ·refine Csr (WL.bn T.u90 T.z54 T.zr54 rfl rfl rfl ?_)
  intro b25
  refine Za rfl (Nn (WC.az ?_))
  refine Xr (WX.fh ?_)
  have hj0:js.length=0:=by omega
  have hJ0:(jnP (makeP q.cl lead))=[]:=List.eq_nil_of_length_eq_zero (by rw [show (jnP (makeP q.cl lead)).length=(makeP q.cl lead).length from List.length_map _,← hpj.len,hj0])
  exact WX.ret1 rfl rfl rfl (fun w' hw=>⟨(g,some ⟨b25,0,none⟩,1,[⟨[],none,0⟩]),rfl,⟨⟨b,rfl⟩,by unfold solsB;rw [if_pos c20,hJ0];rfl,fun y hy=>by simp only [List.mem_singleton] at hy;subst hy;decide⟩,by
   have h1:=(hw.pik [[oQ b25 [Value.slice none 0 0] 54],[oQ b7 (pgC (⟨aa,ac,nI (Jbm q.cl),ja,jc,js⟩:PG)) 87],[oQ b5 (cgC q) 32],baseA g] [0,3] 4).asRow (m:=1) (k:=1) rfl (by decide)
   have h2:=h1.rowNil 64 4
   exact (h2.perm (pmC [[row 64 4 none 0 0 []],[row 54 1 (some ⟨b25,0,none⟩) 1 1 [Value.slice none 0 0]],baseA g] [2,1,0])).turned⟩)
 refine Ck (Xn (Csr (Za rfl (Nn (Cs ?_)))))
 have hne0:0<js.length:=by omega
 obtain ⟨y0,hy0⟩:∃ y,js[0]?=some y:=⟨_,List.getElem?_eq_getElem hne0⟩
 obtain ⟨m0,hm0,hya0',hyt0,hJ0⟩:=jn_at hpj hy0
 have hya0:y0.a<q.bd.length:=by rw [hya0'];exact hMb m0 (List.mem_of_getElem? hm0)
 obtain ⟨bj,hbj⟩:∃ bj,ja=some bj:=by
  cases hja:ja with
  | none=>have:js.length=0:=hp.js.nil hja;omega
  | some bj=>exact ⟨bj,rfl⟩
 refine Hd (fun w'=>w'.heap[b5]?=some (.cells (cgC q).toArray 32 (0,0))∧w'.heap[b7]?=some (.cells (pgC (⟨aa,ac,nI (Jbm q.cl),ja,jc,js⟩:PG)).toArray 87 (0,0))∧RJ w' ja js) [] (fun _ hw=>⟨hw.it (oQ b5 (cgC q) 32) (by simp [cat]),hw.it (oQ b7 (pgC (⟨aa,ac,nI (Jbm q.cl),ja,jc,js⟩:PG)) 87) (by simp [cat]),(hp.js.satA hp.jsne hw)⟩) (m:=10) rfl ?_
 refine Hf 0 rfl (OV.aw rfl) (Ht 1 rfl (OV.ai (cs:=cgC q) rfl T.u32 rfl T.z32 (fun _ hw j v hj=>by rw [Jap,Nat.zero_add];exact heap_cells hw.1 j v hj)) (Hf 2 rfl (OV.aw rfl) (Hf 3 rfl (OV.f0 1 rfl T.u87 rfl) (Ht 4 rfl (OV.ah (v:=.slice ja js.length jc) rfl T.u85 rfl (fun _ hw=>(Jav hw.2.1 (o:=1) rfl).1)) (Hf 5 rfl ((OV.ad (show _=some (Value.slice (some bj) js.length jc) by rw [← hbj];rfl) rfl T.u85 T.z141 (by omega)).cast (u:=.pointer (some bj)) (by simp [Jd6])) (Ht 6 rfl (OV.ai (cs:=jgC y0) rfl T.u141 rfl T.z141 (fun _ hw j v hj=>by have h:=hw.2.2.at_ _ hbj 0 y0 hy0 j v hj;rwa [Nat.zero_mul,Jd6] at h)) (Ho 7 rfl (fl':=false) rfl ?_)))))))
 refine WL.focus (ow':=baseA g++(oQ b7 (pgC (⟨aa,ac,nI (Jbm q.cl),ja,jc,js⟩:PG)) 87::oQ b5 (cgC q) 32::[])) (pmC [[oQ b7 (pgC (⟨aa,ac,nI (Jbm q.cl),ja,jc,js⟩:PG)) 87],[oQ b5 (cgC q) 32],baseA g] [2,0,1]) ?_
 refine WL.cT (ι:=AnsA) (vs:=[ptr g.p,cgV q,.int .i64 (leadI lead),.agg (jgC y0).toArray,.slice none ([]:List Bd).length 0]) (vv:=fun z=>.agg (lvC ⟨z.a,z.c,z.ys,0,⟨([]:List Bd),none,0⟩⟩).toArray) (pp:=fun z=>z.ys.map AG.x=Jcw F (Jbv y0.a lead) (appD (sb ([]:List Bd)) (clA q.cl y0.a))∧BS z.g k F∧z.g.p=g.p∧(∀ y∈z.ys,y.x.args.length≤8)∧z.ys.length≤k) (baseA g) (AA:=fun z=>baseA z.g++atsA z.a z.c z.ys) rfl (fun w' hw' hH=>by
  have h9:=enter_calls g k F b hkk q hs lead y0 hya0 ⟨([]:List Bd),none,0⟩ (by decide) w0 w' (Jb0 hk hB hw') (newer hB h0 (show Sat w _ _ w (baseA g++(oQ b7 (pgC (⟨aa,ac,nI (Jbm q.cl),ja,jc,js⟩:PG)) 87::oQ b5 (cgC q) 32::[])) w' from hw')) hN hr (RBd.nil0 w') (fun p hp=>by cases hp) hH
  rw [show g.p=g.p from rfl] at h9
  exact h9) ?_
 rintro z1 ⟨hz1,bs1,hp1,hz8,hzk⟩
 refine Hc (fun _=>(fun _ hw=>⟨hw.it (oQ b5 (cgC q) 32) (by simp [cat]),hw.it (oQ b7 (pgC (⟨aa,ac,nI (Jbm q.cl),ja,jc,js⟩:PG)) 87) (by simp [cat]),(hp.js.satA hp.jsne hw)⟩)) ?_
 refine Ho 8 rfl (fl':=false) rfl ?_
 refine WL.bh (cs:=lvC ⟨z1.a,z1.c,z1.ys,0,⟨[],none,0⟩⟩) T.u147 T.z145 T.zr145 rfl rfl (by omega) (by omega) rfl ?_
 intro b34
 refine Hc (fun _=>(fun _ hw=>⟨hw.it (oQ b5 (cgC q) 32) (by simp [cat]),hw.it (oQ b7 (pgC (⟨aa,ac,nI (Jbm q.cl),ja,jc,js⟩:PG)) 87) (by simp [cat]),(hp.js.satA hp.jsne hw)⟩)) ?_
 refine Hf 9 rfl (OV.assign rfl) (He (Xn (Cs (WC.label ?_))))
 refine Xn (Cs (Cb ?_))
 have hrem0:=remV_new (fnd:=(fun i p=>Jcw F (Jbv i lead) p)) (c:=q.cl) hJ0 (l:=⟨z1.a,z1.c,z1.ys,0,⟨[],none,0⟩⟩) rfl (by rw [hz1,hya0'])
 refine WC.weak (S':=SatA w (baseA g) (oQ b7 (pgC (⟨aa,ac,nI (Jbm q.cl),ja,jc,js⟩:PG)) 87::oQ b5 (cgC q) 32::rowBB none 0 ([]:List BG)::rowL (some ⟨b34,0,none⟩) 1 [⟨z1.a,z1.c,z1.ys,0,⟨[],none,0⟩⟩]::(baseA z1.g++(([]:List BG).map bgA++[⟨z1.a,z1.c,z1.ys,0,⟨[],none,0⟩⟩].flatMap lvI)))) (fun w' hw=>?_) ?_
 ·have h1:=(hw.asRow (m:=1) (k:=3) rfl (by decide)).rowNil 54 1
  have h2:=h1.rowNil 64 4
  exact h2.perm ((List.Perm.of_eq (by simp [cat,lvI,rowAt];exact ⟨rfl,rfl,rfl⟩)).trans (pmC [[row 64 4 none 0 0 []],[row 54 1 none 0 0 []],[row 145 3 (some ⟨b34,0,none⟩) 1 1 (lvC ⟨z1.a,z1.c,z1.ys,0,⟨[],none,0⟩⟩)],(baseA z1.g++atsA z1.a z1.c z1.ys),[oQ b7 (pgC (⟨aa,ac,nI (Jbm q.cl),ja,jc,js⟩:PG)) 87],[oQ b5 (cgC q) 32]] [4,5,1,2,3,0]))
 refine WC.loop7 (fun (gk:BaseG) (oa:Option Addr) (oc:Nat) (bo:List BG) (la:Option Addr) (lc:Nat) (lv:List LV)=>[(0,ptr g.p),(2,.int .i64 (leadI lead)),(5,.pointer (some ⟨b5,0,none⟩)),(7,.pointer (some ⟨b7,0,none⟩)),(9,.slice oa bo.length oc),(10,.slice la lv.length lc)])
   (fun gk oa oc bo la lc lv w'=>(BS gk k F∧gk.p=g.p∧lv.length≤js.length∧bo.map (fun y=>sb y.ys)++remL (fun i p=>Jcw F (Jbv i lead) p) q.cl (jnP (makeP q.cl lead)) 0 lv=(sols (fun i p=>Jcw F (Jbv i lead) p) q.cl (jnP (makeP q.cl lead)) [])∧(∀ i l,lv[i]?=some l→LVok (fun i p=>Jcw F (Jbv i lead) p) q.cl (jnP (makeP q.cl lead)) k i l)∧∀ y∈bo,y.ys.length≤1048576)∧SatA w (baseA g) (oQ b7 (pgC (⟨aa,ac,nI (Jbm q.cl),ja,jc,js⟩:PG)) 87::oQ b5 (cgC q) 32::rowBB oa oc bo::rowL la lc lv::(baseA gk++(bo.map bgA++lv.flatMap lvI))) w')
   (fun _ _ _ _ _ _ lv=>cstL (fun i p=>Jcw F (Jbv i lead) p) q.cl (jnP (makeP q.cl lead)) 0 lv) z1.g none 0 [] (some ⟨b34,0,none⟩) 1 [⟨z1.a,z1.c,z1.ys,0,⟨[],none,0⟩⟩] Y6 (fun w' hw=>⟨⟨bs1,hp1,by show 1≤_;omega,?_,?_,fun y hy=>by cases hy⟩,hw⟩) ?_
 ·show []++([]++remV _ _ _ 0 _)=_
  rw [hrem0.1];rfl
 ·intro i l hl
  have hi0:i=0:=by have:=(List.getElem?_eq_some_iff.1 hl).1;simp at this;omega
  subst hi0
  simp only [List.getElem?_cons_zero,Option.some.injEq] at hl
  subst hl
  exact ⟨⟨_,hJ0,by show z1.ys.map AG.x=Jcw F (Jbv m0.a lead) (appD (sb []) (clA q.cl m0.a));rw [hz1,hya0']⟩,hz8,hzk,Nat.zero_le _,List.Pairwise.nil,fun v hv=>by simp [Dm,sb,gotT] at hv⟩
 intro gk oa oc bo la lc lv
 refine WC.pure (fun hF=>?_)
 obtain ⟨bsk,hgp,hlvl,hsol,hlvs,hbo⟩:=hF
 have hbl:bo.length≤1048576:=by
  have h1:=congrArg List.length hsol
  rw [List.length_append,List.length_map] at h1
  omega
 refine Cs (Csr (Zm rfl (Zv (OV.ae rfl T.u147) (Zv (OV.k7 rfl rfl) (Nn ?_)))))
 refine Cc rfl (fun c37=>?_) (fun c37=>?_)
 ·refine Ck (Xn (Cb (Cs ?_)))
  obtain ⟨lv0,l,rfl⟩:∃ lv0 l,lv=lv0++[l]:=by
   rcases List.eq_nil_or_concat lv with h | ⟨a,b,h⟩
   ·rw [h] at c37;exact absurd c37 (by simp)
   ·exact ⟨a,b,by rw [h,List.concat_eq_append]⟩
  have hll:(lv0++[l]).length=lv0.length+1:=by simp
  refine WC.mq (fun w' hw'=>Jeh (hw'.it (rowL la lc (lv0++[l])) (.tail _ (.tail _ (.tail _ (.head _))))) (by omega)) (fun hqq=>?_)
  obtain ⟨bl,hbl⟩:=hqq
  subst hbl
  refine WC.mq (fun w' hw'=>(Jdt (show Sat w _ _ w (oQ b7 (pgC (⟨aa,ac,nI (Jbm q.cl),ja,jc,js⟩:PG)) 87::oQ b5 (cgC q) 32::rowBB oa oc bo::rowL (some ⟨bl,0,none⟩) lc (lv0++[l])::(baseA gk++(bo.map bgA++(lv0++[l]).flatMap lvI))) w' from hw') (.tail _ (.tail _ (.tail _ (.head _))))).2) (fun hlcc=>?_)
  have hlc:lv0.length+1≤lc:=by
   rcases hlcc with ⟨h,_⟩ | ⟨_,_,h⟩
   ·cases h
   ·omega
  have hlv:LVok (fun i p=>Jcw F (Jbv i lead) p) q.cl (jnP (makeP q.cl lead)) k lv0.length l:=hlvs lv0.length l (by simp)
  obtain ⟨y,hy⟩:∃ y,js[lv0.length]?=some y:=⟨_,List.getElem?_eq_getElem (by omega)⟩
  obtain ⟨m,hm,hyam,hyt,hJm⟩:=jn_at hpj hy
  have hyab:y.a<q.bd.length:=by rw [hyam];exact hMb m (List.mem_of_getElem? hm)
  have hmts:∀ i∈m.ts,i<q.ts.length:=hMt m (List.mem_of_getElem? hm)
  have hmtl:m.ts.length≤1048576:=hMl m (List.mem_of_getElem? hm)
  have hjat:jAt (jnP (makeP q.cl lead)) lv0.length=(m.a,m.ts):=jAt_of hJm
  obtain ⟨bb,z,hbb,hz,hzm,_,_⟩:=hr.bd.get hyab
  have hzc:clA q.cl m.a=z.x:=by rw [← hyam];exact Jna hz
  have hz8:=hs.at_ z (Or.inr hzm)
  have hz88:z.x.args.length≤8:=hv.args (List.mem_map.2 ⟨z,hzm,rfl⟩)
  have hs72:=hlv.s72
  rw [hll]
  refine WC.weak (S':=SatA w (baseA g) (oQ b7 (pgC (⟨aa,ac,nI (Jbm q.cl),ja,jc,js⟩:PG)) 87::oQ b5 (cgC q) 32::rowBB oa oc bo::row 145 3 (some ⟨bl,0,none⟩) (lv0.length+1) lc ((lv0++[l]).flatMap lvC)::(baseA gk++(bo.map bgA++(lv0++[l]).flatMap lvI)))) (fun w' hw=>by
   have hrl:rowL (some ⟨bl,0,none⟩) lc (lv0++[l])=row 145 3 (some ⟨bl,0,none⟩) (lv0.length+1) lc ((lv0++[l]).flatMap lvC):=by
    show row 145 3 _ (lv0++[l]).length _ _=_
    rw [hll]
   rw [hrl] at hw
   exact hw) ?_
  refine Cr (Zm rfl (Zm rfl (Zv (OV.ae rfl T.u147) (Zv ((OV.mr rfl rfl (by omega)).cast (u:=.int .i64 ((lv0.length:Nat):Int)) (by congr 1;omega)) (Zv ((OV.ad rfl rfl T.u147 T.z145 (by omega)).cast (u:=.pointer (some ((⟨bl,0,none⟩:Addr).add (lv0.length*3)))) (by rw [Int.toNat_natCast])) (Za rfl (Nn (Csr (Zv (OV.f0 1 rfl T.u87 rfl) (Zv (OV.l1 (v:=.slice ja js.length jc) rfl T.u85 rfl (.head _) rfl) (Zm rfl (Zv (OV.ae rfl T.u147) (Zv ((OV.mr rfl rfl (by omega)).cast (u:=.int .i64 ((lv0.length:Nat):Int)) (by congr 1;omega)) (Zv ((OV.ad (show _=some (Value.slice (some bj) js.length jc) by rw [← hbj];rfl) rfl T.u85 T.z141 (by omega)).cast (u:=.pointer (some (bj.add (lv0.length*3)))) (by rw [Int.toNat_natCast])) (Zv (OV.ai (cs:=jgC y) rfl T.u141 rfl T.z141 (fun _ hw j v hj=>((hp.js.satA hp.jsne hw)).at_ _ hbj lv0.length y hy j v hj)) (WL.alloc T.zr141 rfl ?_))))))))))))))))
  intro b12
  refine WL.ag (vs:=jgC y) rfl rfl rfl T.z141 rfl ?_
  refine Nn (Cs (Cb ?_))
  have hlvl':lv0.length+1≤js.length:=by rw [hll] at hlvl;exact hlvl
  refine WC.mq (pr:=(l.a=none→l.ys.length=0)) (fun w' hw' hnn=>by
   have hmm:rowAt l.a l.c l.ys∈(lv0++[l]).flatMap lvI:=by rw [List.flatMap_append];exact List.mem_append_right _ (by simp)
   rcases (Jdt (show Sat w _ _ w (oQ b12 (jgC y) 141::oQ b7 (pgC (⟨aa,ac,nI (Jbm q.cl),ja,jc,js⟩:PG)) 87::oQ b5 (cgC q) 32::rowBB oa oc bo::row 145 3 (some ⟨bl,0,none⟩) (lv0.length+1) lc ((lv0++[l]).flatMap lvC)::(baseA gk++(bo.map bgA++(lv0++[l]).flatMap lvI))) w' from hw') (.tail _ (.tail _ (.tail _ (.tail _ (.tail _ (List.mem_append_right _ (List.mem_append_right _ hmm)))))))).2 with ⟨_,h2,_⟩ | ⟨_,h2,_⟩
   ·exact h2
   ·rw [hnn] at h2;cases h2) (fun hlan=>?_)
  refine WC.weak (S':=SatA w (baseA g) (oQ b12 (jgC y) 141::oQ b7 (pgC (⟨aa,ac,nI (Jbm q.cl),ja,jc,js⟩:PG)) 87::oQ b5 (cgC q) 32::rowBB oa oc bo::row 145 3 (some ⟨bl,0,none⟩) (lv0.length+1) lc ((lv0++[(LVt l l.tr)]).flatMap lvC)::(baseA gk++(bo.map bgA++(lv0.flatMap lvI++lvI l))))) (fun w' hw=>hw.perm (List.Perm.of_eq (by simp [List.flatMap_append]))) ?_
  refine WC.cg (fun (t:Nat)=>[(0,ptr g.p),(2,.int .i64 (leadI lead)),(5,.pointer (some ⟨b5,0,none⟩)),(7,.pointer (some ⟨b7,0,none⟩)),(9,.slice oa bo.length oc),(10,.slice (some ⟨bl,0,none⟩) (lv0.length+1) lc),(11,.pointer (some ((⟨bl,0,none⟩:Addr).add (lv0.length*3)))),(12,.pointer (some ⟨b12,0,none⟩))])
    (fun t w'=>(l.tr≤t∧t≤l.ys.length∧remL (fun i p=>Jcw F (Jbv i lead) p) q.cl (jnP (makeP q.cl lead)) 0 (lv0++[l])=remL (fun i p=>Jcw F (Jbv i lead) p) q.cl (jnP (makeP q.cl lead)) 0 (lv0++[(LVt l t)])∧cstV (fun i p=>Jcw F (Jbv i lead) p) q.cl (jnP (makeP q.cl lead)) lv0.length (LVt l t)≤cstV (fun i p=>Jcw F (Jbv i lead) p) q.cl (jnP (makeP q.cl lead)) lv0.length l)∧SatA w (baseA g) (oQ b12 (jgC y) 141::oQ b7 (pgC (⟨aa,ac,nI (Jbm q.cl),ja,jc,js⟩:PG)) 87::oQ b5 (cgC q) 32::rowBB oa oc bo::row 145 3 (some ⟨bl,0,none⟩) (lv0.length+1) lc ((lv0++[(LVt l t)]).flatMap lvC)::(baseA gk++(bo.map bgA++(lv0.flatMap lvI++lvI l)))) w')
    (fun t=>l.ys.length - t) l.tr Y8 (fun w' hw=>⟨⟨Nat.le_refl _,hlv.tr,rfl,Nat.le_refl _⟩,hw⟩) ?_
  intro t
  refine WC.pure (fun ht=>?_)
  obtain ⟨ht0,ht,hremt,hcst⟩:=ht
  have hlk:=hlv.len
  have hlvx:∀ t',t'≤l.ys.length→∀ i x,(lv0++[LVt l t'])[i]?=some x→LVok (fun i p=>Jcw F (Jbv i lead) p) q.cl (jnP (makeP q.cl lead)) k i x:=fun t' ht' i x hx=>by
   rcases Nat.lt_or_ge i lv0.length with h | h
   ·rw [List.getElem?_append_left h] at hx
    exact hlvs i x (by rw [List.getElem?_append_left h];exact hx)
   ·have hi0:i=lv0.length:=by have:=(List.getElem?_eq_some_iff.1 hx).1;simp at this;omega
    subst hi0
    simp at hx
    subst hx
    exact hlv.at_ ht'
  refine Cs (Cs (Hq [] (m:=10) rfl ?_))
  refine Hf 0 rfl (OV.aw rfl) (Hf 1 rfl (OV.ak (a:=(⟨bl,0,none⟩:Addr).add (lv0.length*3)) rfl) (Hf 2 rfl ((OV.fieldAddrA (off:=1) rfl T.u145 rfl).cast (u:=.pointer (some (((⟨bl,0,none⟩:Addr).add (lv0.length*3)).add 1))) (rfl)) (Ht 3 rfl (OV.ah (v:=.int .i64 (t:Int)) rfl T.u3 rfl (fun _ hw=>by have h:=Jk9 (lv:=lv0++[(LVt l t)]) (i:=lv0.length) (l:=(LVt l t)) hw (.tail _ (.tail _ (.tail _ (.tail _ (.head _))))) (by simp) (j:=1) rfl;exact h)) (Hf 4 rfl (OV.aw rfl) (Hf 5 rfl (OV.ak (a:=(⟨bl,0,none⟩:Addr).add (lv0.length*3)) rfl) (Hf 6 rfl ((OV.fieldAddrA (off:=0) rfl T.u145 rfl).cast (u:=.pointer (some ((⟨bl,0,none⟩:Addr).add (lv0.length*3)))) (by rw [Jd6])) (Ht 7 rfl (OV.ah (v:=.slice l.a l.ys.length l.c) rfl T.u22 rfl (fun _ hw=>by have h:=Jk9 (lv:=lv0++[(LVt l t)]) (i:=lv0.length) (l:=(LVt l t)) hw (.tail _ (.tail _ (.tail _ (.tail _ (.head _))))) (by simp) (j:=0) rfl;rwa [Jd6] at h)) (Hf 8 rfl (OV.ae rfl T.u22) (Hf 9 rfl (OV.cm rfl rfl) (He (Xn ?_)))))))))))
  refine Cc rfl (fun c59=>?_) (fun c59=>?_)
  ·refine Ck (Xn (Cb (Cs ?_)))
   obtain ⟨u,hu⟩:∃ u,l.ys[t]?=some u:=⟨_,List.getElem?_eq_getElem (by omega)⟩
   have hu8:=hlv.a8 u (List.mem_of_getElem? hu)
   obtain ⟨bf,hbf⟩:∃ bf,l.a=some bf:=by
    cases hla:l.a with
    | none=>
     exact absurd hlan (by rw [hla];intro h;have:=h rfl;omega)
    | some bf=>exact ⟨bf,rfl⟩
   have hrn:=remV_next (fnd:=(fun i p=>Jcw F (Jbv i lead) p)) (c:=q.cl) (J:=(jnP (makeP q.cl lead))) (i:=lv0.length) hu
   have hcn:=cstV_next (fnd:=(fun i p=>Jcw F (Jbv i lead) p)) (c:=q.cl) (J:=(jnP (makeP q.cl lead))) (i:=lv0.length) hu
   rw [hjat] at hrn hcn
   refine Hd (SatA w (baseA g) (oQ b12 (jgC y) 141::oQ b7 (pgC (⟨aa,ac,nI (Jbm q.cl),ja,jc,js⟩:PG)) 87::oQ b5 (cgC q) 32::rowBB oa oc bo::row 145 3 (some ⟨bl,0,none⟩) (lv0.length+1) lc ((lv0++[(LVt l t)]).flatMap lvC)::(baseA gk++(bo.map bgA++(lv0.flatMap lvI++lvI l))))) [] (fun _ hw=>by first | exact hw | exact hw.drop) (m:=12) rfl ?_
   refine Hf 0 rfl (OV.aw rfl) (Hf 1 rfl (OV.ak (a:=(⟨bl,0,none⟩:Addr).add (lv0.length*3)) rfl) (Hf 2 rfl ((OV.fieldAddrA (off:=0) rfl T.u145 rfl).cast (u:=.pointer (some ((⟨bl,0,none⟩:Addr).add (lv0.length*3)))) (by rw [Jd6])) (Ht 3 rfl (OV.ah (v:=.slice l.a l.ys.length l.c) rfl T.u22 rfl (fun _ hw=>by have h:=Jk9 (lv:=lv0++[(LVt l t)]) (i:=lv0.length) (l:=(LVt l t)) hw (.tail _ (.tail _ (.tail _ (.tail _ (.head _))))) (by simp) (j:=0) rfl;rwa [Jd6] at h)) (Hf 4 rfl (OV.aw rfl) (Hf 5 rfl (OV.ak (a:=(⟨bl,0,none⟩:Addr).add (lv0.length*3)) rfl) (Hf 6 rfl ((OV.fieldAddrA (off:=1) rfl T.u145 rfl).cast (u:=.pointer (some (((⟨bl,0,none⟩:Addr).add (lv0.length*3)).add 1))) (rfl)) (Ht 7 rfl (OV.ah (v:=.int .i64 (t:Int)) rfl T.u3 rfl (fun _ hw=>by have h:=Jk9 (lv:=lv0++[(LVt l t)]) (i:=lv0.length) (l:=(LVt l t)) hw (.tail _ (.tail _ (.tail _ (.tail _ (.head _))))) (by simp) (j:=1) rfl;exact h)) (Hf 8 rfl ((OV.ad (show _=some (Value.slice (some bf) l.ys.length l.c) by rw [← hbf];rfl) rfl T.u22 T.z29 (by omega)).cast (u:=.pointer (some (bf.add (t*5)))) (by rw [Int.toNat_natCast])) (Ht 9 rfl (OV.ai (cs:=agC u) rfl T.u29 rfl T.z29 (fun _ hw j v hj=>(RA.of_row (a:=l.a) (c:=l.c) hw (fun i hi=>(.tail _ (.tail _ (.tail _ (.tail _ (.tail _ (List.mem_append_right _ (List.mem_append_right _ (List.mem_append_right _ ((List.mem_append_left [bgA l.s] hi:i∈atsA l.a l.c l.ys++[bgA l.s])))))))))))).at_ _ hbf t u hu j v hj)) (Ho 10 rfl (fl':=false) rfl ?_))))))))))
   refine WL.alloc T.zr29 rfl ?_
   intro b13
   refine Hc (fun _=>(fun _ hw=>by first | exact hw | exact hw.drop)) ?_
   refine Ho 11 rfl (fl':=false) rfl ?_
   refine WL.ag (vs:=atC u.x u.a u.c) rfl rfl rfl T.z29 rfl ?_
   refine Hc (fun _=>(fun _ hw=>by first | exact hw | exact hw.drop)) ?_
   refine He (Xn (Csr (Zm rfl (Zv (OV.ak (a:=(⟨bl,0,none⟩:Addr).add (lv0.length*3)) rfl) (Zv ((OV.fieldAddrA (off:=1) rfl T.u145 rfl).cast (u:=.pointer (some (((⟨bl,0,none⟩:Addr).add (lv0.length*3)).add 1))) (rfl)) (Zv (OV.ah (v:=.int .i64 (t:Int)) rfl T.u3 rfl (fun _ hw=>by have h:=Jk9 (lv:=lv0++[(LVt l t)]) (i:=lv0.length) (l:=(LVt l t)) hw (.tail _ (.tail _ (.tail _ (.tail _ (.tail _ (.head _)))))) (by simp) (j:=1) rfl;exact h)) (Zv (OV.bi (j:=1) rfl rfl (by omega)) (Zv (OV.ak (a:=(⟨bl,0,none⟩:Addr).add (lv0.length*3)) rfl) (Zv ((OV.fieldAddrA (off:=1) rfl T.u145 rfl).cast (u:=.pointer (some ⟨bl,lv0.length*3+1,none⟩)) (by rw [Jap,Jap,Nat.zero_add])) ?_)))))))))
   refine WL.focus perm5 (WL.storeRow (o:=lv0.length*3+1) rfl rfl rfl rfl T.z3 (by rw [Jc1 Jnh];simp;omega) ?_)
   rw [lv_set]
   refine WL.focus (ow':=oQ b13 (atC u.x u.a u.c) 29::oQ b12 (jgC y) 141::oQ b7 (pgC (⟨aa,ac,nI (Jbm q.cl),ja,jc,js⟩:PG)) 87::oQ b5 (cgC q) 32::rowBB oa oc bo::row 145 3 (some ⟨bl,0,none⟩) (lv0.length+1) lc ((lv0++[(LVt l (t+1))]).flatMap lvC)::(baseA gk++(bo.map bgA++(lv0.flatMap lvI++lvI l)))) (pmC [[row 145 3 (some ⟨bl,0,none⟩) (lv0.length+1) lc ((lv0++[(LVt l (t+1))]).flatMap lvC)],[oQ b13 (atC u.x u.a u.c) 29],[oQ b12 (jgC y) 141],[oQ b7 (pgC (⟨aa,ac,nI (Jbm q.cl),ja,jc,js⟩:PG)) 87],[oQ b5 (cgC q) 32],[rowBB oa oc bo],(baseA gk++(bo.map bgA++(lv0.flatMap lvI++lvI l)))] [1,2,3,4,5,0,6]) ?_
   refine Nn (Cs (Hd (SatA w (baseA g) (oQ b13 (atC u.x u.a u.c) 29::oQ b12 (jgC y) 141::oQ b7 (pgC (⟨aa,ac,nI (Jbm q.cl),ja,jc,js⟩:PG)) 87::oQ b5 (cgC q) 32::rowBB oa oc bo::row 145 3 (some ⟨bl,0,none⟩) (lv0.length+1) lc ((lv0++[(LVt l (t+1))]).flatMap lvC)::(baseA gk++(bo.map bgA++(lv0.flatMap lvI++lvI l))))) [] (fun _ hw=>by first | exact hw | exact hw.drop) (m:=17) rfl ?_))
   refine Hf 0 rfl (OV.f0 5 rfl T.u32 rfl) (Ht 1 rfl (OV.l1 (v:=.slice q.ba q.bd.length q.bc) rfl T.u22 rfl (.tail _ (.tail _ (.tail _ (.head _)))) rfl) (Hf 2 rfl (OV.f0 0 rfl T.u141 rfl) (Ht 3 rfl (OV.l1 (v:=.int .i64 (y.a:Int)) rfl T.u3 rfl (.tail _ (.head _)) rfl) (Hf 4 rfl ((OV.ad (show _=some (Value.slice (some bb) q.bd.length q.bc) by rw [← hbb];rfl) rfl T.u22 T.z29 (by omega)).cast (u:=.pointer (some (bb.add (y.a*5)))) (by rw [Int.toNat_natCast])) (Ht 5 rfl (OV.ai (cs:=atC z.x z.a z.c) rfl T.u29 rfl T.z29 (fun _ hw j v hj=>(hr.keeps (Jb0 hk hB hw)).bd.at_ _ hbb y.a z hz j v hj)) (Ht 6 rfl (OV.lN (cs:=atC u.x u.a u.c) rfl T.u29 rfl T.z29 (.head _)) (Hf 7 rfl (OV.aw rfl) (Hf 8 rfl (OV.ak (a:=(⟨bl,0,none⟩:Addr).add (lv0.length*3)) rfl) (Hf 9 rfl ((OV.fieldAddrA (off:=2) rfl T.u145 rfl).cast (u:=.pointer (some (((⟨bl,0,none⟩:Addr).add (lv0.length*3)).add 2))) (rfl)) (Ht 10 rfl (OV.ah (v:=.slice l.s.a l.s.ys.length l.s.c) rfl T.u54 rfl (fun _ hw=>by have h:=Jk9 (lv:=lv0++[(LVt l (t+1))]) (i:=lv0.length) (l:=(LVt l (t+1))) hw (.tail _ (.tail _ (.tail _ (.tail _ (.tail _ (.head _)))))) (by simp) (j:=2) rfl;exact h)) (Ho 11 rfl (fl':=false) rfl ?_)))))))))))
   refine WL.cT (ι:=Option Addr × Nat × List Bd) (vs:=[atV z.x z.a z.c,atV u.x u.a u.c,.slice l.s.a l.s.ys.length l.s.c]) (vv:=fun m=>.tuple #[.slice m.1 m.2.2.length m.2.1,.bool (Jcx z.x u.x (sb l.s.ys)).isSome]) (pp:=fun m=>∀ s',(Jcx z.x u.x (sb l.s.ys))=some s'→sb m.2.2=s') [] (AA:=fun m=>[rowB m.1 m.2.1 m.2.2]) rfl (fun w' hw' _=>(match2_calls z.x u.x l.s.ys z.a u.a l.s.a z.c u.c l.s.c (by omega) (by omega) hlv.sb w' ((hr.keeps (Jb0 hk hB hw')).bd.args _ (List.mem_of_getElem? hz)) (RT.of_row (c:=u.c) rfl (show SatA w (baseA g) (oQ b13 (atC u.x u.a u.c) 29::oQ b12 (jgC y) 141::oQ b7 (pgC (⟨aa,ac,nI (Jbm q.cl),ja,jc,js⟩:PG)) 87::oQ b5 (cgC q) 32::rowBB oa oc bo::row 145 3 (some ⟨bl,0,none⟩) (lv0.length+1) lc ((lv0++[(LVt l (t+1))]).flatMap lvC)::(baseA gk++(bo.map bgA++(lv0.flatMap lvI++lvI l)))) w' from hw') (.tail _ (.tail _ (.tail _ (.tail _ (.tail _ (.tail _ (List.mem_append_right _ (List.mem_append_right _ (List.mem_append_right _ (.tail _ (List.mem_append_left _ (List.mem_map.2 ⟨u,List.mem_of_getElem? hu,rfl⟩))))))))))))) (RBd.of_row (c:=l.s.c) (show SatA w (baseA g) (oQ b13 (atC u.x u.a u.c) 29::oQ b12 (jgC y) 141::oQ b7 (pgC (⟨aa,ac,nI (Jbm q.cl),ja,jc,js⟩:PG)) 87::oQ b5 (cgC q) 32::rowBB oa oc bo::row 145 3 (some ⟨bl,0,none⟩) (lv0.length+1) lc ((lv0++[(LVt l (t+1))]).flatMap lvC)::(baseA gk++(bo.map bgA++(lv0.flatMap lvI++lvI l)))) w' from hw') (.tail _ (.tail _ (.tail _ (.tail _ (.tail _ (.tail _ (List.mem_append_right _ (List.mem_append_right _ (List.mem_append_right _ (.tail _ (List.mem_append_right _ (.head _)))))))))))))).mono (fun en w'' ⟨ma,mc,zs,h1,h2,h3⟩=>⟨(ma,mc,zs),h1,h2,h3⟩)) ?_
   rintro ⟨ma,mc,zs⟩ hms
   refine Hc (fun _=>(fun _ hw=>by first | exact hw | exact hw.drop)) ?_
   refine Hf 12 rfl (OV.aw rfl) (Hf 13 rfl (OV.extract rfl rfl) (Hf 14 rfl (OV.extract rfl rfl) (Hf 15 rfl (OV.assign rfl) (Hf 16 rfl (OV.assign rfl) (He (Xn (Cs (Csr (Zm rfl (Zv (OV.not rfl) (Zm rfl ?_)))))))))))
   refine Zp (t:=94) rfl (fun g94=>?_) (fun g94=>?_)
   ·refine Zs rfl rfl rfl (Zs rfl rfl rfl (Zs rfl rfl rfl (Zs rfl rfl rfl (Zs rfl rfl rfl (Zs rfl rfl rfl (Zv (OV.am rfl rfl) (Nn (WC.cj (show _=some (Value.bool true) from by rfl) ?_))))))))
    refine Ce (Xe (Xh ?_))
    have hmn:Jcx (clA q.cl m.a) u.x (sb l.s.ys)=none:=by
     rw [hzc]
     cases hmm:(Jcx z.x u.x (sb l.s.ys)) with
     | none=>rfl
     | some s'=>rw [hmm] at g94;exact absurd g94 (by simp)
    rw [step_none (c:=q.cl) (j:=(m.a,m.ts)) hmn,List.nil_append] at hrn
    exact WX.bg (t+1) Y8 (fun w' hw=>⟨⟨by omega,by omega,by rw [hremt,Jd2,Jd2,Nat.zero_add,hrn],by omega⟩,hw.drop.drop⟩) (by show l.ys.length - (t+1)<l.ys.length - t;omega)
   refine Zg rfl rfl rfl (Zv (OV.lN (cs:=cgC q) rfl T.u32 rfl T.z32 (.tail _ (.tail _ (.tail _ (.tail _ (.head _)))))) (Zg rfl rfl rfl (Zv (OV.f0 2 rfl T.u141 rfl) (Zg rfl rfl rfl (Zv (OV.ah (v:=.slice y.ta (nI m.ts).length y.tc) rfl T.u51 rfl (fun _ hw=>by rw [← hyt];exact (Jav (hw.it _ (.tail _ (.tail _ (.head _)))) (o:=2) rfl).1)) (Zg rfl rfl rfl (Zm rfl (Zg rfl rfl rfl ?_))))))))
   obtain ⟨s',hs'⟩:=Option.isSome_iff_exists.1 g94
   have hzs:sb zs=s':=hms s' hs'
   have hmt:Jcx (clA q.cl m.a) u.x (sb l.s.ys)=some (sb zs):=by rw [hzc,hzs];exact hs'
   obtain ⟨hsbz,hdmz⟩:=match_next hlv.sb hlv.dm (fun v hv2=>hv.vars72 (by rw [hqb,← hyam];exact hyab) v hv2) hmt
   have hz72:zs.length≤72:=sb_small hsbz hdmz
   refine WL.c0 (v:=.bool (Jej q.cl m.ts (sb zs))) (vs:=[cgV q,.slice y.ta (nI m.ts).length y.tc,.slice ma zs.length mc]) (fun w' hw'=>Ji6 q hs m.ts y.ta y.tc zs ma mc hmtl hmts (by omega) w' (hN.keeps (Jb0 hk hB hw')) (hr.keeps (Jb0 hk hB hw')) (by have h:=(hp.ts y (List.mem_of_getElem? hy)).satA (hp.tsne y (List.mem_of_getElem? hy)) hw';rw [hyt] at h;exact h) (RBd.of_row (c:=mc) (show SatA w (baseA g) (rowB ma mc zs::oQ b13 (atC u.x u.a u.c) 29::oQ b12 (jgC y) 141::oQ b7 (pgC (⟨aa,ac,nI (Jbm q.cl),ja,jc,js⟩:PG)) 87::oQ b5 (cgC q) 32::rowBB oa oc bo::row 145 3 (some ⟨bl,0,none⟩) (lv0.length+1) lc ((lv0++[(LVt l (t+1))]).flatMap lvC)::(baseA gk++(bo.map bgA++(lv0.flatMap lvI++lvI l)))) w' from hw') (.head _))) ?_
   refine Zg rfl rfl rfl (Zv (OV.not rfl) (Zv (OV.aj rfl rfl) (Nn ?_)))
   refine Cc rfl (fun c101=>?_) (fun c101=>?_)
   ·refine Ce (Xe (Xh ?_))
    rw [step_fail (c:=q.cl) (j:=(m.a,m.ts)) hmt c101,List.nil_append] at hrn
    exact WX.bg (t+1) Y8 (fun w' hw=>⟨⟨by omega,by omega,by rw [hremt,Jd2,Jd2,Nat.zero_add,hrn],by omega⟩,hw.drop.drop⟩) (by show l.ys.length - (t+1)<l.ys.length - t;omega)
   refine Ck (Xn (Cs (Cs ?_)))
   obtain ⟨hst,hct⟩:=step_ok (fnd:=(fun i p=>Jcw F (Jbv i lead) p)) (j:=(m.a,m.ts)) (js:=(jnP (makeP q.cl lead)).drop (lv0.length+1)) hmt c101
   have hjl:(jnP (makeP q.cl lead)).length=js.length:=by rw [show (jnP (makeP q.cl lead)).length=(makeP q.cl lead).length from List.length_map _,hpj.len]
   refine Cr (Zm rfl (Zv (OV.ae rfl T.u147) (Zv (OV.f0 1 rfl T.u87 rfl) (Zv (OV.l1 (v:=.slice ja js.length jc) rfl T.u85 rfl (.tail _ (.tail _ (.tail _ (.head _)))) rfl) (Zv (OV.ae rfl T.u85) (Zv (OV.d0 rfl rfl) (Nn ?_)))))))
   refine Cc rfl (fun c107=>?_) (fun c107=>?_)
   ·refine Csr (Zm rfl (Zm rfl (WL.bn T.u90 T.z54 T.zr54 rfl rfl rfl ?_)))
    intro b110
    refine WL.focus (ow':=rowBB oa oc bo::oQ b110 [Value.slice ma zs.length mc] 54::rowB ma mc zs::oQ b13 (atC u.x u.a u.c) 29::oQ b12 (jgC y) 141::oQ b7 (pgC (⟨aa,ac,nI (Jbm q.cl),ja,jc,js⟩:PG)) 87::oQ b5 (cgC q) 32::row 145 3 (some ⟨bl,0,none⟩) (lv0.length+1) lc ((lv0++[(LVt l (t+1))]).flatMap lvC)::(baseA gk++(bo.map bgA++(lv0.flatMap lvI++lvI l)))) (pmC [[oQ b110 [Value.slice ma zs.length mc] 54],[rowB ma mc zs],[oQ b13 (atC u.x u.a u.c) 29],[oQ b12 (jgC y) 141],[oQ b7 (pgC (⟨aa,ac,nI (Jbm q.cl),ja,jc,js⟩:PG)) 87],[oQ b5 (cgC q) 32],[rowBB oa oc bo],[row 145 3 (some ⟨bl,0,none⟩) (lv0.length+1) lc ((lv0++[(LVt l (t+1))]).flatMap lvC)],(baseA gk++(bo.map bgA++(lv0.flatMap lvI++lvI l)))] [6,0,1,2,3,4,5,7,8]) ?_
    refine WL.append (news:=[bgV (⟨zs,ma,mc⟩:BG)]) rfl rfl T.apB2 (fun _ _=>Jd9 (.tail _ (.head _)) rfl) (fun v hv=>by simp only [List.mem_singleton] at hv;subst hv;rfl) ⟨by omega,by unfold maxLen;omega⟩ rfl ?_
    intro a111 c111
    refine Za rfl (Nn (Ce (Xe (Xi (Xe (Xi (Xe (Xh ?_))))))))
    have hd0:(jnP (makeP q.cl lead)).drop (lv0.length+1)=[]:=List.drop_eq_nil_of_le (by omega)
    rw [hd0] at hst hct hrn hcn
    have hlt1:rowL (some ⟨bl,0,none⟩) lc (lv0++[LVt l (t+1)])=row 145 3 (some ⟨bl,0,none⟩) (lv0.length+1) lc ((lv0++[(LVt l (t+1))]).flatMap lvC):=by
     show row 145 3 _ (lv0++[LVt l (t+1)]).length _ _=_
     rw [List.length_append];rfl
    have el:bo.length+1=(bo++[(⟨zs,ma,mc⟩:BG)]).length:=by simp
    have ef:bo.map bgV++[bgV (⟨zs,ma,mc⟩:BG)]=(bo++[(⟨zs,ma,mc⟩:BG)]).map bgV:=by simp
    refine WX.l7 gk a111 c111 (bo++[(⟨zs,ma,mc⟩:BG)]) (some ⟨bl,0,none⟩) lc (lv0++[(LVt l (t+1))]) ⟨rfl,rfl,rfl,rfl,by rw [← el];rfl,by rw [List.length_append];rfl,trivial⟩ (fun w' hw=>⟨⟨bsk,hgp,by rw [List.length_append];exact hlvl',?_,?_,fun x hx=>(List.mem_append.1 hx).elim (hbo x) (fun h=>by simp only [List.mem_singleton] at h;subst h;show zs.length≤_;omega)⟩,?_⟩) ?_
    ·rw [← hsol,hremt,Jd2,Jd2,Nat.zero_add,hrn,hst]
     simp [sols]
    ·exact hlvx (t+1) (by omega)
    ·rw [el,ef] at hw
     rw [← hlt1] at hw
     refine (hw.pik [[rowBB a111 c111 (bo++[(⟨zs,ma,mc⟩:BG)])],[oQ b110 [Value.slice ma zs.length mc] 54],[rowB ma mc zs],[oQ b13 (atC u.x u.a u.c) 29],[oQ b12 (jgC y) 141],[oQ b7 (pgC (⟨aa,ac,nI (Jbm q.cl),ja,jc,js⟩:PG)) 87],[oQ b5 (cgC q) 32],[rowL (some ⟨bl,0,none⟩) lc (lv0++[(LVt l (t+1))])],baseA gk,bo.map bgA,lv0.flatMap lvI,lvI l] [5,6,0,7,8,9,2,10,11] 12).perm (List.Perm.of_eq ?_)
     simp [cat,List.flatMap_append]
    ·show cstL _ _ _ 0 (lv0++[_])<cstL _ _ _ 0 (lv0++[l])
     rw [Jfz,Jfz,Nat.zero_add]
     omega
   refine Ck (Xn (Cs ?_))
   obtain ⟨y2,hy2⟩:∃ y,js[lv0.length+1]?=some y:=⟨_,List.getElem?_eq_getElem (by omega)⟩
   obtain ⟨m2,hm2,hyam2,hyt2,hJ2⟩:=jn_at hpj hy2
   have hya2:y2.a<q.bd.length:=by rw [hyam2];exact hMb m2 (List.mem_of_getElem? hm2)
   refine Hd (fun w'=>w'.heap[b5]?=some (.cells (cgC q).toArray 32 (0,0))∧w'.heap[b7]?=some (.cells (pgC (⟨aa,ac,nI (Jbm q.cl),ja,jc,js⟩:PG)).toArray 87 (0,0))∧RJ w' ja js) [] (fun _ hw=>⟨hw.it (oQ b5 (cgC q) 32) (by simp [cat]),hw.it (oQ b7 (pgC (⟨aa,ac,nI (Jbm q.cl),ja,jc,js⟩:PG)) 87) (by simp [cat]),(hp.js.satA hp.jsne hw)⟩) (m:=15) rfl ?_
   refine Hf 0 rfl (OV.aw rfl) (Hf 1 rfl (OV.aw rfl) (Ht 2 rfl (OV.ai (cs:=cgC q) rfl T.u32 rfl T.z32 (fun _ hw j v hj=>by rw [Jap,Nat.zero_add];exact heap_cells hw.1 j v hj)) (Hf 3 rfl (OV.aw rfl) (Hf 4 rfl (OV.f0 1 rfl T.u87 rfl) (Ht 5 rfl (OV.ah (v:=.slice ja js.length jc) rfl T.u85 rfl (fun _ hw=>(Jav hw.2.1 (o:=1) rfl).1)) (Hf 6 rfl (OV.aw rfl) (Hf 7 rfl (OV.ae rfl T.u147) (Hf 8 rfl ((OV.ad (show _=some (Value.slice (some bj) js.length jc) by rw [← hbj];rfl) rfl T.u85 T.z141 (by omega)).cast (u:=.pointer (some (bj.add ((lv0.length+1)*3)))) (by rw [Int.toNat_natCast])) (Ht 9 rfl (OV.ai (cs:=jgC y2) rfl T.u141 rfl T.z141 (fun _ hw j v hj=>hw.2.2.at_ _ hbj (lv0.length+1) y2 hy2 j v hj)) (Hf 10 rfl (OV.aw rfl) (Ho 11 rfl (fl':=false) rfl ?_)))))))))))
   refine WL.focus (ow':=baseA gk++([rowB ma mc zs,oQ b13 (atC u.x u.a u.c) 29,oQ b12 (jgC y) 141,oQ b7 (pgC (⟨aa,ac,nI (Jbm q.cl),ja,jc,js⟩:PG)) 87,oQ b5 (cgC q) 32,rowBB oa oc bo,row 145 3 (some ⟨bl,0,none⟩) (lv0.length+1) lc ((lv0++[(LVt l (t+1))]).flatMap lvC)]++(bo.map bgA++(lv0.flatMap lvI++lvI l)))) (pmC [[rowB ma mc zs,oQ b13 (atC u.x u.a u.c) 29,oQ b12 (jgC y) 141,oQ b7 (pgC (⟨aa,ac,nI (Jbm q.cl),ja,jc,js⟩:PG)) 87,oQ b5 (cgC q) 32,rowBB oa oc bo,row 145 3 (some ⟨bl,0,none⟩) (lv0.length+1) lc ((lv0++[(LVt l (t+1))]).flatMap lvC)],baseA gk,bo.map bgA++(lv0.flatMap lvI++lvI l)] [1,0,2]) ?_
   refine WL.cT (ι:=AnsA) (vs:=[ptr g.p,cgV q,.int .i64 (leadI lead),.agg (jgC y2).toArray,.slice ma zs.length mc]) (vv:=fun z=>.agg (lvC ⟨z.a,z.c,z.ys,0,⟨zs,ma,mc⟩⟩).toArray) (pp:=fun z=>z.ys.map AG.x=Jcw F (Jbv y2.a lead) (appD (sb zs) (clA q.cl y2.a))∧BS z.g k F∧z.g.p=g.p∧(∀ y∈z.ys,y.x.args.length≤8)∧z.ys.length≤k) (baseA gk) (AA:=fun z=>baseA z.g++atsA z.a z.c z.ys) rfl (fun w' hw' hH=>by
    have h9:=enter_calls gk k F bsk hkk q hs lead y2 hya2 ⟨zs,ma,mc⟩ (show zs.length≤1048576 by omega) w0 w' (Jb0 hk hB hw') (newer hB h0 (show Sat w _ _ w (baseA gk++([rowB ma mc zs,oQ b13 (atC u.x u.a u.c) 29,oQ b12 (jgC y) 141,oQ b7 (pgC (⟨aa,ac,nI (Jbm q.cl),ja,jc,js⟩:PG)) 87,oQ b5 (cgC q) 32,rowBB oa oc bo,row 145 3 (some ⟨bl,0,none⟩) (lv0.length+1) lc ((lv0++[(LVt l (t+1))]).flatMap lvC)]++(bo.map bgA++(lv0.flatMap lvI++lvI l)))) w' from hw')) hN hr (RBd.of_row (c:=mc) (show SatA w (baseA g) (baseA gk++([rowB ma mc zs,oQ b13 (atC u.x u.a u.c) 29,oQ b12 (jgC y) 141,oQ b7 (pgC (⟨aa,ac,nI (Jbm q.cl),ja,jc,js⟩:PG)) 87,oQ b5 (cgC q) 32,rowBB oa oc bo,row 145 3 (some ⟨bl,0,none⟩) (lv0.length+1) lc ((lv0++[(LVt l (t+1))]).flatMap lvC)]++(bo.map bgA++(lv0.flatMap lvI++lvI l)))) w' from hw') (List.mem_append_right _ (.head _))) (fun a ha _=>Sat.sepO (show SatA w (baseA g) (baseA gk++([rowB ma mc zs,oQ b13 (atC u.x u.a u.c) 29,oQ b12 (jgC y) 141,oQ b7 (pgC (⟨aa,ac,nI (Jbm q.cl),ja,jc,js⟩:PG)) 87,oQ b5 (cgC q) 32,rowBB oa oc bo,row 145 3 (some ⟨bl,0,none⟩) (lv0.length+1) lc ((lv0++[(LVt l (t+1))]).flatMap lvC)]++(bo.map bgA++(lv0.flatMap lvI++lvI l)))) w' from hw') (i:=rowB ma mc zs) (.head _) ⟨a,ha,rfl⟩) hH
    rw [hgp] at h9
    exact h9) ?_
   rintro z2 ⟨hz2,bs2,hp2,hz28,hz2k⟩
   refine Hc (fun _=>(fun _ hw=>⟨hw.it (oQ b5 (cgC q) 32) (by simp [cat]),hw.it (oQ b7 (pgC (⟨aa,ac,nI (Jbm q.cl),ja,jc,js⟩:PG)) 87) (by simp [cat]),(hp.js.satA hp.jsne hw)⟩)) ?_
   refine Ho 12 rfl (fl':=false) rfl ?_
   refine WL.bh (cs:=lvC (⟨z2.a,z2.c,z2.ys,0,⟨zs,ma,mc⟩⟩:LV)) T.u147 T.z145 T.zr145 rfl rfl (by omega) (by omega) rfl ?_
   intro b124
   refine Hc (fun _=>(fun _ hw=>⟨hw.it (oQ b5 (cgC q) 32) (by simp [cat]),hw.it (oQ b7 (pgC (⟨aa,ac,nI (Jbm q.cl),ja,jc,js⟩:PG)) 87) (by simp [cat]),(hp.js.satA hp.jsne hw)⟩)) ?_
   refine Ho 13 rfl (fl':=false) rfl ?_
   refine WL.focus (ow':=row 145 3 (some ⟨bl,0,none⟩) (lv0.length+1) lc ((lv0++[(LVt l (t+1))]).flatMap lvC)::oQ b124 (lvC (⟨z2.a,z2.c,z2.ys,0,⟨zs,ma,mc⟩⟩:LV)) 145::rowB ma mc zs::oQ b13 (atC u.x u.a u.c) 29::oQ b12 (jgC y) 141::oQ b7 (pgC (⟨aa,ac,nI (Jbm q.cl),ja,jc,js⟩:PG)) 87::oQ b5 (cgC q) 32::rowBB oa oc bo::((baseA z2.g++atsA z2.a z2.c z2.ys)++(bo.map bgA++(lv0.flatMap lvI++lvI l)))) (pmC [[oQ b124 (lvC (⟨z2.a,z2.c,z2.ys,0,⟨zs,ma,mc⟩⟩:LV)) 145],(baseA z2.g++atsA z2.a z2.c z2.ys),[rowB ma mc zs],[oQ b13 (atC u.x u.a u.c) 29],[oQ b12 (jgC y) 141],[oQ b7 (pgC (⟨aa,ac,nI (Jbm q.cl),ja,jc,js⟩:PG)) 87],[oQ b5 (cgC q) 32],[rowBB oa oc bo],[row 145 3 (some ⟨bl,0,none⟩) (lv0.length+1) lc ((lv0++[(LVt l (t+1))]).flatMap lvC)],bo.map bgA++(lv0.flatMap lvI++lvI l)] [8,0,2,3,4,5,6,7,1,9]) ?_
   refine WL.append (news:=lvC (⟨z2.a,z2.c,z2.ys,0,⟨zs,ma,mc⟩⟩:LV)) rfl rfl T.apL (fun _ _=>Jcs (.tail _ (.head _)) rfl) (lvC_one _) ⟨by omega,by unfold maxLen;omega⟩ rfl ?_
   intro a125 c125
   refine Hc (fun _=>(fun _ hw=>⟨hw.it (oQ b5 (cgC q) 32) (by simp [cat]),hw.it (oQ b7 (pgC (⟨aa,ac,nI (Jbm q.cl),ja,jc,js⟩:PG)) 87) (by simp [cat]),(hp.js.satA hp.jsne hw)⟩)) ?_
   refine Hf 14 rfl (OV.assign rfl) (He (Xn (Ce (Xi (Xe (Xi (Xe (Xh ?_))))))))
   have hrem2:=remV_new (fnd:=(fun i p=>Jcw F (Jbv i lead) p)) (c:=q.cl) hJ2 (l:=(⟨z2.a,z2.c,z2.ys,0,⟨zs,ma,mc⟩⟩:LV)) rfl (by rw [hz2,hyam2])
   have el:lv0.length+1+1=(lv0++[(LVt l (t+1))]++[(⟨z2.a,z2.c,z2.ys,0,⟨zs,ma,mc⟩⟩:LV)]).length:=by simp
   have ef:(lv0++[(LVt l (t+1))]).flatMap lvC++lvC (⟨z2.a,z2.c,z2.ys,0,⟨zs,ma,mc⟩⟩:LV)=(lv0++[(LVt l (t+1))]++[(⟨z2.a,z2.c,z2.ys,0,⟨zs,ma,mc⟩⟩:LV)]).flatMap lvC:=by simp
   refine WX.l7 z2.g oa oc bo a125 c125 (lv0++[(LVt l (t+1))]++[(⟨z2.a,z2.c,z2.ys,0,⟨zs,ma,mc⟩⟩:LV)]) ⟨rfl,rfl,rfl,rfl,rfl,by rw [← el];rfl,trivial⟩ (fun w' hw=>⟨⟨bs2,hp2,by simp;omega,?_,?_,hbo⟩,?_⟩) ?_
   ·rw [← hsol,hremt,Jd2,Jd2,Jd2,Nat.zero_add,Nat.zero_add,List.length_append,List.length_singleton,hrem2.1,hrn,hst]
    simp
   ·intro i x hx
    rcases Nat.lt_or_ge i (lv0.length+1) with h | h
    ·rw [List.getElem?_append_left (by rw [List.length_append];exact h)] at hx
     exact hlvx (t+1) (by omega) i x hx
    ·have hi0:i=lv0.length+1:=by have:=(List.getElem?_eq_some_iff.1 hx).1;simp at this;omega
     subst hi0
     rw [List.getElem?_append_right (by simp)] at hx
     simp only [List.length_append,List.length_singleton,Nat.sub_self,List.getElem?_cons_zero,Option.some.injEq] at hx
     subst hx
     exact ⟨⟨_,hJ2,by show z2.ys.map AG.x=Jcw F (Jbv m2.a lead) (appD (sb zs) (clA q.cl m2.a));rw [hz2,hyam2]⟩,hz28,hz2k,Nat.zero_le _,hsbz,hdmz⟩
   ·rw [el,ef] at hw
    refine (hw.pik [[rowL a125 c125 (lv0++[(LVt l (t+1))]++[(⟨z2.a,z2.c,z2.ys,0,⟨zs,ma,mc⟩⟩:LV)])],[oQ b124 (lvC (⟨z2.a,z2.c,z2.ys,0,⟨zs,ma,mc⟩⟩:LV)) 145],[rowB ma mc zs],[oQ b13 (atC u.x u.a u.c) 29],[oQ b12 (jgC y) 141],[oQ b7 (pgC (⟨aa,ac,nI (Jbm q.cl),ja,jc,js⟩:PG)) 87],[oQ b5 (cgC q) 32],[rowBB oa oc bo],(baseA z2.g++atsA z2.a z2.c z2.ys),bo.map bgA,(lv0.flatMap lvI++lvI l)] [5,6,7,0,8,2,9,10] 11).perm ?_
    exact (List.Perm.of_eq (by simp [cat,List.flatMap_append,lvI];rfl)).trans ((pmC [[oQ b7 (pgC (⟨aa,ac,nI (Jbm q.cl),ja,jc,js⟩:PG)) 87],[oQ b5 (cgC q) 32],[rowBB oa oc bo],[rowL a125 c125 (lv0++[(LVt l (t+1))]++[(⟨z2.a,z2.c,z2.ys,0,⟨zs,ma,mc⟩⟩:LV)])],baseA z2.g,atsA z2.a z2.c z2.ys,[rowB ma mc zs],bo.map bgA,(lv0.flatMap lvI++lvI l)] [0,1,2,3,4,7,8,5,6]).trans (List.Perm.of_eq (by simp [cat])))
   ·show cstL _ _ _ 0 (lv0++[_]++[_])<cstL _ _ _ 0 (lv0++[l])
    rw [Jfz,Jfz,Jfz,Nat.zero_add,Nat.zero_add,List.length_append,List.length_singleton,hrem2.2]
    show csT _ _ _ (sb zs)+_<_
    omega
  refine Ce (Xe (Xe (Xh (Xn (Cr (Zm rfl (Zm rfl (Zv (OV.ae rfl T.u147) (Zv ((OV.mr rfl rfl (by omega)).cast (u:=.int .i64 ((lv0.length:Nat):Int)) (by congr 1;omega)) (Zv (OV.sliceTo rfl T.u147 T.z145 rfl (by omega)) (Za rfl (Nl (Xb ?_)))))))))))))
  refine WX.l7 gk oa oc bo (some ⟨bl,0,none⟩) lc lv0 Y6 (fun w' hw=>⟨⟨bsk,hgp,by omega,?_,fun i x hx=>hlvs i x (by rw [List.getElem?_append_left (List.getElem?_eq_some_iff.1 hx).1];exact hx),hbo⟩,?_⟩) ?_
  ·rw [← hsol,hremt,Jd2,Nat.zero_add,remV_end (by omega)];rfl
  ·have h1:=hw.perm (ow':=row 145 3 (some ⟨bl,0,none⟩) (lv0.length+1) lc ((lv0++[(LVt l t)]).flatMap lvC)::oQ b12 (jgC y) 141::oQ b7 (pgC (⟨aa,ac,nI (Jbm q.cl),ja,jc,js⟩:PG)) 87::oQ b5 (cgC q) 32::rowBB oa oc bo::(baseA gk++(bo.map bgA++(lv0.flatMap lvI++lvI l)))) (pmC [[oQ b12 (jgC y) 141],[oQ b7 (pgC (⟨aa,ac,nI (Jbm q.cl),ja,jc,js⟩:PG)) 87],[oQ b5 (cgC q) 32],[rowBB oa oc bo],[row 145 3 (some ⟨bl,0,none⟩) (lv0.length+1) lc ((lv0++[(LVt l t)]).flatMap lvC)],(baseA gk++(bo.map bgA++(lv0.flatMap lvI++lvI l)))] [4,0,1,2,3,5])
   have h2:=h1.rowCut (k:=lv0.length) (by simp)
   rw [show ((lv0++[(LVt l t)]).flatMap lvC).take (lv0.length*3)=lv0.flatMap lvC by rw [List.flatMap_append,List.take_left' (Jc1 Jnh lv0)]] at h2
   exact h2.pik [[rowL (some ⟨bl,0,none⟩) lc lv0],[oQ b12 (jgC y) 141],[oQ b7 (pgC (⟨aa,ac,nI (Jbm q.cl),ja,jc,js⟩:PG)) 87],[oQ b5 (cgC q) 32],[rowBB oa oc bo],baseA gk,bo.map bgA,lv0.flatMap lvI,lvI l] [2,3,4,0,5,6,7] 9
  ·show cstL _ _ _ 0 lv0<cstL _ _ _ 0 (lv0++[l])
   rw [Jfz]
   have:=cstV_pos (fnd:=(fun i p=>Jcw F (Jbv i lead) p)) (c:=q.cl) (J:=(jnP (makeP q.cl lead))) (0+lv0.length) l
   omega
 refine Ce (Xe (Xe (Xh (Xn (Csr (Zm rfl (Za rfl (Nn (WC.az ?_)))))))))
 refine WX.fh ?_
 obtain rfl:lv=[]:=List.eq_nil_of_length_eq_zero (by omega)
 exact WX.ret1 rfl rfl rfl (fun w' hw=>⟨(gk,oa,oc,bo),rfl,⟨⟨bsk,hgp⟩,by
  rw [show bo.map (fun y=>sb y.ys)=(sols (fun i p=>Jcw F (Jbv i lead) p) q.cl (jnP (makeP q.cl lead)) []) by rw [← hsol];exact (List.append_nil _).symm]
  unfold solsB;rw [if_pos c20],hbo⟩,(hw.pik [[oQ b7 (pgC (⟨aa,ac,nI (Jbm q.cl),ja,jc,js⟩:PG)) 87],[oQ b5 (cgC q) 32],[rowBB oa oc bo],[rowL la lc []],baseA gk,bo.map bgA,[]] [4,2,5] 7).turned⟩)
theorem sum_le_mul {l:List Nat}{m:Nat}(h:∀ x∈l,x≤m):l.sum≤l.length*m:=by
 induction l with
 | nil=>simp
 | cons x l ih=>
  have h1:=h x (.head _)
  have h2:=ih fun y hy=>h y (.tail _ hy)
  rw [List.sum_cons,List.length_cons,Nat.add_mul,Nat.one_mul]
  omega
theorem sols_len {fnd:Nat→At→List At}{c:Cl}{M:Nat}(hM:∀ i p,(fnd i p).length≤M):∀ (J:List (Nat × List Nat)) (s:Bn),(sols fnd c J s).length≤M ^ J.length
 | [],s=>by simp [sols]
 | j::js,s=>by
  rw [sols_step,List.length_flatMap,List.length_cons,Nat.pow_succ,Nat.mul_comm]
  have h1:∀ x∈((fnd j.1 (appD s (clA c j.1))).map fun f=>(stepB fnd c j js s f).length),x≤M ^ js.length:=fun x hx=>by
   obtain ⟨f,_,rfl⟩:=List.mem_map.1 hx
   unfold stepB
   split
   ·simp
   ·split
    ·exact sols_len hM js _
    ·simp
  refine Nat.le_trans (sum_le_mul h1) ?_
  rw [List.length_map]
  exact Nat.mul_le_mul_right _ (hM _ _)
abbrev fndF (F:List (At × Nat))(lead:Option Nat)(i:Nat)(p:At):List At:=Jcw F (Jbv i lead) p
theorem fact_ground {x:At}(h:factB x=true):∀ t∈plc x,varB t=false:=fun t ht=>by
 unfold factB at h
 simp only [Bool.and_eq_true] at h
 rcases List.mem_cons.1 ht with rfl | ht
 ·simpa using h.1.2
 ·have h2:=h.2
  rw [Bool.not_eq_true',List.any_eq_false] at h2
  simpa using h2 t ht
theorem fnd_ok {F:List (At × Nat)}(hF:∀ q∈F,factB q.1=true)(lead:Option Nat):FndOK (fndF F lead) (FFs F lead) where
 mem:=fun i p x=>by
  show x∈sortA _↔_
  rw [(Jf8 _).mem_iff,List.mem_filter]
 gr:=fun i x hx t ht=>by
  obtain ⟨n,hn,_⟩:=Jn6.1 hx
  exact fact_ground (hF _ hn) t ht
theorem fndF_len {F:List (At × Nat)}(lead:Option Nat)(i:Nat)(p:At):(fndF F lead i p).length≤F.length:=by
 show (sortA _).length≤_
 rw [(Jf8 _).length_eq]
 refine Nat.le_trans (List.length_filter_le _ _) ?_
 unfold selF
 rw [List.length_map]
 exact List.length_filter_le _ _
theorem nodup_subG {α:Type}[DecidableEq α]{l m:List α}(h:l.Nodup)(hs:∀ x∈l,x∈m):l.length≤m.length:=by
 induction l generalizing m with
 | nil=>exact Nat.zero_le _
 | cons x l ih=>
  obtain ⟨h1,h2⟩:=List.nodup_cons.1 h
  have h3:=ih (m:=m.erase x) h2 fun y hy=>(List.mem_erase_of_ne (fun e:y=x=>h1 (by rw [← e];exact hy))).2 (hs y (.tail _ hy))
  have h4:=List.length_erase_of_mem (hs x (.head _))
  have h5:0<m.length:=List.length_pos_of_mem (hs x (.head _))
  simp only [List.length_cons]
  omega
theorem holds_left {A B:List Hw.Item}{w:World}(h:Holds (A++B) w):Holds A w:=
 ⟨fun i hi=>h.φ i (List.mem_append_left _ hi),fun i hi=>h.lt i (List.mem_append_left _ hi),(List.pairwise_append.1 h.disj).1⟩
theorem binds_ok {g:BaseG}{k:Nat}{F:List (At × Nat)}(b:BS g k F)(hkk:k≤100000000000){q:CG}(hs:CS q)(hv:VC q.cl){lead:Option Nat}(hld:∀ l,lead=some l→l<q.cl.bd.length){w0:World}(hB:∀ b,DD (baseA g) b→w0.heap.size≤b)(hN:Jcy w0)(hr:RC w0 q) 
  (hsl:(sols (fndF F lead) q.cl (jnP (makeP q.cl lead)) []).length≤1048576):Jon (γ:=BaseG) (ptr g.p) q lead w0 (baseA g) baseA (fun z=>BS z k F∧z.p=g.p) (solsB (fndF F lead) q.cl (Jbm q.cl) (jnP (makeP q.cl lead))):=by
 intro p w1 hpa hpj hk hH
 obtain ⟨aa,ac,al,ja,jc,js⟩:=p
 obtain rfl:al=nI (Jbm q.cl):=hpa
 exact bindings_calls g k F b hkk q hs hv lead hld w0 w1 hk hB hN hr aa ac ja jc js hpj (RPl.of_holds hH) hsl (holds_left hH)
theorem Ji4 (g:BaseG)(k:Nat)(F:List (At × Nat))(b:BS g k F)(hkk:k≤100000000000)(hF:∀ q∈F,factB q.1=true)(q:CG)(hs:CS q)(hv:VC q.cl)(lead:Option Nat)(hld:∀ l,lead=some l→l<q.cl.bd.length)(hsl:F.length ^ q.bd.length≤1048576)(w0 w:World)(hk:Keeps w0 w)(hB:∀ b,DD (baseA g) b→w0.heap.size≤b)(hN:Jcy w0)(hC:Jjg w0)(hr:RC w0 q)(hA:Holds (baseA g) w):
  Calls Tryz.prog 12 #[ptr g.p,cgV q,.int .i64 (leadI lead)] w fun e w'=>∃ z:BaseG × Option Addr × Nat × List TG,e=.returned (.tuple #[.slice z.2.1 z.2.2.2.length z.2.2.1,.int .i64 0])∧((BS z.1 k F∧z.1.p=g.p)∧Str cmpR (z.2.2.2.map TG.l)∧(∀ r,r∈z.2.2.2.map TG.l↔Sol (FFs F lead) q.cl (nV q.cl) r)∧z.2.2.2.length≤1048576)∧Turns (baseA g) (baseA z.1++(rowR z.2.1 z.2.2.1 z.2.2.2::z.2.2.2.map tgA)) w w':=by
 have h1:(sols (fndF F lead) q.cl (jnP (makeP q.cl lead)) []).length≤1048576:=by
  have h2:=sols_len (M:=F.length) (fndF_len lead) (c:=q.cl) (jnP (makeP q.cl lead)) []
  rw [show (jnP (makeP q.cl lead)).length=(makeP q.cl lead).length from List.length_map _,Jlt,show q.cl.bd.length=q.bd.length from List.length_map _] at h2
  omega
 have h2:(solsB (fndF F lead) q.cl (Jbm q.cl) (jnP (makeP q.cl lead))).length≤1048576:=by
  unfold solsB
  split
  ·exact h1
  ·simp
 have hn:=hv.nV72
 have h3:∀ r∈(solsB (fndF F lead) q.cl (Jbm q.cl) (jnP (makeP q.cl lead))).map (valsB (nV q.cl)),r.length≤1099511627776:=fun r hr=>by
  obtain ⟨s,_,rfl⟩:=List.mem_map.1 hr
  rw [Jfp];omega
 refine (solve_from (γ:=BaseG) (baseA g) baseA (fun z=>BS z k F∧z.p=g.p) _ _ (ptr g.p) q hs hv (by omega) lead hld w0 hN hC hr w hk hB hA h2 (binds_ok b hkk hs hv hld hB hN hr h1) (comp_ok (by rw [List.length_map];omega) h3)).mono ?_
 rintro e w' ⟨z,h4,⟨h5,h6,h7⟩,h8⟩
 have h9:=nodup_subG (Str.nodup Jnm h6) fun r hr=>(h7 r).1 hr
 rw [List.length_map,List.length_map] at h9
 exact ⟨z,h4,⟨h5,h6,fun r=>(h7 r).trans (rows_sol (fnd_ok hF lead) hv.cvn (plan_ok hv.cvn hld) r),by omega⟩,h8⟩
set_option maxHeartbeats 1000000 in
theorem madeFact_calls (x:At)(a:Option Addr)(c:Nat)(hl:x.args.length≤1048576)(hs:x.name.size≤1099511627776)(w:World)(hr:RT w a x.args):Calls Tryz.prog 50 #[atV x a c] w fun e w'=>∃ z:Option Addr × Nat,e=.returned (atV (Jb1 x) z.1 z.2)∧Turns [] [rowT z.1 z.2 (Jb1 x).args] w w':=by
 refine Jbl (args:=[atV x a c]) (fun _=>False) Tryz.func50 rfl Tryz.ntmps50 rfl rfl ?_
 refine Csr (WL.box rfl rfl rfl ?_)
 intro b1
 refine WL.alloc (cs:=atC ⟨T0,E0,[]⟩ none 0) T.zr29 rfl ?_
 intro b2
 refine Nn (Csr (Zv (OV.lN (cs:=atC x a c) rfl T.u29 rfl T.z29 (.tail _ (.head _))) (WL.cT (ι:=Option Addr × Nat) (vs:=[atV x a c]) (vv:=fun z=>atV (Jaf x) z.1 z.2) (pp:=fun _=>True) [] (AA:=fun z=>[rowT z.1 z.2 (Jaf x).args]) rfl (fun w' hw' _=>(Jfu x a c hl hs w' (hr.keeps hw'.keeps)).mono (fun en w'' ⟨z,h1,h2⟩=>⟨z,h1,trivial,h2⟩)) ?_)))
 rintro ⟨ha,hac⟩ _
 refine WL.alloc T.zr29 rfl ?_
 intro b3
 refine WL.ag (vs:=atC (Jaf x) ha hac) rfl rfl rfl T.z29 rfl ?_
 refine Nn (Cs (Csr (Zv (OV.f0 0 rfl T.u29 rfl) (Zv (OV.f0 0 rfl T.u26 rfl) (Zv (OV.l1 (v:=.int .i64 (Jaf x).b.kind) rfl T.u3 rfl (.head _) rfl) (Zv (OV.d0 rfl rfl) (Nn ?_)))))))
 refine WC.ig [(2,.pointer (some ⟨b2,0,none⟩)),(3,.pointer (some ⟨b3,0,none⟩))] (Sat0 w (oQ b3 (atC ⟨nvB (Jaf x).b,(Jaf x).name,(Jaf x).args⟩ ha hac) 29::rowT ha hac (Jaf x).args::oQ b2 (atC ⟨T0,E0,[]⟩ none 0) 29::oQ b1 (atC x a c) 29::[])) ?_ ?_
 ·refine Cc rfl (fun c10=>?_) (fun c10=>?_)
  ·refine Cr (Zv (OV.ao (xs:=[]) (pl:=[(0,1),(1,1),(2,1)]) (cs:=tmC T0) T.u26 T.zr26 (by kernel_rfl) rfl rfl) (Zv (OV.f0 0 rfl T.u29 rfl) (WL.kw (o:=0) (vs:=tmC T0) rfl rfl rfl T.z26 (Nat.le_of_ble_eq_true rfl) ?_)))
   refine Nl ?_
   have em:nvB (Jaf x).b=T0:=by unfold nvB;rw [if_pos (by simpa using c10)]
   exact WX.dp Y2 (fun w' hw=>by rw [em];exact hw)
  refine Ck ?_
  have em:nvB (Jaf x).b=(Jaf x).b:=by unfold nvB;rw [if_neg (by simpa using c10)]
  exact WX.dp Y2 (fun w' hw=>by rw [em];exact hw)
 refine Cs (Csr (Za rfl (Nn (Cb ?_))))
 have hha:=Jix x
 refine WC.mq (fun w' hw=>(fun hp=>Jeh (hw.it (rowT ha hac (Jaf x).args) (.tail _ (.head _))) hp:0<(Jaf x).args.length→∃ q,ha=some ⟨q,0,none⟩)) (fun hqa=>?_)
 refine WC.cg (fun (i:Nat)=>[(2,.pointer (some ⟨b2,0,none⟩)),(3,.pointer (some ⟨b3,0,none⟩)),(4,.int .i64 (i:Int))])
   (fun i w'=>i≤(Jaf x).args.length∧Sat0 w (oQ b3 (atC ⟨nvB (Jaf x).b,(Jaf x).name,(((Jaf x).args.take i).map Jb4++(Jaf x).args.drop i)⟩ ha hac) 29::rowT ha hac (((Jaf x).args.take i).map Jb4++(Jaf x).args.drop i)::oQ b2 (atC ⟨T0,E0,[]⟩ none 0) 29::oQ b1 (atC x a c) 29::[]) w')
   (fun i=>(Jaf x).args.length - i) 0 Y3 (fun w' hw=>⟨by omega,hw⟩) ?_
 intro i
 refine WC.pure (fun hi=>?_)
 have hcl:=Jgg Jb4 (Jaf x).args i
 refine Cs (Csr (Zm rfl (Zv (OV.f0 4 rfl T.u29 rfl) (Zv (OV.l1 (v:=.slice ha (((Jaf x).args.take i).map Jb4++(Jaf x).args.drop i).length hac) rfl T.u27 rfl (.head _) rfl) (Zv (OV.ae rfl T.u27) (Zv (OV.cm rfl rfl) (Nn ?_)))))))
 refine Cc rfl (fun c17=>?_) (fun c17=>?_)
 ·refine Ck (Xn (Cs (Cb (Hd (fun w'=>w'.heap[b3]?=some (.cells (atC ⟨nvB (Jaf x).b,(Jaf x).name,(((Jaf x).args.take i).map Jb4++(Jaf x).args.drop i)⟩ ha hac).toArray 29 (0,0))∧(rowT ha hac (((Jaf x).args.take i).map Jb4++(Jaf x).args.drop i)).φ w') [10] (fun _ hw=>⟨hw.it (oQ b3 (atC ⟨nvB (Jaf x).b,(Jaf x).name,(((Jaf x).args.take i).map Jb4++(Jaf x).args.drop i)⟩ ha hac) 29) (by simp),hw.it (rowT ha hac (((Jaf x).args.take i).map Jb4++(Jaf x).args.drop i)) (by simp)⟩) (m:=11) rfl ?_))))
  refine Hf 0 rfl (OV.f0 4 rfl T.u29 rfl) (Ht 1 rfl (OV.ah (v:=.slice ha (((Jaf x).args.take i).map Jb4++(Jaf x).args.drop i).length hac) rfl T.u27 rfl (fun _ hw=>(Jav hw.1 (o:=4) rfl).1)) (Hf 2 rfl (OV.aw rfl) (Hf 3 rfl (OV.f0 4 rfl T.u29 rfl) (Ht 4 rfl (OV.ah (v:=.slice ha (((Jaf x).args.take i).map Jb4++(Jaf x).args.drop i).length hac) rfl T.u27 rfl (fun _ hw=>(Jav hw.1 (o:=4) rfl).1)) (Hf 5 rfl (OV.aw rfl) ?_)))))
  obtain ⟨t,ht⟩:∃ t,(Jaf x).args[i]?=some t:=⟨_,List.getElem?_eq_getElem (by omega)⟩
  obtain ⟨qh,hqh⟩:=hqa (by omega)
  refine Hf 6 rfl ((OV.ad (show _=some (Value.slice (some ⟨qh,0,none⟩) (((Jaf x).args.take i).map Jb4++(Jaf x).args.drop i).length hac) by rw [← hqh];rfl) rfl T.u27 T.z26 (by rw [Jgg];omega)).cast (u:=.pointer (some ⟨qh,i*3,none⟩)) (by rw [Int.toNat_natCast,Jap,Nat.zero_add])) ?_
  refine Ht 7 rfl (OV.ai (cs:=tmC t) rfl T.u26 rfl T.z26 (fun _ hw j v hj=>by have hj3:j<3:=(List.getElem?_eq_some_iff.1 hj).1;have h:=Jck hqh hw.2 (i*3+j) v (by rw [Jco Jcu _ i j t (cur_get ht) (by omega)];exact hj);rwa [Jap,Nat.zero_add,← Jap] at h)) ?_
  refine Ho 8 rfl (fl':=false) rfl ?_
  refine WL.au (v:=tmV (Jb4 t)) (by kernel_rfl) rfl rfl (fun w' hw'=>ground_calls t w') ?_
  refine Hc (fun _=>(fun _ hw=>⟨hw.it (oQ b3 (atC ⟨nvB (Jaf x).b,(Jaf x).name,(((Jaf x).args.take i).map Jb4++(Jaf x).args.drop i)⟩ ha hac) 29) (by simp),hw.it (rowT ha hac (((Jaf x).args.take i).map Jb4++(Jaf x).args.drop i)) (by simp)⟩)) ?_
  refine Hf 9 rfl ((OV.ad (show _=some (Value.slice (some ⟨qh,0,none⟩) (((Jaf x).args.take i).map Jb4++(Jaf x).args.drop i).length hac) by rw [← hqh];rfl) rfl T.u27 T.z26 (by rw [Jgg];omega)).cast (u:=.pointer (some ⟨qh,i*3,none⟩)) (by rw [Int.toNat_natCast,Jap,Nat.zero_add])) (Ho 10 rfl (fl':=true) rfl ?_)
  refine WL.focus perm1 (WL.ia (vs:=tmC (Jb4 t)) (o:=i*3) rfl hqh rfl rfl T.z26 (by rw [cur_len3];show i*3+3≤_;omega) ?_)
  refine Hc (fun h=>by cases h) ?_
  refine He (Xb (Xn (Cr (Zm rfl (Zv (OV.bi (j:=1) rfl rfl (by omega)) (Za rfl (Nl ?_)))))))
  have hfp:=Jlz (((Jaf x).args.take i).map Jb4++(Jaf x).args.drop i) i (Jb4 t) (by omega)
  rw [hfp,cur_set ht]
  exact WX.bg (i+1) Y3 (fun w' hw=>⟨by omega,by
   have hl1:=Jgg Jb4 (Jaf x).args (i+1)
   rw [hcl,← hl1] at hw
   have hce:atC ⟨nvB (Jaf x).b,(Jaf x).name,(((Jaf x).args.take i).map Jb4++(Jaf x).args.drop i)⟩ ha hac=atC ⟨nvB (Jaf x).b,(Jaf x).name,(((Jaf x).args.take (i+1)).map Jb4++(Jaf x).args.drop (i+1))⟩ ha hac:=by unfold atC;simp only [Jgg]
   rw [← hce]
   exact hw.perm perm1⟩) (by show (Jaf x).args.length - (i+1)<(Jaf x).args.length - i;omega)
 refine Ce (Xe (Xe (Xh (Xn (Csr (Zv (OV.lN (cs:=atC ⟨nvB (Jaf x).b,(Jaf x).name,(((Jaf x).args.take i).map Jb4++(Jaf x).args.drop i)⟩ ha hac) rfl T.u29 rfl T.z29 (.head _)) ?_))))))
 refine WL.focus perm2 (WL.ag (vs:=atC ⟨nvB (Jaf x).b,(Jaf x).name,(((Jaf x).args.take i).map Jb4++(Jaf x).args.drop i)⟩ ha hac) rfl rfl rfl T.z29 rfl ?_)
 refine Nn (WC.az ?_)
 have hcm:(⟨nvB (Jaf x).b,(Jaf x).name,(((Jaf x).args.take i).map Jb4++(Jaf x).args.drop i)⟩:At)=Jb1 x:=by
  have e1:(Jaf x).args.take i=(Jaf x).args:=List.take_of_length_le (by omega)
  have e2:(Jaf x).args.drop i=[]:=List.drop_eq_nil_of_le (by omega)
  rw [e1,e2,List.append_nil];rfl
 have hca:(((Jaf x).args.take i).map Jb4++(Jaf x).args.drop i)=(Jb1 x).args:=congrArg At.args hcm
 rw [hcm,hca]
 refine WX.retC (cs:=atC (Jb1 x) ha hac) rfl rfl rfl T.u29 rfl T.z29 (fun w' hw j v hj=>Ja0 hw (.head _) j v hj) (fun w' hw=>⟨(ha,hac),rfl,?_⟩)
 exact (hw.pik [[oQ b2 (atC (Jb1 x) ha hac) 29],[oQ b3 (atC (Jb1 x) ha hac) 29],[rowT ha hac (Jb1 x).args],[oQ b1 (atC x a c) 29]] [2] 4).turned0
theorem Jks (g:BaseG)(k:Nat)(F:List (At × Nat))(b:BS g k F)(ys:List AG)(a:Option Addr)(c n:Nat)(hkk:k+ys.length≤100000000000)(hsz:∀ y∈ys,y.x.args.length≤1048576∧y.x.name.size≤1099511627776)(hyl:ys.length≤1099511627776)(w0 w:World)(hk:Keeps w0 w)(hB:∀ b,DD (baseA g) b→w0.heap.size≤b)(hN:Jcy w0)(hr:RA w0 a ys)(hA:Holds (baseA g) w):
 Calls Tryz.prog 16 #[ptr g.p,.slice a ys.length c,.int .i64 (n:Int)] w fun e w'=>∃ g',e=.returned (.tuple #[])∧(BS g' (k+(ys.take n).length) (Jed F ((ys.take n).map fun y=>Jb1 y.x))∧g'.p=g.p)∧Turns (baseA g) (baseA g') w w':=by
 refine Jdl hA (args:=[ptr g.p,.slice a ys.length c,.int .i64 (n:Int)]) Tryz.func16 rfl Tryz.ntmps16 rfl rfl ?_
 refine Csr (Za rfl (Nn (Cb ?_)))
 refine WC.kx (fun (i:Nat) (gk:BaseG)=>[(0,ptr g.p),(1,.slice a ys.length c),(2,.int .i64 (n:Int)),(6,.int .i64 (i:Int))])
   (fun i gk w'=>(i≤ys.length∧i≤n∧BS gk (k+i) (Jed F ((ys.take i).map fun y=>Jb1 y.x))∧gk.p=g.p)∧SatA w (baseA g) (baseA gk) w')
   (fun i _=>ys.length - i) 0 g Y4 (fun w' hw=>⟨⟨by omega,by omega,b,rfl⟩,hw⟩) ?_
 intro i gk
 refine WC.pure (fun hi=>?_)
 obtain ⟨hi,hin,bsk,hgp⟩:=hi
 refine Cs (Csr (Zm rfl (Zm rfl (Zv (OV.ae rfl T.u22) (Zv (OV.cm rfl rfl) (Zm rfl ?_))))))
 refine Zp (t:=11) rfl (fun g11=>?_) (fun g11=>?_)
 ·refine Zg rfl rfl rfl (Zm rfl (Zg rfl rfl rfl (Zm rfl (Zg rfl rfl rfl (Zv (OV.cm rfl rfl) (Zv (OV.am rfl rfl) (Nn ?_)))))))
  refine Cc rfl (fun c15=>?_) (fun c15=>?_)
  ·refine Ck (Xn (Cs (Cb (Cr (Zm rfl (Zm rfl (Zm rfl ?_)))))))
   obtain ⟨q1,y,hq,ht,htm,hra,hc⟩:=hr.get (i:=i) (by omega)
   refine Zv ((OV.ad (show _=some (Value.slice (some q1) ys.length c) by rw [← hq];rfl) rfl T.u22 T.z29 (by omega)).cast (u:=.pointer (some (q1.add (i*5)))) (by rw [Int.toNat_natCast])) (Zv (OV.ai (cs:=atC y.x y.a y.c) rfl T.u29 rfl T.z29 (fun _ hw j v hj=>(Jb0 hk hB hw) _ _ (hc j v hj))) ?_)
   have hsy:=hsz y htm
   refine WL.cT (ι:=Option Addr × Nat) (vs:=[atV y.x y.a y.c]) (vv:=fun z=>atV (Jb1 y.x) z.1 z.2) (pp:=fun _=>True) [] (AA:=fun z=>[rowT z.1 z.2 (Jb1 y.x).args]) rfl (fun w' hw' _=>(madeFact_calls y.x y.a y.c hsy.1 hsy.2 w' (hra.keeps (Jb0 hk hB hw'))).mono (fun en w'' ⟨z,h1,h2⟩=>⟨z,h1,trivial,h2⟩)) ?_
   rintro ⟨za,zc⟩ _
   have hfa:(Jb1 y.x).args.length≤8:=by show ((Jaf y.x).args.map Jb4).length≤8;rw [List.length_map];exact Jix _
   have hfn:(Jb1 y.x).name.size≤1099511627776:=by
    have h1:=(chkA_zero.1 (Jkn y.x)).1
    unfold nameB at h1
    rw [decide_eq_true_eq] at h1
    have:=h1.2.1
    show (Jaf y.x).name.size≤_
    omega
   refine WL.focus (ow':=baseA gk++[rowT za zc (Jb1 y.x).args]) (pmC [[rowT za zc (Jb1 y.x).args],baseA gk] [1,0]) ?_
   refine WL.cT (ι:=BaseG) (vs:=[ptr g.p,atV (Jb1 y.x) za zc]) (vv:=fun _=>.tuple #[.bool (factB (Jb1 y.x) && decide (Jb1 y.x∉(Jed F ((ys.take i).map fun y=>Jb1 y.x)).map (·.1))),.int .i64 (if factB (Jb1 y.x)=true then 0 else 81)]) (pp:=fun g'=>BS g' (k+i+1) (addF (Jed F ((ys.take i).map fun y=>Jb1 y.x)) (Jb1 y.x))∧g'.p=g.p) (baseA gk) (AA:=fun g'=>baseA g') rfl (fun w' hw' hH=>by
    have h9:=badd_bs gk (k+i) (Jed F ((ys.take i).map fun y=>Jb1 y.x)) bsk (by omega) (Jb1 y.x) za zc (by omega) (by omega) w' (hN.keeps (Jb0 hk hB hw')) (fun h0=>by have h5:=newer hB (Nat.le_of_lt (Nat.lt_of_le_of_lt (hB _ (base_in g)) (base_lt hA))) (show Sat w _ _ w (baseA gk++[rowT za zc (Jb1 y.x).args]) w' from hw') 0 h0;have:=hN.lt;omega) (RT.of_row (c:=zc) rfl (show Sat w _ _ w (baseA gk++[rowT za zc (Jb1 y.x).args]) w' from hw') (List.mem_append_right _ (.head _))) (fun p hp _=>Sat.sepO (show Sat w _ _ w (baseA gk++[rowT za zc (Jb1 y.x).args]) w' from hw') (i:=rowT za zc (Jb1 y.x).args) (.head _) ⟨p,hp,rfl⟩) hH
    rw [hgp] at h9
    exact h9) ?_
   rintro g2 ⟨bs2,hp2⟩
   refine Nl (Xb (Xn (Cr (Zm rfl (Zv (OV.bi (j:=1) rfl rfl (by omega)) (Za rfl (Nl ?_)))))))
   exact WX.d8 (i+1) g2 Y4 (fun w' hw=>⟨⟨by omega,by omega,by
    rw [Jb2 ht,List.map_append]
    show BS g2 (k+(i+1)) (Jed F (((ys.take i).map fun y=>Jb1 y.x)++[Jb1 y.x]))
    rw [addAll_snoc]
    exact bs2,hp2⟩,by
    have h1:=hw.pik [baseA g2,[rowT za zc (Jb1 y.x).args]] [0] 2
    exact h1⟩) (by show ys.length - (i+1)<ys.length - i;omega)
  refine Ce (Xe (Xe (Xh ?_)))
  obtain rfl:i=n:=by omega
  exact WX.ret0 rfl rfl (fun w' hw=>⟨gk,rfl,⟨by rw [List.length_take,Nat.min_eq_left (by omega)];exact bsk,hgp⟩,hw.turned⟩)
 refine Zs rfl rfl rfl (Zs rfl rfl rfl (Zs rfl rfl rfl (Zv (OV.aj rfl rfl) (Nn (WC.bu (show _=some (Value.bool false) from by rfl) ?_)))))
 refine Ce (Xe (Xe (Xh ?_)))
 obtain rfl:i=ys.length:=by omega
 have e1:ys.take n=ys:=List.take_of_length_le (by omega)
 have e2:ys.take ys.length=ys:=List.take_length
 rw [e2] at bsk
 exact WX.ret0 rfl rfl (fun w' hw=>⟨gk,rfl,⟨by rw [e1];exact bsk,hgp⟩,hw.turned⟩)
structure RTG (w:World) (a:Option Addr) (ts:List TG):Prop where
 nil:a=none→ts.length=0
 at_:∀ q,a=some q→∀ i y,ts[i]?=some y→w.cell? (q.add i)=some (tgV y)
 args:∀ y∈ts,RT w y.a y.l
theorem RTG.keeps {w w':World}{a:Option Addr}{ts:List TG}(h:RTG w a ts)(k:Keeps w w'):RTG w' a ts:=⟨h.nil,fun q hq i y hy=>k _ _ (h.at_ q hq i y hy),fun y hy=>(h.args y hy).keeps k⟩
theorem RTG.get {w:World}{a:Option Addr}{ts:List TG}(h:RTG w a ts){i:Nat}(hi:i<ts.length):∃ q y,a=some q∧ts[i]?=some y∧y∈ts∧RT w y.a y.l∧w.cell? (q.add i)=some (tgV y):=by
 cases a with
 | none=>have:=h.nil rfl;omega
 | some q=>exact ⟨q,ts[i],rfl,List.getElem?_eq_getElem hi,List.getElem_mem hi,h.args _ (List.getElem_mem hi),h.at_ q rfl i _ (List.getElem?_eq_getElem hi)⟩
theorem RTG.of_items {w0 ws w:World}{M I:Nat→Prop}{ow:List Hw.Item}{a:Option Addr}{c:Nat}{ts:List TG}(hw:Sat w0 M I ws ow w)(hm:rowR a c ts∈ow)(ht:∀ y∈ts,tgA y∈ow):RTG w a ts:=by
 refine ⟨fun ha=>?_,fun q hq i y hy=>?_,fun y hy=>RT.of_row (c:=y.c) rfl hw (ht y hy)⟩
 ·rcases (Jdt hw hm).2 with ⟨_,h,_⟩ | ⟨b,hb,_⟩
  ·exact h
  ·rw [ha] at hb;cases hb
 ·subst hq
  exact Jdf hw hm i (tgV y) (by rw [List.getElem?_map,hy];rfl)
def mostL:List Int:=[60,60,16,7,4,3,2,1,1]
def mostN (n:Nat):Nat:=(mostL.getD n 0).toNat
theorem mostL_get {n:Nat}(h:n≤8):(mostL.map fun k:Int=>Value.int .i64 k)[n]?=some (.int .i64 ((mostN n:Nat):Int)):=by
 have h2:∀ m:Fin 9,mostL[m.1]?=some (((mostL.getD m.1 0).toNat:Nat):Int):=by decide
 rw [List.getElem?_map,h2 ⟨n,by omega⟩]
 rfl
theorem most_law (n:Nat)(hn:n≤8)(w:World):Calls Tryz.prog 8 #[.int .i64 (n:Int)] w fun e w'=>e=.returned (.int .i64 ((mostN n:Nat):Int))∧Fr0 w w':=by
 refine Jbl (args:=[.int .i64 (n:Int)]) (fun _=>False) Tryz.func8 rfl Tryz.ntmps8 rfl rfl ?_
 refine Csr (Za rfl (Nn (Csr (Zv (OV.buildArr (xs:=[60,60,16,7,4,3,2,1,1].map fun k:Int=>Operand.const (.int .i64 k)) (vs:=mostL.map fun k:Int=>Value.int .i64 k) rfl T.u79 T.z3 T.zr79 rfl (Eq.refl 9) rfl) (WL.alloc T.zr79 rfl ?_)))))
 intro b3
 refine WL.ag (vs:=mostL.map fun k:Int=>Value.int .i64 k) rfl rfl rfl T.z79 rfl ?_
 refine Nn (Cs (Csr (Zm rfl (Zv ((OV.k7 rfl rfl).cast (u:=.bool false) (congrArg Value.bool (decide_eq_false (by omega)))) (Nn (WC.bu (show _=some (Value.bool false) from by rfl) ?_))))))
 refine Ck (Xn (Csr (Zm rfl (Zv (OV.je rfl rfl T.u79 T.z3 (by omega)) (Zv (OV.ah (v:=.int .i64 ((mostN n:Nat):Int)) rfl T.u3 rfl (fun _ hw=>Ja0 hw (.head _) n _ (mostL_get hn))) (Za rfl (Nn (WC.az ?_))))))))
 exact WX.ret1 rfl rfl rfl (fun w' hw=>⟨rfl,hw.fr⟩)
theorem Jl6 (ls ms:List Tm)(hlm:ls.length=ms.length)(a1 a2:Option Addr)(c1 c2:Nat)(h1:ls.length≤1099511627776)(w:World)(hr1:RT w a1 ls)(hr2:RT w a2 ms):Calls Tryz.prog 47 #[.slice a1 ls.length c1,.slice a2 ms.length c2] w fun e w'=>e=.returned (.bool (decide (cmpR ls ms<0)))∧Fr0 w w':=by
 refine Jbl (args:=[.slice a1 ls.length c1,.slice a2 ms.length c2]) (fun _=>False) Tryz.func47 rfl Tryz.ntmps47 rfl rfl ?_
 refine Csr (Za rfl (Nn (Cs (Csr (Za rfl (Nn (Cb ?_)))))))
 refine WC.cg (fun (i:Nat)=>[(0,.slice a1 ls.length c1),(1,.slice a2 ms.length c2),(5,.int .i64 (i:Int))])
   (fun i w'=>(i≤ls.length∧cmpR (ls.drop i) (ms.drop i)=cmpR ls ms)∧Sat0 w ([]) w')
   (fun i=>ls.length - i) 0 Y3 (fun w' hw=>⟨⟨by omega,rfl⟩,hw⟩) ?_
 intro i
 refine WC.pure (fun hi=>?_)
 obtain ⟨hi,hcm⟩:=hi
 refine Cs (Csr (Zm rfl (Zm rfl (Zv (OV.ae rfl T.u27) (Zv (OV.cm rfl rfl) (Zm rfl ?_))))))
 refine Zp (t:=11) rfl (fun g11=>?_) (fun g11=>?_)
 ·refine Zg rfl rfl rfl (Zm rfl (Zg rfl rfl rfl (Zm rfl (Zg rfl rfl rfl (Zv (OV.ae rfl T.u27) (Zg rfl rfl rfl (Zv ((OV.cm rfl rfl).cast (u:=.bool true) (congrArg Value.bool (decide_eq_true (by omega)))) (Zv (OV.am rfl rfl) (Nn (WC.cj (show _=some (Value.bool true) from by rfl) ?_))))))))))
  refine Ck (Xn (Cs (Cb (Cs ?_))))
  obtain ⟨q1,t1,hq1,ht1,_,_,hc1⟩:=hr1.get (i:=i) (by omega)
  obtain ⟨q2,t2,hq2,ht2,_,_,hc2⟩:=hr2.get (i:=i) (by omega)
  refine Hq [8] (m:=10) rfl ?_
  refine Hf 0 rfl (OV.aw rfl) (Hf 1 rfl (OV.aw rfl) ?_)
  obtain ⟨q1,t1,hq1,ht1,_,_,hc1⟩:=hr1.get (i:=i) (by omega)
  obtain ⟨q2,t2,hq2,ht2,_,_,hc2⟩:=hr2.get (i:=i) (by omega)
  refine Hf 2 rfl ((OV.ad (show _=some (Value.slice (some q1) ls.length c1) by rw [← hq1];rfl) rfl T.u27 T.z26 (by omega)).cast (u:=.pointer (some (q1.add (i*3)))) (by rw [Int.toNat_natCast])) (Ht 3 rfl (OV.ai (cs:=tmC t1) rfl T.u26 rfl T.z26 (fun _ hw j v hj=>hw.keeps _ _ (hc1 j v hj))) (Hf 4 rfl (OV.aw rfl) (Hf 5 rfl (OV.aw rfl) (Hf 6 rfl ((OV.ad (show _=some (Value.slice (some q2) ms.length c2) by rw [← hq2];rfl) rfl T.u27 T.z26 (by omega)).cast (u:=.pointer (some (q2.add (i*3)))) (by rw [Int.toNat_natCast])) (Ht 7 rfl (OV.ai (cs:=tmC t2) rfl T.u26 rfl T.z26 (fun _ hw j v hj=>hw.keeps _ _ (hc2 j v hj))) (Ho 8 rfl (fl':=true) rfl ?_))))))
  refine WL.au (v:=.int .i64 (cmpT t1 t2)) (by kernel_rfl) rfl rfl (fun w' hw'=>Ji0 t1 t2 w') ?_
  refine Hc (fun h=>by cases h) ?_
  refine Hf 9 rfl (OV.assign rfl) (He (Xn (Csr (Zm rfl (Zv (OV.ic rfl rfl) (Nn ?_))))))
  refine Cc rfl (fun c29=>?_) (fun c29=>?_)
  ·refine Csr (Zm rfl (Zv (OV.cm rfl rfl) (Za rfl (Nn (WC.az ?_)))))
   refine Xq (Xr (Xr (Xq (Xr ?_))))
   exact WX.ret1 rfl rfl rfl (fun w' hw=>⟨by rw [← hcm,show cmpR (ls.drop i) (ms.drop i)=cmpT t1 t2 from cmpList_hit ht1 ht2 (by omega)],hw.fr⟩)
  refine Ck (Xb (Xn (Cr (Zm rfl (Zv (OV.bi (j:=1) rfl rfl (by omega)) (Za rfl (Nl ?_)))))))
  exact WX.bg (i+1) Y3 (fun w' hw=>⟨⟨by omega,by rw [← hcm];exact (cmpList_drop ht1 ht2 (by omega)).symm⟩,hw⟩) (by show ls.length - (i+1)<ls.length - i;omega)
 refine Zs rfl rfl rfl (Zs rfl rfl rfl (Zs rfl rfl rfl (Zs rfl rfl rfl (Zv (OV.aj rfl rfl) (Nn (WC.bu (show _=some (Value.bool false) from by rfl) ?_))))))
 refine Ce (Xe (Xe (Xh (Xn (Csr (Za rfl (Nn (WC.az ?_))))))))
 exact WX.ret1 rfl rfl rfl (fun w' hw=>⟨by rw [← hcm,List.drop_eq_nil_of_le (by omega),List.drop_eq_nil_of_le (by omega)];rfl,hw.fr⟩)
theorem Jov {ts:List TG}(hs:Str cmpR (ts.map TG.l)){i j:Nat}{x y:TG}(hx:ts[i]?=some x)(hy:ts[j]?=some y)(h:i<j):cmpR x.l y.l<0:=by
 have h1:=(List.getElem?_eq_some_iff.1 hx).1
 have h2:=(List.getElem?_eq_some_iff.1 hy).1
 have h3:=List.pairwise_iff_getElem.1 (show (ts.map TG.l).Pairwise _ from hs) i j (by rw [List.length_map];exact h1) (by rw [List.length_map];exact h2) h
 rw [List.getElem_map,List.getElem_map] at h3
 rw [List.getElem?_eq_getElem h1] at hx
 rw [List.getElem?_eq_getElem h2] at hy
 rw [← Option.some.inj hx,← Option.some.inj hy]
 exact h3
theorem str_not {ts:List TG}(hs:Str cmpR (ts.map TG.l)){i j:Nat}{x y:TG}(hx:ts[i]?=some x)(hy:ts[j]?=some y)(h:cmpR x.l y.l<0):i<j:=by
 rcases Nat.lt_or_ge i j with h1 | h1
 ·exact h1
 ·rcases Nat.eq_or_lt_of_le h1 with h2 | h2
  ·subst h2
   rw [hx] at hy
   rw [Option.some.inj hy,Jnm.refl] at h
   omega
  ·have h3:=Jov hs hy hx h2
   have h4:=Jnm.anti y.l x.l
   have e1:cmpR x.l y.l=- cmpR y.l x.l:=h4
   omega
theorem has_law (ts:List TG)(a:Option Addr)(c:Nat)(hst:Str cmpR (ts.map TG.l))(htl:ts.length≤1099511627776)(N:Nat)(hN:N≤1099511627776)(hlen:∀ y∈ts,y.l.length=N)(row:List Tm)(ra:Option Addr)(rc:Nat)(hrl:row.length=N)(hin:row∈ts.map TG.l)(w:World)(hr:RTG w a ts)(hrr:RT w ra row):Calls Tryz.prog 14 #[.slice a ts.length c,.slice ra row.length rc] w fun e w'=>e=.returned (.bool true)∧Fr0 w w':=by
 obtain ⟨py,hpm,hpr⟩:=List.mem_map.1 hin
 obtain ⟨p,hp⟩:=List.mem_iff_getElem?.1 hpm
 have hpl:=(List.getElem?_eq_some_iff.1 hp).1
 refine Jbl (args:=[.slice a ts.length c,.slice ra row.length rc]) (fun _=>False) Tryz.func14 rfl Tryz.ntmps14 rfl rfl ?_
 refine Csr (Za rfl (Nn (Csr (Za rfl (Nn (Csr (Zm rfl (Zv (OV.ae rfl T.u39) (Za rfl (Nn (Cs (Cb ?_))))))))))))
 refine WC.kx (fun (lo hi:Nat)=>[(0,.slice a ts.length c),(1,.slice ra row.length rc),(5,.int .i64 (lo:Int)),(6,.int .i64 (hi:Int))])
   (fun lo hi w'=>(lo≤p∧p≤hi∧hi≤ts.length)∧Sat0 w ([]) w')
   (fun lo hi=>hi - lo) 0 ts.length Y4 (fun w' hw=>⟨⟨by omega,by omega,by omega⟩,hw⟩) ?_
 intro lo hi
 refine WC.pure (fun hi2=>?_)
 obtain ⟨hlo,hhi,hhl⟩:=hi2
 refine Cs (Csr (Zm rfl (Zm rfl (Zv (OV.cm rfl rfl) (Nn ?_)))))
 refine Cc rfl (fun c12=>?_) (fun c12=>?_)
 ·refine Ck (Xn (Cb (Csr (Zm rfl (Zm rfl (Zv (OV.bi rfl rfl (by omega)) (Zv (OV.quoN (j:=2) rfl rfl (by omega)) (Za rfl (Nn (Csr (Zm rfl (Zm rfl ?_))))))))))))
  obtain ⟨q,y,hq,hy,hym,hry,hcy⟩:=hr.get (i:=(lo+hi) / 2) (by omega)
  refine Zv ((OV.ad (show _=some (Value.slice (some q) ts.length c) by rw [← hq];rfl) rfl T.u39 T.z27 (by omega)).cast (u:=.pointer (some (q.add ((lo+hi) / 2)))) (by rw [Int.toNat_natCast,Nat.mul_one])) (Zv (OV.ah (v:=tgV y) rfl T.u27 rfl (fun _ hw=>hw.keeps _ _ hcy)) (Zm rfl (WL.c0 (v:=.bool (decide (cmpR y.l row<0))) (vs:=[tgV y,.slice ra row.length rc]) (fun w' hw'=>Jl6 y.l row (by rw [hlen y hym,hrl]) y.a ra y.c rc (by rw [hlen y hym];exact hN) w' (hry.keeps hw'.keeps) (hrr.keeps hw'.keeps)) ?_)))
  refine Nn ?_
  refine Cc rfl (fun c22=>?_) (fun c22=>?_)
  ·refine Cr (Zm rfl (Zv (OV.bi (j:=1) rfl rfl (by omega)) (Za rfl (Nl (Xb ?_)))))
   have h9:=str_not hst hy hp (by rw [hpr];exact c22)
   exact WX.d8 ((lo+hi) / 2+1) hi Y4 (fun w' hw=>⟨⟨by omega,by omega,by omega⟩,hw⟩) (by show hi - ((lo+hi) / 2+1)<hi - lo;omega)
  refine Cr (Zm rfl (Za rfl (Nl (Xb ?_))))
  have h9:p≤(lo+hi) / 2:=Nat.le_of_not_lt fun h=>c22 (by rw [← hpr];exact Jov hst hy hp h)
  exact WX.d8 lo ((lo+hi) / 2) Y4 (fun w' hw=>⟨⟨by omega,by omega,by omega⟩,hw⟩) (by show (lo+hi) / 2 - lo<hi - lo;omega)
 refine Ce (Xe (Xe (Xh (Xn (Csr (Zm rfl (Zm rfl (Zv (OV.ae rfl T.u39) (Zv ((OV.cm rfl rfl).cast (u:=.bool true) (congrArg Value.bool (decide_eq_true (by omega)))) (Zm rfl (WL.known (t:=30) (b:=true) rfl (by rfl) ?_)))))))))))
 refine Zg rfl rfl rfl (Zm rfl (Zg rfl rfl rfl (Zm rfl (Zg rfl rfl rfl ?_))))
 obtain rfl:lo=p:=by omega
 obtain ⟨q,y,hq,hy,hym,hry,hcy⟩:=hr.get (i:=lo) (by omega)
 refine Zv ((OV.ad (show _=some (Value.slice (some q) ts.length c) by rw [← hq];rfl) rfl T.u39 T.z27 (by omega)).cast (u:=.pointer (some (q.add lo))) (by rw [Int.toNat_natCast,Nat.mul_one])) (Zg rfl rfl rfl (Zv (OV.ah (v:=tgV y) rfl T.u27 rfl (fun _ hw=>hw.keeps _ _ hcy)) (Zg rfl rfl rfl (Zm rfl (Zg rfl rfl rfl (WL.c0 (v:=.bool (decide (y.l=row))) (vs:=[tgV y,.slice ra row.length rc]) (fun w' hw'=>sameTerms_calls y.l row y.a ra y.c rc (by rw [hlen y hym];exact hN) (by rw [hrl];exact hN) w' (hry.keeps hw'.keeps) (hrr.keeps hw'.keeps)) ?_))))))
 refine Zv (OV.am rfl rfl) (Za rfl (Nn (WC.az ?_)))
 have hyp:y.l=row:=by
  rw [hp] at hy
  rw [← Option.some.inj hy];exact hpr
 exact WX.ret1 rfl rfl rfl (fun w' hw=>⟨by rw [decide_eq_true hyp],hw.fr⟩)
theorem Jln (ts:List TG)(a:Option Addr)(c:Nat)(hst:Str cmpR (ts.map TG.l))(htl:ts.length≤1099511627776)(N:Nat)(hN:N≤1099511627776)(hlen:∀ y∈ts,y.l.length=N)(hcs:∀ y∈ts,∀ t∈y.l,Jcr t=true)(w:World)(hr:RTG w a ts):Calls Tryz.prog 13 #[.slice a ts.length c,.int .i64 (N:Int)] w fun e w'=>e=.returned (.bool true)∧Fr0 w w':=by
 refine Jbl (args:=[.slice a ts.length c,.int .i64 (N:Int)]) (fun _=>False) Tryz.func13 rfl Tryz.ntmps13 rfl rfl ?_
 refine Csr (Za rfl (Nn (Cs (Csr (Za rfl (Nn (Cb ?_)))))))
 refine WC.cg (fun (i:Nat)=>[(0,.slice a ts.length c),(1,.int .i64 (N:Int)),(5,.int .i64 (i:Int))])
   (fun i w'=>i≤ts.length∧Sat0 w ([]) w')
   (fun i=>ts.length - i) 0 Y3 (fun w' hw=>⟨by omega,hw⟩) ?_
 intro i
 refine WC.pure (fun hi=>?_)
 refine Cs (Csr (Zm rfl (Zm rfl (Zv (OV.ae rfl T.u39) (Zv (OV.cm rfl rfl) (Nn ?_))))))
 refine Cc rfl (fun c10=>?_) (fun c10=>?_)
 ·refine Ck (Xn (Cs (Cb (Cs (Cs ?_)))))
  obtain ⟨q,y,hq,hy,hym,hry,hcy⟩:=hr.get (i:=i) (by omega)
  have hyN:=hlen y hym
  refine Cr (Zm rfl (Zm rfl (Zv ((OV.ad (show _=some (Value.slice (some q) ts.length c) by rw [← hq];rfl) rfl T.u39 T.z27 (by omega)).cast (u:=.pointer (some (q.add i))) (by rw [Int.toNat_natCast,Nat.mul_one])) (Zv (OV.ah (v:=tgV y) rfl T.u27 rfl (fun _ hw=>hw.keeps _ _ hcy)) (Zv (OV.ae rfl T.u27) (Zm rfl (Zv ((OV.ic rfl rfl).cast (u:=.bool false) (by rw [hlen y hym];simp)) (Nn (WC.bu (show _=some (Value.bool false) from by rfl) ?_)))))))))
  refine Ck (Xn (Cs (Csr (Za rfl (Nn (Cb ?_))))))
  refine WC.cg (fun (k:Nat)=>[(0,.slice a ts.length c),(1,.int .i64 (N:Int)),(5,.int .i64 (i:Int)),(6,.int .i64 (k:Int))])
    (fun k w'=>k≤N∧Sat0 w ([]) w')
    (fun k=>N - k) 0 Y4 (fun w' hw=>⟨by omega,hw⟩) ?_
  intro k
  refine WC.pure (fun hk=>?_)
  refine Cs (Csr (Zm rfl (Zm rfl (Zv (OV.cm rfl rfl) (Nn ?_)))))
  refine Cc rfl (fun c22=>?_) (fun c22=>?_)
  ·refine Ck (Xn (Cs (Cb (Csr (Zm rfl (Zm rfl (Zv ((OV.ad (show _=some (Value.slice (some q) ts.length c) by rw [← hq];rfl) rfl T.u39 T.z27 (by omega)).cast (u:=.pointer (some (q.add i))) (by rw [Int.toNat_natCast,Nat.mul_one])) (Zv (OV.ah (v:=tgV y) rfl T.u27 rfl (fun _ hw=>hw.keeps _ _ hcy)) (Zm rfl ?_)))))))))
   obtain ⟨q2,t,hq2,ht,htm,_,hct⟩:=hry.get (i:=k) (by omega)
   refine Zv ((OV.ad (show _=some (Value.slice (some q2) y.l.length y.c) by rw [← hq2];rfl) rfl T.u27 T.z26 (by omega)).cast (u:=.pointer (some (q2.add (k*3)))) (by rw [Int.toNat_natCast])) (Zv (OV.ai (cs:=tmC t) rfl T.u26 rfl T.z26 (fun _ hw j v hj=>hw.keeps _ _ (hct j v hj))) (WL.c0 (v:=.bool true) (vs:=[tmV t]) (fun w' hw'=>(Jdx t w').mono (fun en w'' ⟨h8,h9⟩=>⟨by rw [h8,hcs y hym t htm],h9⟩)) ?_))
   refine Zv (OV.not rfl) (Nn (WC.bu (show _=some (Value.bool false) from by rfl) ?_))
   refine Ck (Xb (Xn (Cr (Zm rfl (Zv (OV.bi (j:=1) rfl rfl (by omega)) (Za rfl (Nl ?_)))))))
   exact WX.bg (k+1) Y4 (fun w' hw=>⟨by omega,hw⟩) (by show N - (k+1)<N - k;omega)
  refine Ce (Xe (Xe (Xh (Xn (Cs ?_)))))
  obtain ⟨x,hx⟩:∃ x,ts[i - 1]?=some x:=⟨_,List.getElem?_eq_getElem (by omega)⟩
  have hxm:=List.mem_of_getElem? hx
  have hcx:=hr.at_ q hq (i - 1) x hx
  refine Hq [12] (m:=15) rfl ?_
  refine Hf 0 rfl (OV.aw rfl) (Hf 1 rfl (OV.k7 rfl rfl) (Hf 2 rfl (OV.aw rfl) ?_))
  refine Hp (t:=36) rfl (fun g36=>?_) (fun g36=>?_)
  ·refine Hfg 3 rfl rfl rfl rfl (OV.aw rfl) (Hfg 4 rfl rfl rfl rfl (OV.aw rfl) (Hfg 5 rfl rfl rfl rfl ((OV.mr rfl rfl (by omega)).cast (u:=.int .i64 ((i - 1:Nat):Int)) (by congr 1;omega)) (Hfg 6 rfl rfl rfl rfl ((OV.ad (show _=some (Value.slice (some q) ts.length c) by rw [← hq];rfl) rfl T.u39 T.z27 (by omega)).cast (u:=.pointer (some (q.add (i - 1)))) (by rw [Int.toNat_natCast,Nat.mul_one])) (Htg 7 rfl rfl rfl rfl (OV.ah (v:=tgV x) rfl T.u27 rfl (fun _ hw=>hw.keeps _ _ hcx)) (Hfg 8 rfl rfl rfl rfl (OV.aw rfl) (Hfg 9 rfl rfl rfl rfl (OV.aw rfl) (Hfg 10 rfl rfl rfl rfl ((OV.ad (show _=some (Value.slice (some q) ts.length c) by rw [← hq];rfl) rfl T.u39 T.z27 (by omega)).cast (u:=.pointer (some (q.add i))) (by rw [Int.toNat_natCast,Nat.mul_one])) (Htg 11 rfl rfl rfl rfl (OV.ah (v:=tgV y) rfl T.u27 rfl (fun _ hw=>hw.keeps _ _ hcy)) (Ho 12 rfl (fl':=true) rfl ?_)))))))))
   refine Zg rfl rfl rfl (WL.c0 (v:=.bool true) (vs:=[tgV x,tgV y]) (fun w' hw'=>(Jl6 x.l y.l (by rw [hlen x hxm,hyN]) x.a y.a x.c y.c (by rw [hlen x hxm];exact hN) w' ((hr.args x hxm).keeps hw'.keeps) (hry.keeps hw'.keeps)).mono (fun en w'' ⟨h8,h9⟩=>⟨by rw [h8,decide_eq_true (Jov hst hx hy (by omega))],h9⟩)) ?_)
   refine Hc (fun h=>by cases h) ?_
   refine Hfg 13 rfl rfl rfl rfl (OV.not rfl) (Hf 14 rfl (OV.am rfl rfl) (He (Xn (WC.bu (show _=some (Value.bool false) from by rfl) ?_))))
   refine Ck (Xb (Xn (Cr (Zm rfl (Zv (OV.bi (j:=1) rfl rfl (by omega)) (Za rfl (Nl ?_)))))))
   exact WX.bg (i+1) Y3 (fun w' hw=>⟨by omega,hw⟩) (by show ts.length - (i+1)<ts.length - i;omega)
  refine Hs 3 rfl rfl rfl rfl (Hs 4 rfl rfl rfl rfl (Hs 5 rfl rfl rfl rfl (Hs 6 rfl rfl rfl rfl (Hs 7 rfl rfl rfl rfl (Hs 8 rfl rfl rfl rfl (Hs 9 rfl rfl rfl rfl (Hs 10 rfl rfl rfl rfl (Hs 11 rfl rfl rfl rfl (Ho 12 rfl (fl':=true) rfl ?_)))))))))
  refine Zs rfl rfl rfl (Hc (fun h=>by cases h) ?_)
  refine Hs 13 rfl rfl rfl rfl (Hf 14 rfl (OV.aj rfl rfl) (He (Xn (WC.bu (show _=some (Value.bool false) from by rfl) ?_))))
  refine Ck (Xb (Xn (Cr (Zm rfl (Zv (OV.bi (j:=1) rfl rfl (by omega)) (Za rfl (Nl ?_)))))))
  exact WX.bg (i+1) Y3 (fun w' hw=>⟨by omega,hw⟩) (by show ts.length - (i+1)<ts.length - i;omega)
 refine Ce (Xe (Xe (Xh (Xn (Csr (Za rfl (Nn (WC.az ?_))))))))
 exact WX.ret1 rfl rfl rfl (fun w' hw=>⟨rfl,hw.fr⟩)
theorem Jlj {c:Cl}(hv:VC c){FF:Nat→At→Prop}(hf:∀ i x,FF i x→factB x=true){r:List Tm}(h:Sol FF c (nV c) r):∀ t∈r,Jcr t=true:=fun t ht=>by
 obtain ⟨i,hi⟩:=List.mem_iff_getElem?.1 ht
 have hil:=(List.getElem?_eq_some_iff.1 hi).1
 rw [h.len] at hil
 obtain ⟨a,ha,hva⟩:=(hv.cvn.body (i:Int)).2 ⟨by omega,by omega⟩
 obtain ⟨j,hj⟩:=List.mem_iff_getElem?.1 ha
 obtain ⟨hF,hk⟩:=h.bd j a hj
 have hx:=hf _ _ hF
 have hgr:=fact_ground hx
 unfold factB at hx
 simp only [Bool.and_eq_true,decide_eq_true_eq] at hx
 obtain ⟨_,_,h3,h4⟩:=chkA_zero.1 hx.1.1
 obtain ⟨u,hu,huv,hun⟩:=mem_varsOf.1 hva
 have hb:becD (bnV r) u=t:=by
  unfold becD
  rw [if_pos huv,Jnn,hun,if_pos (by omega),Int.toNat_natCast,hi];rfl
 rcases List.mem_cons.1 hu with rfl | hu
 ·have hb2:(appD (bnV r) a).b=t:=hb
  rw [hb2] at h3
  have hk2:=hk huv
  rw [hb] at hk2
  rcases h3 with h3 | h3 | h3
  ·rw [h3] at hk2;exact absurd rfl hk2
  ·unfold prinB at h3
   simp only [Bool.and_eq_true] at h3
   exact h3.1.1
  ·have h5:=hgr t (by rw [← hb2];simp [plc])
   rw [h5] at h3;cases h3
 ·have hta:t∈(appD (bnV r) a).args:=by
   show t∈a.args.map _
   exact List.mem_map.2 ⟨u,hu,hb⟩
  have h5:=h4 t hta
  have h6:=hgr t (List.mem_cons_of_mem _ hta)
  unfold badB at h5
  rw [h6] at h5
  simpa using h5
structure FG where
 oa:Option Addr
 oc:Nat
 o:List AG
 na:Option Addr
 nc:Nat
 n:List AG
 xa:Option Addr
 xc:Nat
 x:List AG
def fgC (f:FG):List Value:=[.slice f.oa f.o.length f.oc,.slice f.na f.n.length f.nc,.slice f.xa f.x.length f.xc]
structure RF (w:World) (f:FG):Prop where
 o:RA w f.oa f.o
 n:RA w f.na f.n
 x:RA w f.xa f.x
structure FS (ys:List AG):Prop where
 l:ys.length≤1048576
 y:∀ y∈ys,y.x.args.length≤1048576∧y.x.name.size≤1099511627776
abbrev mfL (ys:List AG)(n:Nat):List At:=(ys.take n).map fun y=>Jb1 y.x
theorem newer0 {w w':World}{I:Nat→Prop}{ws:World}{B ow:List Hw.Item}(hw:Sat w (fun _=>False) I ws (B++ow) w'):∀ b,DD B b→w.heap.size≤b:=fun b ⟨i,hi,hb⟩=>(hw.lt i (List.mem_append_left _ hi) b hb).2.2.resolve_left (fun f=>f)
theorem filled_calls (f:FG)(n:Nat)(ho:FS f.o)(hn:FS f.n)(hx:FS f.x)(w:World)(hN:Jcy w)(hr:RF w f):Calls Tryz.prog 9 #[.agg (fgC f).toArray,.int .i64 (n:Int)] w fun e w'=>∃ g':BaseG,e=.returned (ptr g'.p)∧BS g' (0+(f.o.take n).length+(f.n.take n).length+(f.x.take n).length) (Jcp (mfL f.o n) (mfL f.n n) (mfL f.x n))∧Turns [] (baseA g') w w':=by
 refine Jbl (args:=[.agg (fgC f).toArray,.int .i64 (n:Int)]) (fun _=>False) Tryz.func9 rfl Tryz.ntmps9 rfl rfl ?_
 refine Csr (WL.box rfl rfl rfl ?_)
 intro b2
 refine Za rfl (Nn (Csr (WL.cT (ι:=BaseG) (vs:=[]) (vv:=fun g=>ptr g.p) (pp:=fun g=>BS g 0 []) [] (AA:=fun g=>baseA g) rfl (fun w' hw' _=>(bnew_calls w').mono (fun en w'' ⟨p,rb,h1,h2⟩=>⟨⟨p,none,none,0,[],rb,[]⟩,h1,new_bs p rb,h2⟩)) ?_)))
 rintro g1 bg1
 obtain ⟨p,hpg1⟩:∃ p,g1.p=p:=⟨_,rfl⟩
 rw [hpg1]
 have hol:=ho.l
 have hnl:=hn.l
 have hxl:=hx.l
 have hol2:(f.o.take n).length≤f.o.length:=by rw [List.length_take];omega
 have hnl2:(f.n.take n).length≤f.n.length:=by rw [List.length_take];omega
 have hxl2:(f.x.take n).length≤f.x.length:=by rw [List.length_take];omega
 refine Za rfl (Nn (Cs (Csr (Zm rfl (Zv (OV.kz T.u35 rfl rfl) (Nn (WC.bu (show _=some (Value.bool false) from by rfl) ?_)))))))
 refine Ck (Xn (Csr (Zm rfl (Zv (OV.f0 0 rfl T.u24 rfl) (Zv (OV.ah (v:=.slice f.oa f.o.length f.oc) rfl T.u22 rfl (fun _ hw=>Ja0 hw (List.mem_append_right _ (.head _)) 0 _ rfl)) (Zm rfl ?_))))))
 refine WL.cT (ι:=BaseG) (vs:=[ptr p,.slice f.oa f.o.length f.oc,.int .i64 (n:Int)]) (vv:=fun _=>.tuple #[]) (pp:=fun g'=>BS g' (0+(f.o.take n).length) (Jed [] (mfL f.o n))∧g'.p=g1.p) (baseA g1) (AA:=fun g'=>baseA g') rfl (fun w' hw' hH=>by
  have h9:=Jks g1 _ _ bg1 f.o f.oa f.oc n (by omega) ho.y (by have:=ho.l;omega) w w' hw'.keeps (newer0 hw') hN hr.o hH
  rw [hpg1] at h9 ⊢
  exact h9) ?_
 rintro g2 ⟨bg2,hpg2⟩
 rw [hpg1] at hpg2
 refine Nn (Csr (Zm rfl ?_))
 refine WL.cT (ι:=BaseG) (vs:=[ptr p]) (vv:=fun _=>.int .i64 ((n4F _:Nat):Int)) (pp:=fun g'=>BS g' _ (turnF _)∧g'.p=p) (baseA g2) (AA:=fun g'=>baseA g') rfl (fun w' hw' hH=>by
  have h9:=Jnc g2 _ _ bg2 w' hH
  rw [hpg2] at h9
  exact h9) ?_
 rintro g3 ⟨bg3,hpg3⟩
 refine Nn (Csr (Zm rfl ?_))
 refine WL.cT (ι:=BaseG) (vs:=[ptr p]) (vv:=fun _=>.int .i64 ((n4F _:Nat):Int)) (pp:=fun g'=>BS g' _ (turnF _)∧g'.p=p) (baseA g3) (AA:=fun g'=>baseA g') rfl (fun w' hw' hH=>by
  have h9:=Jnc g3 _ _ bg3 w' hH
  rw [hpg3] at h9
  exact h9) ?_
 rintro g4 ⟨bg4,hpg4⟩
 refine Nn (Csr (Zm rfl (Zv (OV.f0 1 rfl T.u24 rfl) (Zv (OV.ah (v:=.slice f.na f.n.length f.nc) rfl T.u22 rfl (fun _ hw=>Ja0 hw (List.mem_append_right _ (.head _)) 1 _ rfl)) (Zm rfl ?_)))))
 refine WL.cT (ι:=BaseG) (vs:=[ptr p,.slice f.na f.n.length f.nc,.int .i64 (n:Int)]) (vv:=fun _=>.tuple #[]) (pp:=fun g'=>BS g' (_+(f.n.take n).length) (Jed _ (mfL f.n n))∧g'.p=g4.p) (baseA g4) (AA:=fun g'=>baseA g') rfl (fun w' hw' hH=>by
  have h9:=Jks g4 _ _ bg4 f.n f.na f.nc n (by omega) hn.y (by have:=hn.l;omega) w w' hw'.keeps (newer0 hw') hN hr.n hH
  rw [hpg4] at h9 ⊢
  exact h9) ?_
 rintro g5 ⟨bg5,hpg5⟩
 rw [hpg4] at hpg5
 refine Nn (Csr (Zm rfl ?_))
 refine WL.cT (ι:=BaseG) (vs:=[ptr p]) (vv:=fun _=>.int .i64 ((n4F _:Nat):Int)) (pp:=fun g'=>BS g' _ (turnF _)∧g'.p=p) (baseA g5) (AA:=fun g'=>baseA g') rfl (fun w' hw' hH=>by
  have h9:=Jnc g5 _ _ bg5 w' hH
  rw [hpg5] at h9
  exact h9) ?_
 rintro g6 ⟨bg6,hpg6⟩
 refine Nn (Csr (Zm rfl (Zv (OV.f0 2 rfl T.u24 rfl) (Zv (OV.ah (v:=.slice f.xa f.x.length f.xc) rfl T.u22 rfl (fun _ hw=>Ja0 hw (List.mem_append_right _ (.head _)) 2 _ rfl)) (Zm rfl ?_)))))
 refine WL.cT (ι:=BaseG) (vs:=[ptr p,.slice f.xa f.x.length f.xc,.int .i64 (n:Int)]) (vv:=fun _=>.tuple #[]) (pp:=fun g'=>BS g' (_+(f.x.take n).length) (Jed _ (mfL f.x n))∧g'.p=g6.p) (baseA g6) (AA:=fun g'=>baseA g') rfl (fun w' hw' hH=>by
  have h9:=Jks g6 _ _ bg6 f.x f.xa f.xc n (by omega) hx.y (by have:=hx.l;omega) w w' hw'.keeps (newer0 hw') hN hr.x hH
  rw [hpg6] at h9 ⊢
  exact h9) ?_
 rintro g7 ⟨bg7,hpg7⟩
 rw [hpg6] at hpg7
 refine Nn (Csr (Zm rfl (Za rfl (Nn (WC.az ?_)))))
 exact WX.ret1 rfl rfl rfl (fun w' hw=>⟨g7,by rw [hpg7],bg7,(hw.pik [baseA g7,[oQ b2 (fgC f) 24]] [0] 2).turned0⟩)
section
open Go.ChangeShapes Go.WideShapes Go.ChangeAt Go.RowKit
variable {H:Type} {enc:TypeId × Value→H} {w:World} {base:Nat} {spare:Nat→Bool} {held:Bool} {r:Reach} {b0:Nat}
def wtF (f:FG):Nat:=(f.o.map wtA).sum+(f.n.map wtA).sum+(f.x.map wtA).sum+4
set_option maxRecDepth 100000 in
theorem open_facts {v:Value}{d:DataW H}{p:List MemPlace}(hv:Value.okWide Tryz.prog w r b0 24 v)(h:DataW.Trod enc Tryz.prog w base spare held 24 v d p):
  ∃ f:FG,v=.agg (fgC f).toArray∧RF w f∧wtF f≤Rows.uptoBulk d:=by
 obtain ⟨fuel,hf0⟩:=h
 have ha:∃ cs,v=.agg cs:=by
  unfold Value.okWide at hv
  rw [T.u24] at hv
  cases v <;> simp_all
 obtain ⟨cs,rfl⟩:=ha
 obtain ⟨cs⟩:=cs
 have hf1:DataW.trod enc Tryz.prog w base spare held fuel 24 cs=some (d,p):=hf0
 obtain ⟨xs,n,rfl,hx,hl,hxs,hf⟩:=DataW.trod_struct T.u24 hf1
 have hl3:cs.length=3:=by rw [hl];kernel_rfl
 have cL:Program.cellsOf Tryz.prog 22=1:=by kernel_rfl
 match cs,hl3 with
 | [v0,v1,v2],_=>
  match xs,hxs with
  | [x0,x1,x2],_=>
   have k0:DataW.trod enc Tryz.prog w base spare held n 22 [v0]=some x0:=by
    have k:DataW.trod enc Tryz.prog w base spare held n 22 (List.take (Program.cellsOf Tryz.prog 22) (List.drop 0 [v0,v1,v2]))=some x0:=hf 0 _ rfl
    rw [cL] at k;exact k
   have k1:DataW.trod enc Tryz.prog w base spare held n 22 [v1]=some x1:=by
    have k:DataW.trod enc Tryz.prog w base spare held n 22 (List.take (Program.cellsOf Tryz.prog 22) (List.drop 1 [v0,v1,v2]))=some x1:=hf 1 _ rfl
    rw [cL] at k;exact k
   have k2:DataW.trod enc Tryz.prog w base spare held n 22 [v2]=some x2:=by
    have k:DataW.trod enc Tryz.prog w base spare held n 22 (List.take (Program.cellsOf Tryz.prog 22) (List.drop 2 [v0,v1,v2]))=some x2:=hf 2 _ rfl
    rw [cL] at k;exact k
   obtain ⟨oa,oc,o,e0,r0,b0⟩:=Jir k0
   obtain ⟨na,nc,nn,e1,r1,b1⟩:=Jir k1
   obtain ⟨xa,xc,xx,e2,r2,b2⟩:=Jir k2
   simp only [List.cons.injEq,and_true] at e0 e1 e2
   subst e0;subst e1;subst e2
   simp only [List.map_cons,List.map_nil,Prod.mk.injEq] at hx
   refine ⟨⟨oa,oc,o,na,nc,nn,xa,xc,xx⟩,rfl,⟨r0,r1,r2⟩,?_⟩
   rw [hx.1]
   simp only [Rows.uptoBulk,Rows.uptoBulkAll,wtF]
   omega
theorem fs_ok {ys:List AG}(h:(ys.map wtA).sum≤1048576):FS ys:=by
 have h1:=Jop wtA (k:=1) (fun y=>by unfold wtA;omega) ys
 refine ⟨by omega,fun y hy=>?_⟩
 have h2:=le_sum wtA hy
 have h3:wtA y=y.x.name.size+y.x.args.length+7:=rfl
 omega
theorem facts_ok {f:FG}(h:wtF f≤1048576):FS f.o∧FS f.n∧FS f.x:=by
 unfold wtF at h
 exact ⟨fs_ok (by omega),fs_ok (by omega),fs_ok (by omega)⟩
end
theorem snapK {w w1 w2:World}{ow:List Hw.Item}(hw:Sat w (fun _=>False) (fun b=>b<w1.heap.size∧∀ i∈([]:List Hw.Item),¬ i.D b) w1 ow w2):Keeps w1 w2:=fun a v h=>by
 have h1:=World.block_lt_of_cell? w1 _ h
 have h2:=(hw.snap a.block ⟨h1,fun i hi=>by cases hi⟩).2
 unfold World.cell? at h ⊢
 rw [h2];exact h
theorem snapB {w w1 w2:World}{A ow:List Hw.Item}(hw:Sat w (fun _=>False) (fun b=>b<w1.heap.size∧∀ i∈([]:List Hw.Item),¬ i.D b) w1 (A++ow) w2):∀ b,DD A b→w1.heap.size≤b:=fun b ⟨i,hi,hb⟩=>by
 have h:=(hw.lt i (List.mem_append_left _ hi) b hb).2.1
 rcases Nat.lt_or_ge b w1.heap.size with h1 | h1
 ·exact absurd ⟨h1,fun i hi=>by cases hi⟩ h
 ·exact h1
theorem Jec {O N X:List At}:∀ q∈Jcp O N X,factB q.1=true:=fun q hq=>(mem_filled.1 hq).1
theorem most_le {n:Nat}(h:n≤8):mostN n≤60:=by
 have h2:∀ m:Fin 9,mostN m.1≤60:=by decide
 exact h2 ⟨n,by omega⟩
theorem Jmu {α:Type}(l:List α)(n:Nat):(l.take n).length≤n:=by rw [List.length_take];omega
end Go.Proofs.YtgebaodagaecmaaGreatDoor
