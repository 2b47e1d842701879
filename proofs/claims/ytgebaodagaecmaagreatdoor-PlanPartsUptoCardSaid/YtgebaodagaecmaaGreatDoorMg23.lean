/- Contracts of functions of the program: what each returns and leaves in memory. Printed by gen.py and walk.py. -/
import Derived.Test.YtgebaodagaecmaaGreatDoorMg22
set_option maxRecDepth 10000
namespace Go.Proofs.YtgebaodagaecmaaGreatDoor
open Go Go.Hw
set_option linter.unusedSimpArgs false
set_option linter.unusedVariables false
theorem Jot (vs:List Tm):∀ (i:Nat) (ts:List Tm),∀ q∈ckOf vs i ts,∃ (j:Nat) (t:Tm),q.1=((i+j:Nat):Int)∧ts[j]?=some t∧varB t=false∧q.2=(((numOf vs t).getD 0:Nat):Int)
 | i,[],q,h=>by simp [ckOf] at h
 | i,t::ts,q,h=>by
  unfold ckOf at h
  split at h
  ·obtain ⟨j,u,h1,h2,h3,h4⟩:=Jot vs (i+1) ts q h
   exact ⟨j+1,u,by rw [h1];congr 1;omega,by simpa using h2,h3,h4⟩
  ·rename_i hv
   rcases List.mem_cons.1 h with h | h
   ·subst h;exact ⟨0,t,by simp,rfl,by simpa using hv,rfl⟩
   ·obtain ⟨j,u,h1,h2,h3,h4⟩:=Jot vs (i+1) ts q h
    exact ⟨j+1,u,by rw [h1];congr 1;omega,by simpa using h2,h3,h4⟩
theorem zip_fst_snd (l:List (Int × Int)):(l.map (·.1)).zip (l.map (·.2))=l:=by
 induction l with
 | nil=>rfl
 | cons q l ih=>simp [ih]
theorem plc_atom (vs:List Tm)(p:Pd)(l:List Int)(h:0<l.length):plc (Jbx vs p l)=l.map (valAt vs):=by
 cases l with
 | nil=>simp at h
 | cons a l=>rfl
theorem match_fits {g:BaseG}(ok:BaseOK g){x:Pd × RelG}(hx:x∈g.rs){q:List Int × Nat}(hq:q∈rp x.2){p:At}(h:Jcz p (Jbx g.vs x.1 q.1)=true):
  fitsL q.1 ((ckOf g.vs 0 (plc p)).map (·.1)) ((ckOf g.vs 0 (plc p)).map (·.2)):=by
 obtain ⟨hl,hin⟩:=Jih ok hx hq
 refine ⟨by simp,fun c hc=>?_⟩
 rw [zip_fst_snd] at hc
 obtain ⟨j,t,h1,h2,h3,h4⟩:=Jot g.vs 0 (plc p) c hc
 rw [Nat.zero_add] at h1
 have hp:=Jiv h
 have hpl:(plc p).length=q.1.length:=by
  have h5:=congrArg Pd.ar hp
  rw [Jjo ok hx hq] at h5
  show p.args.length+1=_
  have h6:p.args.length=x.1.ar:=h5
  omega
 have hj:j<q.1.length:=by have:=(List.getElem?_eq_some_iff.1 h2).1;omega
 have hu:(plc (Jbx g.vs x.1 q.1))[j]?=some (valAt g.vs q.1[j]):=by
  rw [plc_atom _ _ _ (by omega),List.getElem?_map,List.getElem?_eq_getElem hj];rfl
 have ht:=match_fix h h2 hu h3
 obtain ⟨n,hn,hv⟩:=Jkg hin hj
 have hgd:q.1.getD j 0=q.1[j]:=by rw [List.getD_eq_getElem?_getD,List.getElem?_eq_getElem hj];rfl
 rw [hgd] at hn hv
 have hnum:numOf g.vs t=some n:=by rw [ht];exact Jgu ok.vn hv
 refine ⟨by omega,by omega,?_⟩
 rw [h4,h1,hnum,Int.toNat_natCast,hgd,hn]
 rfl
theorem known_of {g:BaseG}(ok:BaseOK g){x:Pd × RelG}(hx:x∈g.rs){q:List Int × Nat}(hq:q∈rp x.2){p:At}(h:Jcz p (Jbx g.vs x.1 q.1)=true):Jne g.vs (plc p):=by
 obtain ⟨hl,hin⟩:=Jih ok hx hq
 intro t ht hv
 obtain ⟨j,h2⟩:=List.mem_iff_getElem?.1 ht
 have hp:=Jiv h
 have hj:j<q.1.length:=by
  have h5:=congrArg Pd.ar hp
  rw [Jjo ok hx hq] at h5
  have h6:p.args.length=x.1.ar:=h5
  have h7:=(List.getElem?_eq_some_iff.1 h2).1
  have h8:(plc p).length=p.args.length+1:=rfl
  omega
 have hu:(plc (Jbx g.vs x.1 q.1))[j]?=some (valAt g.vs q.1[j]):=by
  rw [plc_atom _ _ _ (by omega),List.getElem?_map,List.getElem?_eq_getElem hj];rfl
 have ht2:=match_fix h h2 hu hv
 obtain ⟨n,hn,hval⟩:=Jkg hin hj
 have hgd:q.1.getD j 0=q.1[j]:=by rw [List.getD_eq_getElem?_getD,List.getElem?_eq_getElem hj];rfl
 rw [hgd] at hval
 rw [ht2,Jgu ok.vn hval];rfl
theorem flat_none {α β:Type}{f:α→List β}{l:List α}(h:∀ x∈l,f x=[]):l.flatMap f=[]:=by
 induction l with
 | nil=>rfl
 | cons x l ih=>rw [List.flatMap_cons,h x (.head _),ih fun y hy=>h y (.tail _ hy)];rfl
theorem found_rel {g:BaseG}(ok:BaseOK g){p:At}{x:Pd × RelG}{r1 r2:List (Pd × RelG)}(hs:g.rs=r1++x::r2)(hx:x.1=Jax p)(parts:Int):
  ((selF (Jci g) parts).filter (Jcz p)).Perm (((selR (rp x.2) parts ((ckOf g.vs 0 (plc p)).map (·.1)) ((ckOf g.vs 0 (plc p)).map (·.2))).map (Jbx g.vs x.1)).filter (Jcz p)):=by
 have hxm:x∈g.rs:=by rw [hs];simp
 have hsub:∀ y∈g.rs,(((rp y.2).map fun q=>(Jbx g.vs y.1 q.1,q.2)).filter fun q=>inP parts q.2).map (·.1)=((rp y.2).filter fun q=>inP parts q.2).map fun q=>Jbx g.vs y.1 q.1:=by
  intro y _
  rw [List.filter_map,List.map_map];rfl
 have hno:∀ y∈g.rs,y.1≠Jax p→(((rp y.2).filter fun q=>inP parts q.2).map fun q=>Jbx g.vs y.1 q.1).filter (Jcz p)=[]:=by
  intro y hy hne
  rw [List.filter_eq_nil_iff]
  intro z hz hm
  obtain ⟨q,hq,rfl⟩:=List.mem_map.1 hz
  have h1:=Jiv hm
  rw [Jjo ok hy (List.mem_filter.1 hq).1] at h1
  exact hne h1.symm
 have e1:(selF (Jci g) parts).filter (Jcz p)=g.rs.flatMap fun y=>(((rp y.2).filter fun q=>inP parts q.2).map fun q=>Jbx g.vs y.1 q.1).filter (Jcz p):=by
  unfold selF Jci
  rw [List.filter_flatMap,List.map_flatMap,List.filter_flatMap]
  have:∀ l:List (Pd × RelG),(∀ y∈l,y∈g.rs)→l.flatMap (fun a=>List.filter (Jcz p) ((((rp a.2).map fun q=>(Jbx g.vs a.1 q.1,q.2)).filter fun q=>inP parts q.2).map (·.1)))=l.flatMap fun y=>(((rp y.2).filter fun q=>inP parts q.2).map fun q=>Jbx g.vs y.1 q.1).filter (Jcz p):=by
   intro l hl
   induction l with
   | nil=>rfl
   | cons y l ih=>rw [List.flatMap_cons,List.flatMap_cons,hsub y (hl y (.head _)),ih fun z hz=>hl z (.tail _ hz)]
  exact this g.rs fun y hy=>hy
 have hrn:=ok.rn
 rw [hs,List.map_append,List.map_cons,List.nodup_append] at hrn
 have e2:g.rs.flatMap (fun y=>(((rp y.2).filter fun q=>inP parts q.2).map fun q=>Jbx g.vs y.1 q.1).filter (Jcz p))=(((rp x.2).filter fun q=>inP parts q.2).map fun q=>Jbx g.vs x.1 q.1).filter (Jcz p):=by
  rw [hs,List.flatMap_append,List.flatMap_cons,flat_none,flat_none,List.append_nil,List.nil_append]
  ·intro y hy
   refine hno y (by rw [hs];simp [hy]) (fun e=>?_)
   have h3:=(List.nodup_cons.1 hrn.2.1).1
   exact h3 (by rw [hx,← e];exact List.mem_map.2 ⟨y,hy,rfl⟩)
  ·intro y hy
   refine hno y (by rw [hs];simp [hy]) (fun e=>?_)
   exact hrn.2.2 y.1 (List.mem_map.2 ⟨y,hy,rfl⟩) x.1 (.head _) (by rw [e,hx])
 rw [e1,e2]
 have h4:(selR (rp x.2) parts ((ckOf g.vs 0 (plc p)).map (·.1)) ((ckOf g.vs 0 (plc p)).map (·.2))).Perm (((rp x.2).filter fun q=>inP parts q.2 && decide (fitsL q.1 ((ckOf g.vs 0 (plc p)).map (·.1)) ((ckOf g.vs 0 (plc p)).map (·.2)))).map (·.1)):=Jj2 _
 refine List.Perm.trans ?_ ((h4.map _).filter _).symm
 refine List.Perm.of_eq ?_
 rw [List.map_map,List.filter_map,List.filter_map,List.filter_filter,List.filter_filter]
 refine congrArg _ (List.filter_congr fun q hq=>?_)
 cases hm:Jcz p (Jbx g.vs x.1 q.1) with
 | false=>simp [hm,Function.comp]
 | true=>
  have:=match_fits ok hxm hq hm
  simp [hm,Function.comp,this]
theorem found_none {g:BaseG}(ok:BaseOK g){p:At}(h:relOf g.rs (Jax p)=none)(parts:Int):(selF (Jci g) parts).filter (Jcz p)=[]:=by
 rw [List.filter_eq_nil_iff]
 intro z hz hm
 obtain ⟨⟨y,n⟩,hq,rfl⟩:=List.mem_map.1 hz
 have h1:=(mem_facts1 ok y).1 (List.mem_map.2 ⟨(y,n),(List.mem_filter.1 hq).1,rfl⟩)
 obtain ⟨gr,l,h2,_⟩:=h1
 rw [← Jiv hm,h] at h2;cases h2
theorem found_unknown {g:BaseG}(ok:BaseOK g){p:At}(h:¬ Jne g.vs (plc p))(parts:Int):(selF (Jci g) parts).filter (Jcz p)=[]:=by
 rw [List.filter_eq_nil_iff]
 intro z hz hm
 obtain ⟨⟨y,n⟩,hq,rfl⟩:=List.mem_map.1 hz
 obtain ⟨x,hx,hq2⟩:=List.mem_flatMap.1 (show (y,n)∈g.rs.flatMap _ from (List.mem_filter.1 hq).1)
 obtain ⟨q,hq3,he⟩:=List.mem_map.1 hq2
 simp only [Prod.mk.injEq] at he
 refine h (known_of ok hx hq3 (p:=p) ?_)
 rw [he.1];exact hm
theorem foundF_nil {g:BaseG}{k:Nat}{F:List (At × Nat)}(b:BS g k F){p:At}{parts:Int}(h:(selF (Jci g) parts).filter (Jcz p)=[]):Jcw F parts p=[]:=by
 have h1:=(selF_perm b.fs.symm parts).filter (Jcz p)
 rw [h] at h1
 unfold Jcw
 rw [h1.eq_nil];exact List.mergeSort_nil
theorem turns0 {w w':World}(h:Fr0 w w'):Turns [] [] w w':=⟨h.mono (fun _ f=>f.elim),by simp,by simp,.nil⟩
theorem ck_i64 {vs:List Tm}(hv:vs.length≤1099511627776)(ts:List Tm)(ht:ts.length≤1048576):i64s ((ckOf vs 0 ts).map (·.1))∧i64s ((ckOf vs 0 ts).map (·.2)):=by
 constructor
 ·intro n hn
  obtain ⟨q,hq,rfl⟩:=List.mem_map.1 hn
  have:=Jo3 vs 0 ts q hq
  constructor <;> omega
 ·intro n hn
  obtain ⟨q,hq,rfl⟩:=List.mem_map.1 hn
  obtain ⟨j,t,_,_,_,h4⟩:=Jot vs 0 ts q hq
  rw [h4]
  cases hq2:numOf vs t with
  | none=>simp
  | some m=>have:=numOf_lt hq2;simp only [Option.getD_some];constructor <;> omega
theorem Jla {w0 ws w:World}{M I:Nat→Prop}{ow:List Hw.Item}(h:Sat w0 M I ws ow w){b:Nat}{v:Value}{T:TypeId}(hm:oQ b [v] T∈ow):w.cell? ⟨b,0,none⟩=some v:=(Jav (h.it _ hm) (o:=0) rfl).1
theorem sub_tabP {g:BaseG}{X:List Hw.Item}:(tabA g).Sublist (X++baseA g):=(List.sublist_append_left (tabA g) _).trans (List.sublist_append_right X _)
theorem selR_and2 {g:RelG}(ok:RelOK g)(parts:Int)(cs ks:List Int):selR (rp g) (bits .and .i64 parts 7) cs ks=selR (rp g) parts cs ks:=by
 unfold selR
 congr 2
 refine List.filter_congr fun q hq=>?_
 obtain ⟨e,he,rfl⟩:=List.mem_map.1 hq
 rw [inP_and parts (ok.part e he)]
theorem selR_mem2 {L:List (List Int × Nat)}{parts:Int}{cols key:List Int}{l:List Int}(h:l∈selR L parts cols key):∃ q∈L,q.1=l:=by
 have h1:=(Jj2 _).mem_iff.1 h
 obtain ⟨q,hq,rfl⟩:=List.mem_map.1 h1
 exact ⟨q,(List.mem_filter.1 hq).1,rfl⟩
set_option maxHeartbeats 2000000 in
theorem bfnd_calls (g:BaseG)(k:Nat)(F:List (At × Nat))(b:BS g k F)(hk:k≤100000000000)(parts:Int)(p:At)(a:Option Addr)(c:Nat)(hl:p.args.length≤1048575)(w:World)(hr:RT w a p.args)(hne:∀ q,a=some q→0<p.args.length→¬ DD (baseA g) q.block)(hA:Holds (baseA g) w):
 Calls Tryz.prog 158 #[ptr g.p,.int .i64 parts,atV p a c] w fun e w'=>∃ z:AnsA,e=.returned (.slice z.a z.ys.length z.c)∧(z.ys.map AG.x=Jcw F parts p∧BS z.g k F∧z.g.p=g.p∧(∀ y∈z.ys,y.x.args.length≤8)∧z.ys.length≤k)∧Turns (baseA g) (baseA z.g++atsA z.a z.c z.ys) w w':=by
 refine Jdl hA (args:=[ptr g.p,.int .i64 parts,atV p a c]) Tryz.func158 rfl Tryz.ntmps158 rfl rfl ?_
 refine Csr (WL.box rfl rfl rfl ?_)
 intro b3
 refine WL.box rfl rfl rfl ?_
 intro b5
 refine Za rfl (Nn (Csr (Zv (OV.lN (cs:=atC p a c) rfl T.u29 rfl T.z29 (.head _)) (WL.au (v:=pdV (Jax p)) (by kernel_rfl) rfl rfl (fun w' hw'=>Jj7 p a c w') ?_))))
 refine WL.alloc T.zr107 rfl ?_
 intro b7
 refine WL.ag (vs:=pdC (Jax p)) rfl rfl rfl T.z107 rfl ?_
 refine Nn (Cs (Hd (fun w'=>w'.heap[b3]?=some (.cells [ptr g.p].toArray 35 (0,0))∧w'.heap[g.p]?=some (.cells (baseC g).toArray 105 (0,0))∧w'.heap[g.rb]?=some (mapK pdV (relKV g.rs))∧w'.heap[b7]?=some (.cells (pdC (Jax p)).toArray 107 (0,0))) [] (fun _ hw=>⟨hw.it (oQ b3 [ptr g.p] 35) (by simp),hw.it (hdB g) (.tail _ (.tail _ (.tail _ (.head _)))),hw.it (rbA g) (.tail _ (.tail _ (.tail _ (List.mem_append_right _ (.head _))))),hw.it (oQ b7 (pdC (Jax p)) 107) (.head _)⟩) (m:=7) rfl ?_))
 refine Ht 0 rfl (OV.ah (v:=ptr g.p) rfl T.u35 rfl (fun _ hw=>(Jav hw.1 (o:=0) rfl).1)) (Hf 1 rfl (OV.ak rfl) (Hf 2 rfl (OV.f0 2 rfl T.u105 rfl) (Ht 3 rfl (OV.ah (v:=.map (some g.rb)) rfl T.u103 rfl (fun _ hw=>(Jav hw.2.1 (o:=2) rfl).1)) (Ht 4 rfl (OV.ai (cs:=pdC (Jax p)) rfl T.u107 rfl T.z107 (fun _ hw j v hj=>by rw [Jap];exact Jb3 hw.2.2.2 (o:=0) (cs':=pdC (Jax p)) rfl j v hj)) (Ht 5 rfl ((OV.lookup pdKey T.u103 (show Program.zv Tryz.prog 108=some (.pointer none) by kernel_rfl) rfl rfl (fun _ hw=>hw.2.2.1)).cast (u:=.pointer ((relOf g.rs (Jax p)).map fun z=>⟨z.r,0,none⟩)) (by rw [relKV_got];cases relOf g.rs (Jax p) <;> rfl)) (Hf 6 rfl (OV.assign rfl) (He (Xn (Cs (Csr (Zm rfl (Zv (OV.kz T.u108 rfl rfl) (Nn ?_)))))))))))))
 refine Cc rfl (fun c29=>?_) (fun c29=>?_)
 ·refine Csr (Za rfl (Nn (WC.az ?_)))
  refine Xr ?_
  have hnil:=foundF_nil b (found_none b.ok (by simpa using c29) parts)
  refine WX.ret1 rfl rfl rfl (fun w' hw=>⟨⟨g,none,0,[]⟩,rfl,⟨by rw [hnil];rfl,b,rfl,(fun y hy=>by cases hy),Nat.zero_le _⟩,?_⟩)
  have h2:=(hw.rowNil 29 5).pick [[row 29 5 none 0 0 []],[oQ b7 (pdC (Jax p)) 107,oQ b5 (atC p a c) 29,oQ b3 [ptr g.p] 35],baseA g] [2,0] 3 rfl (by decide) (by decide)
  exact Hw.Sat.turned (h2.perm (List.Perm.of_eq (by simp [cat,atsA,argsA,rowAt])))
 refine Ck (Xn (Cs ?_))
 obtain ⟨gr,hrel⟩:∃ gr,relOf g.rs (Jax p)=some gr:=by
  cases hq:relOf g.rs (Jax p) with
  | none=>rw [hq] at c29;simp at c29
  | some gr=>exact ⟨gr,rfl⟩
 have hmem:=Jlo hrel
 have okr:=b.ok.ok _ hmem
 simp only [hrel,Option.map_some]
 refine Cr (Za rfl (Za rfl (Nn (Cs (Csr (Zv (OV.f0 0 rfl T.u29 rfl) (Zv (OV.ai (cs:=tmC p.b) rfl T.u26 rfl T.z26 (fun _ hw j v hj=>by rw [Jap];exact Jbo hw (.tail _ (.head _)) (o:=0) (cs':=tmC p.b) rfl j v hj)) (WL.bh (cs:=tmC p.b) T.u27 T.z26 T.zr26 rfl rfl (by omega) (by omega) rfl ?_))))))))
 intro b32
 refine WL.weak (S':=SatA w (baseA g) (row 26 3 (some ⟨b32,0,none⟩) 1 1 (tmC p.b)::oQ b7 (pdC (Jax p)) 107::oQ b5 (atC p a c) 29::oQ b3 [ptr g.p] 35::baseA g)) (fun w' hw=>hw.asRow (m:=1) rfl (by decide)) ?_
 refine Zv (OV.f0 4 rfl T.u29 rfl) (Zv (OV.l1 (v:=.slice a p.args.length c) rfl T.u27 rfl (.tail _ (.tail _ (.head _))) rfl) (WL.append (news:=p.args.flatMap tmC) rfl rfl T.apT (fun _ _=>Src.of_rt hr.nil (fun _ hw=>hr.satA hne hw)) (Jjh _) ⟨by omega,by unfold maxLen;omega⟩ rfl ?_))
 intro a35 c35
 refine Zv (OV.ae rfl T.u27) (Zm rfl (Nn (Cb ?_)))
 have el:1+p.args.length=(plc p).length:=by show _=p.args.length+1;omega
 have ef:tmC p.b++p.args.flatMap tmC=(plc p).flatMap tmC:=rfl
 have hpn:(plc p).length=p.args.length+1:=rfl
 rw [el,ef]
 refine WC.mq (fun w' hw=>(show ∃ b,a35=some ⟨b,0,none⟩ from Jeh (hw.it (rowT a35 c35 (plc p)) (.head _)) (by omega))) (fun hq=>?_)
 obtain ⟨q35,rfl⟩:=hq
 refine WC.weak (S':=SatA w (baseA g) (row 3 1 none ((ckOf g.vs 0 ((plc p).take 0)).map (·.1)).length 0 (ints ((ckOf g.vs 0 ((plc p).take 0)).map (·.1)))::row 3 1 none ((ckOf g.vs 0 ((plc p).take 0)).map (·.2)).length 0 (ints ((ckOf g.vs 0 ((plc p).take 0)).map (·.2)))::rowT (some ⟨q35,0,none⟩) c35 (plc p)::oQ b7 (pdC (Jax p)) 107::oQ b5 (atC p a c) 29::oQ b3 [ptr g.p] 35::baseA g)) (fun w' hw=>((hw.rowNil 3 1).rowNil 3 1).perm (List.Perm.of_eq (by first | rfl | (simp [ckOf,ints];rfl)))) ?_
 refine WC.ol (fun (i:Nat) (ca:Option Addr) (cc:Nat) (ka:Option Addr) (kc:Nat)=>[(1,.int .i64 parts),(3,.pointer (some ⟨b3,0,none⟩)),(5,.pointer (some ⟨b5,0,none⟩)),(7,.pointer (some ⟨b7,0,none⟩)),(8,ptr gr.r),(9,.slice ca ((ckOf g.vs 0 ((plc p).take i)).map (·.1)).length cc),(10,.slice ka ((ckOf g.vs 0 ((plc p).take i)).map (·.2)).length kc),(35,.slice (some ⟨q35,0,none⟩) (plc p).length c35),(36,.int .i64 ((plc p).length:Int)),(37,.int .i64 (i:Int))])
   (fun i ca cc ka kc w'=>(i≤(plc p).length∧Jne g.vs ((plc p).take i))∧SatA w (baseA g) (row 3 1 ca ((ckOf g.vs 0 ((plc p).take i)).map (·.1)).length cc (ints ((ckOf g.vs 0 ((plc p).take i)).map (·.1)))::row 3 1 ka ((ckOf g.vs 0 ((plc p).take i)).map (·.2)).length kc (ints ((ckOf g.vs 0 ((plc p).take i)).map (·.2)))::rowT (some ⟨q35,0,none⟩) c35 (plc p)::oQ b7 (pdC (Jax p)) 107::oQ b5 (atC p a c) 29::oQ b3 [ptr g.p] 35::baseA g) w')
   (fun i _ _ _ _=>(plc p).length - i) 0 none 0 none 0 ⟨rfl,rfl,rfl,rfl,rfl,rfl,rfl,by rw [← el];rfl,by rw [← el];rfl,rfl,trivial⟩ (fun w' hw=>⟨⟨by omega,fun t ht=>by simp at ht⟩,hw⟩) ?_
 intro i ca cc ka kc
 refine WC.pure (fun hi=>?_)
 obtain ⟨hi,hkn⟩:=hi
 refine Csr (Zv (OV.cm rfl rfl) (Nn (Cs ?_)))
 refine Cc rfl (fun c38=>?_) (fun c38=>?_)
 ·refine Ck (Xn (Cs (Cb (Csr (Zm rfl ?_)))))
  obtain ⟨t,htp⟩:∃ t,(plc p)[i]?=some t:=⟨_,List.getElem?_eq_getElem (by omega)⟩
  have htk:(plc p).take (i+1)=(plc p).take i++[t]:=by rw [List.take_add_one,htp];rfl
  refine Zv ((OV.ad rfl rfl T.u27 T.z26 (by omega)).cast (u:=.pointer (some ((⟨q35,0,none⟩:Addr).add (i*3)))) (by rw [Int.toNat_natCast])) ?_
  refine WL.val (OV.ai (cs:=tmC t) rfl T.u26 rfl T.z26 (fun _ hw j v hj=>by have hj3:j<3:=(List.getElem?_eq_some_iff.1 hj).1;have h:=Jck rfl (hw.it (rowT (some ⟨q35,0,none⟩) c35 (plc p)) (.tail _ (.tail _ (.head _)))) (i*3+j) v (by rw [Jco Jcu _ i j t htp (by omega)];exact hj);rwa [Jdm] at h)) rfl ?_
  refine WL.alloc T.zr26 rfl ?_
  intro b12
  refine Za rfl (WL.ag (vs:=tmC t) rfl rfl rfl T.z26 rfl ?_)
  refine Nn (Cs (Csr (Zv (OV.lN (cs:=tmC t) rfl T.u26 rfl T.z26 (.head _)) (WL.au (v:=.bool (varB t)) (by kernel_rfl) rfl rfl (fun w' hw'=>Jcn t w') ?_))))
  refine Nn ?_
  refine Cc rfl (fun c43=>?_) (fun c43=>?_)
  ·refine Ce (Xe (Xh (Xn (Cr (Zv (OV.bi (j:=1) rfl rfl (by omega)) (Zm rfl (Nl ?_)))))))
   have hv:varB t=true:=by simpa using c43
   have e1:ckOf g.vs 0 ((plc p).take (i+1))=ckOf g.vs 0 ((plc p).take i):=by rw [htk,Jod,if_pos hv,List.append_nil]
   exact WX.l8 (i+1) ca cc ka kc ⟨rfl,rfl,rfl,rfl,rfl,by rw [e1];rfl,by rw [e1];rfl,rfl,rfl,rfl,trivial⟩ (fun w' hw=>⟨⟨by omega,fun u hu h0=>by
    rw [htk] at hu
    rcases List.mem_append.1 hu with h | h
    ·exact hkn u h h0
    ·simp only [List.mem_singleton] at h;subst h;rw [hv] at h0;cases h0⟩,by rw [e1];exact hw.drop⟩) (by show (plc p).length - (i+1)<(plc p).length - i;omega)
  refine Ck (Xn (Cs (Hd (fun w'=>w'.heap[b3]?=some (.cells [ptr g.p].toArray 35 (0,0))∧w'.heap[b12]?=some (.cells (tmC t).toArray 26 (0,0))) [] (fun _ hw=>⟨hw.it (oQ b3 [ptr g.p] 35) (by simp),hw.it (oQ b12 (tmC t) 26) (.head _)⟩) (m:=10) rfl ?_)))
  refine Ht 0 rfl (OV.ah (v:=ptr g.p) rfl T.u35 rfl (fun _ hw=>(Jav hw.1 (o:=0) rfl).1)) (Hf 1 rfl (OV.ak rfl) (Hf 2 rfl (OV.f0 0 rfl T.u105 rfl) (Ht 3 rfl (OV.ai (cs:=tmC t) rfl T.u26 rfl T.z26 (fun _ hw j v hj=>by rw [Jap];exact Jb3 hw.2 (o:=0) (cs':=tmC t) rfl j v hj)) (Ho 4 rfl (fl':=false) rfl ?_))))
  refine WL.au (v:=.tuple #[.int .i64 (((numOf g.vs t).getD 0:Nat):Int),.bool (numOf g.vs t).isSome]) (by kernel_rfl) rfl rfl (fun w' hw'=>known_calls g b.ok t w' (Hw.Sat.part (sub_tabP (X:=[oQ b12 (tmC t) 26,row 3 1 ca ((ckOf g.vs 0 ((plc p).take i)).map (·.1)).length cc (ints ((ckOf g.vs 0 ((plc p).take i)).map (·.1))),row 3 1 ka ((ckOf g.vs 0 ((plc p).take i)).map (·.2)).length kc (ints ((ckOf g.vs 0 ((plc p).take i)).map (·.2))),rowT (some ⟨q35,0,none⟩) c35 (plc p),oQ b7 (pdC (Jax p)) 107,oQ b5 (atC p a c) 29,oQ b3 [ptr g.p] 35])) hw').holdsAll) ?_
  refine Hc (fun _=>(fun _ hw=>⟨hw.it (oQ b3 [ptr g.p] 35) (by simp),hw.it (oQ b12 (tmC t) 26) (.head _)⟩)) ?_
  refine Hf 5 rfl (OV.aw rfl) (Hf 6 rfl (OV.extract rfl rfl) (Hf 7 rfl (OV.extract rfl rfl) (Hf 8 rfl (OV.assign rfl) (Hf 9 rfl (OV.assign rfl) (He (Xn (Cs (Csr (Zm rfl (Zv (OV.not rfl) (Nn ?_)))))))))))
  refine Cc rfl (fun c53=>?_) (fun c53=>?_)
  ·refine Csr (Za rfl (Nn (WC.az ?_)))
   refine Xr (Xq (Xr (Xr (Xq (Xr ?_)))))
   have hv:varB t=false:=by simpa using c43
   have hnil:=foundF_nil b (found_unknown b.ok (fun hk=>by have h:=hk t (List.mem_of_getElem? htp) hv;rw [h] at c53;simp at c53) parts)
   refine WX.ret1 rfl rfl rfl (fun w' hw=>⟨⟨g,none,0,[]⟩,rfl,⟨by rw [hnil];rfl,b,rfl,(fun y hy=>by cases hy),Nat.zero_le _⟩,?_⟩)
   have h2:=(hw.rowNil 29 5).pick [[row 29 5 none 0 0 []],[oQ b12 (tmC t) 26,row 3 1 ca ((ckOf g.vs 0 ((plc p).take i)).map (·.1)).length cc (ints ((ckOf g.vs 0 ((plc p).take i)).map (·.1))),row 3 1 ka ((ckOf g.vs 0 ((plc p).take i)).map (·.2)).length kc (ints ((ckOf g.vs 0 ((plc p).take i)).map (·.2))),rowT (some ⟨q35,0,none⟩) c35 (plc p),oQ b7 (pdC (Jax p)) 107,oQ b5 (atC p a c) 29,oQ b3 [ptr g.p] 35],baseA g] [2,0] 3 rfl (by decide) (by decide)
   exact Hw.Sat.turned (h2.perm (List.Perm.of_eq (by simp [cat,atsA,argsA,rowAt])))
  refine Ck (Xn ?_)
  obtain ⟨n,hn⟩:∃ n,numOf g.vs t=some n:=by
   cases hq:numOf g.vs t with
   | none=>rw [hq] at c53;simp at c53
   | some n=>exact ⟨n,rfl⟩
  have hcl:=Jo2 g.vs 0 ((plc p).take i)
  have hc1:((ckOf g.vs 0 ((plc p).take i)).map (·.1)).length=(ckOf g.vs 0 ((plc p).take i)).length:=List.length_map ..
  have hk1:((ckOf g.vs 0 ((plc p).take i)).map (·.2)).length=(ckOf g.vs 0 ((plc p).take i)).length:=List.length_map ..
  rw [List.length_take] at hcl
  simp only [hn,Option.getD_some]
  refine Cr (Zm rfl (Zm rfl (WL.bn (v:=.int .i64 (i:Int)) T.u51 T.z3 T.zr3 rfl rfl rfl ?_)))
  intro b56
  refine WL.focus (ow':=row 3 1 ca ((ckOf g.vs 0 ((plc p).take i)).map (·.1)).length cc (ints ((ckOf g.vs 0 ((plc p).take i)).map (·.1)))::oQ b56 [Value.int .i64 (i:Int)] 3::oQ b12 (tmC t) 26::row 3 1 ka ((ckOf g.vs 0 ((plc p).take i)).map (·.2)).length kc (ints ((ckOf g.vs 0 ((plc p).take i)).map (·.2)))::rowT (some ⟨q35,0,none⟩) c35 (plc p)::oQ b7 (pdC (Jax p)) 107::oQ b5 (atC p a c) 29::oQ b3 [ptr g.p] 35::baseA g) (pmP [_,_,_] [2,0,1]) ?_
  refine WL.append (news:=[.int .i64 (i:Int)]) rfl rfl T.apI (fun _ _=>Jd9 (.tail _ (.head _)) rfl) (Jea [(i:Int)]) ⟨by omega,by unfold maxLen;omega⟩ rfl ?_
  intro a57 c57
  refine Zm rfl (Zm rfl (WL.bn (v:=.int .i64 ((n:Nat):Int)) T.u51 T.z3 T.zr3 rfl rfl rfl ?_))
  intro b60
  refine WL.focus perm4 ?_
  refine WL.append (news:=[.int .i64 ((n:Nat):Int)]) rfl rfl T.apI (fun _ _=>Jd9 (.tail _ (.head _)) rfl) (Jea [(n:Int)]) ⟨by omega,by unfold maxLen;omega⟩ rfl ?_
  intro a61 c61
  refine Za rfl (Za rfl (Nl (Xb (Xn (Cr (Zv (OV.bi (j:=1) rfl rfl (by omega)) (Zm rfl (Nl ?_))))))))
  have hv:¬ varB t=true:=by simpa using c43
  have hil:((plc p).take i).length=i:=by rw [List.length_take];omega
  have e1:ckOf g.vs 0 ((plc p).take (i+1))=ckOf g.vs 0 ((plc p).take i)++[((i:Int),((n:Nat):Int))]:=by rw [htk,Jod,if_neg hv,hil,hn,Nat.zero_add];rfl
  have e2:((ckOf g.vs 0 ((plc p).take (i+1))).map (·.1))=((ckOf g.vs 0 ((plc p).take i)).map (·.1))++[(i:Int)]:=by rw [e1,List.map_append];rfl
  have e3:((ckOf g.vs 0 ((plc p).take (i+1))).map (·.2))=((ckOf g.vs 0 ((plc p).take i)).map (·.2))++[((n:Nat):Int)]:=by rw [e1,List.map_append];rfl
  have l2:((ckOf g.vs 0 ((plc p).take i)).map (·.1)).length+1=((ckOf g.vs 0 ((plc p).take (i+1))).map (·.1)).length:=by rw [e2];simp
  have l3:((ckOf g.vs 0 ((plc p).take i)).map (·.2)).length+1=((ckOf g.vs 0 ((plc p).take (i+1))).map (·.2)).length:=by rw [e3];simp
  have i2:ints ((ckOf g.vs 0 ((plc p).take i)).map (·.1))++[.int .i64 (i:Int)]=ints ((ckOf g.vs 0 ((plc p).take (i+1))).map (·.1)):=by rw [e2];simp [ints]
  have i3:ints ((ckOf g.vs 0 ((plc p).take i)).map (·.2))++[.int .i64 ((n:Nat):Int)]=ints ((ckOf g.vs 0 ((plc p).take (i+1))).map (·.2)):=by rw [e3];simp [ints]
  refine WX.l8 (i+1) a57 c57 a61 c61 ⟨rfl,rfl,rfl,rfl,rfl,by rw [← l2];rfl,by rw [← l3];rfl,rfl,rfl,rfl,trivial⟩ (fun w' hw=>⟨⟨by omega,fun u hu h0=>?_⟩,?_⟩) (by show (plc p).length - (i+1)<(plc p).length - i;omega)
  ·rw [htk] at hu
   rcases List.mem_append.1 hu with h | h
   ·exact hkn u h h0
   ·simp only [List.mem_singleton] at h;subst h;rw [hn];rfl
  ·rw [l2,l3,i2,i3] at hw
   exact hw.pik [[row 3 1 a61 ((ckOf g.vs 0 ((plc p).take (i+1))).map (·.2)).length c61 (ints ((ckOf g.vs 0 ((plc p).take (i+1))).map (·.2)))],[oQ b60 [Value.int .i64 ((n:Nat):Int)] 3],[row 3 1 a57 ((ckOf g.vs 0 ((plc p).take (i+1))).map (·.1)).length c57 (ints ((ckOf g.vs 0 ((plc p).take (i+1))).map (·.1)))],[oQ b56 [Value.int .i64 (i:Int)] 3],[oQ b12 (tmC t) 26],[rowT (some ⟨q35,0,none⟩) c35 (plc p)],[oQ b7 (pdC (Jax p)) 107],[oQ b5 (atC p a c) 29],[oQ b3 [ptr g.p] 35],baseA g] [2,0,5,6,7,8,9] 10
 refine Ce (Xe (Xe (Xh (Xn (Cs ?_)))))
 have hie:(plc p).take i=plc p:=List.take_of_length_le (by omega)
 rw [hie] at hkn
 simp only [hie]
 have hck:=Jo2 g.vs 0 (plc p)
 have hi6:=ck_i64 b.ok.vl (plc p) (by omega)
 obtain ⟨r1,r2,hs⟩:=List.append_of_mem hmem
 have hcl:((ckOf g.vs 0 (plc p)).map (·.1)).length=(ckOf g.vs 0 (plc p)).length:=List.length_map ..
 have hkl:((ckOf g.vs 0 (plc p)).map (·.2)).length=(ckOf g.vs 0 (plc p)).length:=List.length_map ..
 generalize hC:(ckOf g.vs 0 (plc p)).map (·.1)=cs at *
 generalize hK:(ckOf g.vs 0 (plc p)).map (·.2)=ks at *
 refine Cr (WL.alloc T.zr22 rfl ?_)
 intro b15
 refine Nn (Cs (Csr (Zm rfl (Zm rfl (Zv (OV.and rfl rfl) (Zm rfl (Zm rfl (WL.focus (ow':=[oQ b15 [.slice none 0 0] 22]++([row 3 1 ca cs.length cc (ints cs),row 3 1 ka ks.length kc (ints ks),rowT (some ⟨q35,0,none⟩) c35 (plc p),oQ b7 (pdC (Jax p)) 107,oQ b5 (atC p a c) 29,oQ b3 [ptr g.p] 35]++(tabA g++([rbA g]++(relsA r1++(relA gr++relsA r2)))))) (List.Perm.of_eq (by unfold baseA;rw [hs,Jez];rfl)) ?_))))))))
 refine WL.focus (ow':=relA gr++([oQ b15 [.slice none 0 0] 22]++([row 3 1 ca cs.length cc (ints cs),row 3 1 ka ks.length kc (ints ks),rowT (some ⟨q35,0,none⟩) c35 (plc p),oQ b7 (pdC (Jax p)) 107,oQ b5 (atC p a c) 29,oQ b3 [ptr g.p] 35]++(tabA g++([rbA g]++(relsA r1++relsA r2)))))) (by exact pmC [[oQ b15 [.slice none 0 0] 22],[row 3 1 ca cs.length cc (ints cs),row 3 1 ka ks.length kc (ints ks),rowT (some ⟨q35,0,none⟩) c35 (plc p),oQ b7 (pdC (Jax p)) 107,oQ b5 (atC p a c) 29,oQ b3 [ptr g.p] 35],tabA g,[rbA g],relsA r1,relA gr,relsA r2] [5,0,1,2,3,4,6]) ?_
 refine WL.cT (ι:=FB) (vs:=[ptr gr.r,.int .i64 (bits .and .i64 parts 7),.slice ca cs.length cc,.slice ka ks.length kc]) (vv:=fun Fb=>Fb.fn) (pp:=fun Fb=>Fb.r=gr.r∧Fb.parts=(bits .and .i64 parts 7)∧QR gr.width cs ks Fb.ls Fb.ks Fb.b∧RelOK (colG gr Fb.col)) (relA gr) (AA:=fun Fb=>relA (colG gr Fb.col)++boxA Fb) rfl (fun w' hw' hH=>(find_calls gr okr (bits .and .i64 parts 7) cs ks ca cs.length cc ka ks.length kc hi6.1 hi6.2 (by omega) (by omega) w' (RI.of_row (c:=cc) hw' (List.mem_append_right _ (.tail _ (.head _)))) (RI.of_row (c:=kc) hw' (List.mem_append_right _ (.tail _ (.tail _ (.head _))))) (fun q hq hl=>Sat.sepO hw' (i:=row 3 1 ca cs.length cc (ints cs)) (.tail _ (.head _)) ⟨q,hq,rfl⟩) (fun q hq hl=>Sat.sepO hw' (i:=row 3 1 ka ks.length kc (ints ks)) (.tail _ (.tail _ (.head _))) ⟨q,hq,rfl⟩) hH).mono (fun en w'' ⟨Fb,h1,h2,h3,h4,h5,h6⟩=>⟨Fb,h1,⟨h2,h3,h4,h5⟩,h6⟩)) ?_
 rintro Fb ⟨hFr,hFp,hq,ok1⟩
 refine Nn (Cb ?_)
 refine WC.weak (S':=SatA w (baseA g) ((relA (colG gr Fb.col)++boxA Fb)++((fun y:Option Addr × Nat × List AG=>oQ b15 [.slice y.1 y.2.2.length y.2.1] 22::(atsA y.1 y.2.1 y.2.2++([row 3 1 ca cs.length cc (ints cs),row 3 1 ka ks.length kc (ints ks),rowT (some ⟨q35,0,none⟩) c35 (plc p),oQ b7 (pdC (Jax p)) 107,oQ b5 (atC p a c) 29,oQ b3 [ptr g.p] 35]++(tabA g++([rbA g]++(relsA r1++relsA r2)))))) (none,0,[])++[]))) (fun w' hw=>?_) ?_
 ·have h2:=hw.rowNil 29 5
  refine h2.perm ?_
  exact (List.Perm.of_eq (by simp [cat,atsA,argsA,rowAt])).trans (pmC [[row 29 5 none 0 0 []],(relA (colG gr Fb.col)++boxA Fb),[oQ b15 [.slice none 0 0] 22],([row 3 1 ca cs.length cc (ints cs),row 3 1 ka ks.length kc (ints ks),rowT (some ⟨q35,0,none⟩) c35 (plc p),oQ b7 (pdC (Jax p)) 107,oQ b5 (atC p a c) 29,oQ b3 [ptr g.p] 35]++(tabA g++([rbA g]++(relsA r1++relsA r2))))] [1,2,0,3])
 refine WC.rangeFunc (RA:=fun q=>relA q++boxA Fb) (CC:=(fun y:Option Addr × Nat × List AG=>oQ b15 [.slice y.1 y.2.2.length y.2.1] 22::(atsA y.1 y.2.1 y.2.2++([row 3 1 ca cs.length cc (ints cs),row 3 1 ka ks.length kc (ints ks),rowT (some ⟨q35,0,none⟩) c35 (plc p),oQ b7 (pdC (Jax p)) 107,oQ b5 (atC p a c) 29,oQ b3 [ptr g.p] 35]++(tabA g++([rbA g]++(relsA r1++relsA r2))))))) (EI:=EIr) (arg:=argr) (xs:=(selR (rp gr) Fb.parts cs ks)) (g0:=(colG gr Fb.col)) (y0:=(none,0,[])) (R01:=fun q=>RelOK q∧RelLe (colG gr Fb.col) q∧q.es=(colG gr Fb.col).es) (Mono:=fun q=>RelLe (colG gr Fb.col) q) (gf:=133) (caps:=Fb.caps) (ow:=[]) rfl rfl (by kernel_rfl) rfl (fun w' _=>find1_iter Fb (colG gr Fb.col) ok1 cs ks hq hFr (List.mem_append_right _ (.head _)) w')
  (fun k q y=>RelOK q∧RelLe (colG gr Fb.col) q∧q.es=gr.es∧y.2.2.map AG.x=((((selR (rp gr) Fb.parts cs ks).take k).map (Jbx g.vs (Jax p))).filter (Jcz p))∧(∀ z∈y.2.2,z.x.args.length≤8)) (fun _ _ _ _=>False) (fun q hq=>⟨hq.1,hq.2.1,hq.2.2,by simp,fun z hz=>by cases hz⟩) (fun k q y h=>h.2.1) ?_ ?_ ?_
 ·rintro l lr k q ⟨la,lc,ys⟩ d W rw hxs hJ hS
  obtain ⟨okq,leq,hqe,hys,hya⟩:RelOK q∧RelLe (colG gr Fb.col) q∧q.es=gr.es∧ys.map AG.x=((((selR (rp gr) Fb.parts cs ks).take k).map (Jbx g.vs (Jax p))).filter (Jcz p))∧(∀ z∈ys,z.x.args.length≤8):=hJ
  obtain ⟨rq,hrq,hrl⟩:=selR_mem2 (List.mem_of_getElem? hxs)
  obtain ⟨hrwl,hrin⟩:=Jih b.ok hmem hrq
  rw [hrl] at hrwl hrin
  have har:=b.ok.ar _ hmem
  have hfa:(Jbx g.vs (Jax p) rw).args.length≤8:=by
   have h1:(Jbx g.vs (Jax p) rw).args.length=rw.length - 1:=by simp [Jbx]
   omega
  have hyl:ys.length≤1099511627776:=by
   have h1:=congrArg List.length hys
   rw [List.length_map] at h1
   have h2:=List.length_filter_le (Jcz p) (((selR (rp gr) Fb.parts cs ks).take k).map (Jbx g.vs (Jax p)))
   rw [List.length_map,List.length_take] at h2
   have h3:=selR_len (rp gr) Fb.parts cs ks
   rw [Jnq] at h3
   have hel:gr.es.length≤1099511627776:=okr.el
   omega
  have hrW:RT W a p.args:=hr.satA hne hS
  refine Cr (Za rfl (Nl (WX.begin ?_)))
  refine WC.focus (ow':=oQ b15 [.slice la ys.length lc] 22::rowAt la lc ys::row 3 1 d.1 rw.length d.2 (ints rw)::own l (lr.ob .busy none)::(argsA ys++(([row 3 1 ca cs.length cc (ints cs),row 3 1 ka ks.length kc (ints ks),rowT (some ⟨q35,0,none⟩) c35 (plc p),oQ b7 (pdC (Jax p)) 107,oQ b5 (atC p a c) 29,oQ b3 [ptr g.p] 35]++(tabA g++([rbA g]++(relsA r1++relsA r2))))++(relA q++boxA Fb)))) ((pmC [[own l (lr.ob .busy none)],[row 3 1 d.1 rw.length d.2 (ints rw)],(relA q++boxA Fb),[oQ b15 [.slice la ys.length lc] 22,rowAt la lc ys],argsA ys,([row 3 1 ca cs.length cc (ints cs),row 3 1 ka ks.length kc (ints ks),rowT (some ⟨q35,0,none⟩) c35 (plc p),oQ b7 (pdC (Jax p)) 107,oQ b5 (atC p a c) 29,oQ b3 [ptr g.p] 35]++(tabA g++([rbA g]++(relsA r1++relsA r2))))] [3,1,0,4,5,2]).trans (List.Perm.of_eq (by simp [cat,atsA]))) ?_
  refine Cb (Csr (Zv (OV.ah (v:=ptr g.p) rfl T.u35 rfl (fun _ hw=>Jla hw (show oQ b3 [ptr g.p] 35∈_ by simp))) (Zv (OV.lN (cs:=pdC (Jax p)) rfl T.u107 rfl T.z107 (show oQ b7 (pdC (Jax p)) 107∈_ by simp)) (Zm rfl ?_))))
  have hsub:(tabA g).Sublist ([oQ b15 [.slice la ys.length lc] 22,rowAt la lc ys,row 3 1 d.1 rw.length d.2 (ints rw),own l (lr.ob .busy none)]++(argsA ys++(([row 3 1 ca cs.length cc (ints cs),row 3 1 ka ks.length kc (ints ks),rowT (some ⟨q35,0,none⟩) c35 (plc p),oQ b7 (pdC (Jax p)) 107,oQ b5 (atC p a c) 29,oQ b3 [ptr g.p] 35]++(tabA g++([rbA g]++(relsA r1++relsA r2))))++(relA q++boxA Fb)))):=((((List.sublist_append_left (tabA g) _).trans (List.sublist_append_right [row 3 1 ca cs.length cc (ints cs),row 3 1 ka ks.length kc (ints ks),rowT (some ⟨q35,0,none⟩) c35 (plc p),oQ b7 (pdC (Jax p)) 107,oQ b5 (atC p a c) 29,oQ b3 [ptr g.p] 35] _)).trans (List.sublist_append_left ([row 3 1 ca cs.length cc (ints cs),row 3 1 ka ks.length kc (ints ks),rowT (some ⟨q35,0,none⟩) c35 (plc p),oQ b7 (pdC (Jax p)) 107,oQ b5 (atC p a c) 29,oQ b3 [ptr g.p] 35]++(tabA g++([rbA g]++(relsA r1++relsA r2)))) (relA q++boxA Fb))).trans (List.sublist_append_right (argsA ys) _)).trans (List.sublist_append_right _ _)
  refine WL.cT (ι:=Option Addr × Nat) (vs:=[ptr g.p,pdV (Jax p),.slice d.1 rw.length d.2]) (vv:=fun q=>atV (Jbx g.vs (Jax p) rw) q.1 q.2) (pp:=fun _=>True) [] (AA:=fun q=>[rowT q.1 q.2 (Jbx g.vs (Jax p) rw).args]) rfl (fun w' hw' _=>(bfact_calls g b.ok (Jax p) rw d.1 d.2 (by omega) (by omega) (row_cap (hw'.it (row 3 1 d.1 rw.length d.2 (ints rw)) (.tail _ (.tail _ (.head _))))) hrin w' (RI.of_row (c:=d.2) hw' (.tail _ (.tail _ (.head _)))) (Hw.Sat.part hsub hw').holdsAll).mono (fun en w'' ⟨la,lc,h1,h2⟩=>⟨(la,lc),h1,trivial,h2⟩)) ?_
  rintro ⟨fa,fc⟩ _
  refine WL.alloc T.zr29 rfl ?_
  intro b17
  refine WL.ag (vs:=atC (Jbx g.vs (Jax p) rw) fa fc) rfl rfl rfl T.z29 rfl ?_
  refine Nn (Csr (Zv (OV.lN (cs:=atC p a c) rfl T.u29 rfl T.z29 (show oQ b5 (atC p a c) 29∈_ by simp)) (Zv (OV.lN (cs:=atC (Jbx g.vs (Jax p) rw) fa fc) rfl T.u29 rfl T.z29 (.head _)) (WL.focus (ow':=[]++(oQ b17 (atC (Jbx g.vs (Jax p) rw) fa fc) 29::rowT fa fc (Jbx g.vs (Jax p) rw).args::oQ b15 [.slice la ys.length lc] 22::rowAt la lc ys::row 3 1 d.1 rw.length d.2 (ints rw)::own l (lr.ob .busy none)::(argsA ys++(([row 3 1 ca cs.length cc (ints cs),row 3 1 ka ks.length kc (ints ks),rowT (some ⟨q35,0,none⟩) c35 (plc p),oQ b7 (pdC (Jax p)) 107,oQ b5 (atC p a c) 29,oQ b3 [ptr g.p] 35]++(tabA g++([rbA g]++(relsA r1++relsA r2))))++(relA q++boxA Fb))))) (List.Perm.refl _) ?_))))
  refine WL.cT (ι:=Value) (vs:=[atV p a c,atV (Jbx g.vs (Jax p) rw) fa fc,.slice none 0 0]) (vv:=fun v=>.tuple #[v,.bool (Jcz p (Jbx g.vs (Jax p) rw))]) (pp:=fun _=>True) [] (AA:=fun _=>[]) rfl (fun w' hw' _=>(match_calls p (Jbx g.vs (Jax p) rw) a fa c fc hl (by have:=hfa;omega) w' (hrW.satA (fun q hq hl hd=>by obtain ⟨i,hi,hb⟩:=hd;exact (hS.lt i (by simpa using hi) _ hb).2.1 ⟨hr.lt hq hl,hne q hq hl⟩) hw') (RT.of_row (c:=fc) rfl hw' (.tail _ (.head _)))).mono (fun en w'' ⟨v,h1,h2⟩=>⟨v,h1,trivial,turns0 h2⟩)) ?_
  rintro mv _
  refine Zm rfl (Zv (OV.extract rfl rfl) (Zv (OV.extract rfl rfl) (Za rfl (Za rfl (Nn (Csr (Zm rfl (Nn ?_))))))))
  refine Cc rfl (fun c80=>?_) (fun c80=>?_)
  ·refine Cr (Zv (OV.ah (v:=.slice la ys.length lc) rfl T.u22 rfl (fun _ hw=>Jla hw (show oQ b15 [.slice la ys.length lc] 22∈_ by simp))) (Zv (OV.lN (cs:=atC (Jbx g.vs (Jax p) rw) fa fc) rfl T.u29 rfl T.z29 (.head _)) (WL.bh (cs:=agC ⟨Jbx g.vs (Jax p) rw,fa,fc⟩) T.u22 T.z29 T.zr29 rfl rfl (by omega) (by omega) rfl ?_)))
   intro b83
   refine WL.focus (ow':=rowAt la lc ys::oQ b83 (agC ⟨Jbx g.vs (Jax p) rw,fa,fc⟩) 29::oQ b17 (atC (Jbx g.vs (Jax p) rw) fa fc) 29::rowT fa fc (Jbx g.vs (Jax p) rw).args::oQ b15 [.slice la ys.length lc] 22::row 3 1 d.1 rw.length d.2 (ints rw)::own l (lr.ob .busy none)::(argsA ys++(([row 3 1 ca cs.length cc (ints cs),row 3 1 ka ks.length kc (ints ks),rowT (some ⟨q35,0,none⟩) c35 (plc p),oQ b7 (pdC (Jax p)) 107,oQ b5 (atC p a c) 29,oQ b3 [ptr g.p] 35]++(tabA g++([rbA g]++(relsA r1++relsA r2))))++(relA q++boxA Fb)))) (pmP [_,_,_,_,_,_,_] [4,0,1,2,3,5,6]) ?_
   refine WL.append (news:=agC ⟨Jbx g.vs (Jax p) rw,fa,fc⟩) rfl rfl T.apA (fun _ _=>Jcs (.tail _ (.head _)) rfl) (Jji _) ⟨by omega,by unfold maxLen;omega⟩ rfl ?_
   intro a84 c84
   refine WL.focus perm4 (WL.br (o:=0) rfl rfl rfl T.z22 Nat.zero_lt_one ?_)
   refine Nl (Xb ?_)
   have hm:Jcz p (Jbx g.vs (Jax p) rw)=true:=by simpa using c80
   have el:ys.length+1=(ys++[(⟨Jbx g.vs (Jax p) rw,fa,fc⟩:AG)]).length:=by simp
   have ef:ys.flatMap agC++agC ⟨Jbx g.vs (Jax p) rw,fa,fc⟩=(ys++[(⟨Jbx g.vs (Jax p) rw,fa,fc⟩:AG)]).flatMap agC:=by simp
   have em:argsA (ys++[(⟨Jbx g.vs (Jax p) rw,fa,fc⟩:AG)])=argsA ys++[rowT fa fc (Jbx g.vs (Jax p) rw).args]:=by simp [argsA]
   refine WX.focus (ow':=own l (lr.ob .busy none)::((relA q++boxA Fb)++(oQ b15 [.slice a84 (ys++[(⟨Jbx g.vs (Jax p) rw,fa,fc⟩:AG)]).length c84] 22::rowAt a84 c84 (ys++[(⟨Jbx g.vs (Jax p) rw,fa,fc⟩:AG)])::(argsA ys++(rowT fa fc (Jbx g.vs (Jax p) rw).args::(([row 3 1 ca cs.length cc (ints cs),row 3 1 ka ks.length kc (ints ks),rowT (some ⟨q35,0,none⟩) c35 (plc p),oQ b7 (pdC (Jax p)) 107,oQ b5 (atC p a c) 29,oQ b3 [ptr g.p] 35]++(tabA g++([rbA g]++(relsA r1++relsA r2))))++[oQ b83 (agC ⟨Jbx g.vs (Jax p) rw,fa,fc⟩) 29,oQ b17 (atC (Jbx g.vs (Jax p) rw) fa fc) 29,row 3 1 d.1 rw.length d.2 (ints rw)])))))) ?_ (WX.ku (fun w' hw=>⟨q,(a84,c84,ys++[(⟨Jbx g.vs (Jax p) rw,fa,fc⟩:AG)]),lr.ob .ready none,fun _=>⟨⟨okq,leq,hqe,?_,?_⟩,rfl⟩,fun h=>(by cases h),?_⟩))
   ·rw [el,ef]
    exact (pmC [[oQ b15 [.slice a84 (ys++[(⟨Jbx g.vs (Jax p) rw,fa,fc⟩:AG)]).length c84] 22],[rowAt a84 c84 (ys++[(⟨Jbx g.vs (Jax p) rw,fa,fc⟩:AG)])],[oQ b83 (agC ⟨Jbx g.vs (Jax p) rw,fa,fc⟩) 29],[oQ b17 (atC (Jbx g.vs (Jax p) rw) fa fc) 29],[rowT fa fc (Jbx g.vs (Jax p) rw).args],[row 3 1 d.1 rw.length d.2 (ints rw)],[own l (lr.ob .busy none)],argsA ys,([row 3 1 ca cs.length cc (ints cs),row 3 1 ka ks.length kc (ints ks),rowT (some ⟨q35,0,none⟩) c35 (plc p),oQ b7 (pdC (Jax p)) 107,oQ b5 (atC p a c) 29,oQ b3 [ptr g.p] 35]++(tabA g++([rbA g]++(relsA r1++relsA r2)))),(relA q++boxA Fb)] [6,9,0,1,7,4,8,2,3,5])
   ·show (ys++[_]).map AG.x=_
    rw [List.map_append,hys,List.take_add_one,hxs,List.map_append,List.filter_append]
    simp [hm]
   ·intro z hz
    rcases List.mem_append.1 hz with h | h
    ·exact hya z h
    ·simp only [List.mem_singleton] at h;subst h;exact hfa
   ·show Turns _ (own l (lr.ob .ready none)::((relA q++boxA Fb)++(oQ b15 [.slice a84 (ys++[(⟨Jbx g.vs (Jax p) rw,fa,fc⟩:AG)]).length c84] 22::(atsA a84 c84 (ys++[(⟨Jbx g.vs (Jax p) rw,fa,fc⟩:AG)])++([row 3 1 ca cs.length cc (ints cs),row 3 1 ka ks.length kc (ints ks),rowT (some ⟨q35,0,none⟩) c35 (plc p),oQ b7 (pdC (Jax p)) 107,oQ b5 (atC p a c) 29,oQ b3 [ptr g.p] 35]++(tabA g++([rbA g]++(relsA r1++relsA r2)))))))) _ _
    unfold atsA
    rw [em]
    exact Hw.Sat.turnedL (B:=[oQ b83 (agC ⟨Jbx g.vs (Jax p) rw,fa,fc⟩) 29,oQ b17 (atC (Jbx g.vs (Jax p) rw) fa fc) 29,row 3 1 d.1 rw.length d.2 (ints rw)]) (hw.perm (List.Perm.of_eq (by simp)))
  refine Ck (Xb ?_)
  have hm:Jcz p (Jbx g.vs (Jax p) rw)=false:=by simpa using c80
  refine WX.focus (ow':=own l (lr.ob .busy none)::((relA q++boxA Fb)++(oQ b15 [.slice la ys.length lc] 22::rowAt la lc ys::(argsA ys++(([row 3 1 ca cs.length cc (ints cs),row 3 1 ka ks.length kc (ints ks),rowT (some ⟨q35,0,none⟩) c35 (plc p),oQ b7 (pdC (Jax p)) 107,oQ b5 (atC p a c) 29,oQ b3 [ptr g.p] 35]++(tabA g++([rbA g]++(relsA r1++relsA r2))))++[oQ b17 (atC (Jbx g.vs (Jax p) rw) fa fc) 29,rowT fa fc (Jbx g.vs (Jax p) rw).args,row 3 1 d.1 rw.length d.2 (ints rw)]))))) (by exact pmC [[oQ b17 (atC (Jbx g.vs (Jax p) rw) fa fc) 29],[rowT fa fc (Jbx g.vs (Jax p) rw).args],[oQ b15 [.slice la ys.length lc] 22],[rowAt la lc ys],[row 3 1 d.1 rw.length d.2 (ints rw)],[own l (lr.ob .busy none)],argsA ys,([row 3 1 ca cs.length cc (ints cs),row 3 1 ka ks.length kc (ints ks),rowT (some ⟨q35,0,none⟩) c35 (plc p),oQ b7 (pdC (Jax p)) 107,oQ b5 (atC p a c) 29,oQ b3 [ptr g.p] 35]++(tabA g++([rbA g]++(relsA r1++relsA r2)))),(relA q++boxA Fb)] [5,8,2,3,6,7,0,1,4]) (WX.ku (fun w' hw=>⟨q,(la,lc,ys),lr.ob .ready none,fun _=>⟨⟨okq,leq,hqe,?_,hya⟩,rfl⟩,fun h=>(by cases h),?_⟩))
  ·show ys.map AG.x=_
   rw [hys,List.take_add_one,hxs,List.map_append,List.filter_append]
   simp [hm]
  ·show Turns _ (own l (lr.ob .ready none)::((relA q++boxA Fb)++(oQ b15 [.slice la ys.length lc] 22::(atsA la lc ys++([row 3 1 ca cs.length cc (ints cs),row 3 1 ka ks.length kc (ints ks),rowT (some ⟨q35,0,none⟩) c35 (plc p),oQ b7 (pdC (Jax p)) 107,oQ b5 (atC p a c) 29,oQ b3 [ptr g.p] 35]++(tabA g++([rbA g]++(relsA r1++relsA r2)))))))) _ _
   unfold atsA
   exact Hw.Sat.turnedL (B:=[oQ b17 (atC (Jbx g.vs (Jax p) rw) fa fc) 29,rowT fa fc (Jbx g.vs (Jax p) rw).args,row 3 1 d.1 rw.length d.2 (ints rw)]) (hw.perm (List.Perm.of_eq (by simp)))
 ·rintro D g2 ⟨la,lc,ys⟩ hJ
  obtain ⟨ok2,le2,he2,hys,hya⟩:RelOK g2∧RelLe (colG gr Fb.col) g2∧g2.es=gr.es∧ys.map AG.x=((((selR (rp gr) Fb.parts cs ks).take (selR (rp gr) Fb.parts cs ks).length).map (Jbx g.vs (Jax p))).filter (Jcz p))∧(∀ z∈ys,z.x.args.length≤8):=hJ
  have hyl:ys.length≤1099511627776:=by
   have h1:=congrArg List.length hys
   rw [List.length_map] at h1
   have h2:=List.length_filter_le (Jcz p) (((selR (rp gr) Fb.parts cs ks).take (selR (rp gr) Fb.parts cs ks).length).map (Jbx g.vs (Jax p)))
   rw [List.length_map,List.length_take] at h2
   have h3:=selR_len (rp gr) Fb.parts cs ks
   rw [Jnq] at h3
   have hel:gr.es.length≤1099511627776:=okr.el
   omega
  refine Xb (Xn (Csr (Zv (OV.ah (v:=.slice la ys.length lc) rfl T.u22 rfl (fun _ hw=>Jla hw (show oQ b15 [.slice la ys.length lc] 22∈_ by simp))) ?_)))
  refine WL.focus (ow':=rowAt la lc ys::(argsA ys++([own D (.deferred (some []))]++((relA g2++boxA Fb)++([oQ b15 [.slice la ys.length lc] 22]++(([row 3 1 ca cs.length cc (ints cs),row 3 1 ka ks.length kc (ints ks),rowT (some ⟨q35,0,none⟩) c35 (plc p),oQ b7 (pdC (Jax p)) 107,oQ b5 (atC p a c) 29,oQ b3 [ptr g.p] 35]++(tabA g++([rbA g]++(relsA r1++relsA r2))))++[])))))) (by
   refine List.Perm.trans (pmC [[own D (.deferred (some []))],(relA g2++boxA Fb),[oQ b15 [.slice la ys.length lc] 22],[rowAt la lc ys],argsA ys,([row 3 1 ca cs.length cc (ints cs),row 3 1 ka ks.length kc (ints ks),rowT (some ⟨q35,0,none⟩) c35 (plc p),oQ b7 (pdC (Jax p)) 107,oQ b5 (atC p a c) 29,oQ b3 [ptr g.p] 35]++(tabA g++([rbA g]++(relsA r1++relsA r2))))++[]] [3,4,0,1,2,5]) (List.Perm.of_eq ?_)
   simp [cat,atsA]) ?_
  obtain ⟨us,hus⟩:∃ us:List {y:AG // y∈ys},us.map (·.1)=ys:=⟨_,List.attach_map_subtype_val ys⟩
  have hul:us.length=ys.length:=by have h:=congrArg List.length hus;rwa [List.length_map] at h
  have huf:us.flatMap (fun z=>agC z.1)=ys.flatMap agC:=by have h:=congrArg (List.flatMap agC) hus;rwa [List.flatMap_map] at h
  refine WL.cT (ι:=List {y:AG // y∈ys}) (vs:=[.slice la ys.length lc,.func (.func 29) #[] #[]]) (vv:=fun _=>.tuple #[]) (pp:=fun vs=>vs.Perm us∧vs.Pairwise (fun x y=>Go.Proofs.ltOf (fun a b:{y:AG // y∈ys}=>cmpA a.1.x b.1.x) y x=false)) [rowAt la lc ys] (AA:=fun vs=>[rowAt la lc (vs.map (·.1))]) rfl (fun w' hw' hH=>?_) ?_
  ·have hcon:=sortFuncK_calls (P:=Tryz.prog) Tryz.sortA (T:=29) (c:=lc) 5 (by decide) (by kernel_rfl) T.z29 (fun z:{y:AG // y∈ys}=>agC z.1) (fun _=>rfl) (fun z=>Jji z.1) (fun a b=>cmpA a.1.x b.1.x) (cmpA_ok.pull_swo fun z:{y:AG // y∈ys}=>z.1.x) 29 (by kernel_rfl) la us w' (by rw [hul,huf];exact hH) ?_ (by omega)
   ·rw [hul,huf] at hcon
    refine hcon.mono ?_
    rintro en w'' ⟨h1,vs,h2,h3,h4⟩
    refine ⟨vs,h1,⟨h2,h3⟩,?_⟩
    have e1:(vs.map (·.1)).length=vs.length:=List.length_map ..
    have e2:(vs.map (·.1)).flatMap agC=vs.flatMap fun z=>agC z.1:=by rw [List.flatMap_map]
    show Turns _ [row _ _ la (vs.map (·.1)).length lc ((vs.map (·.1)).flatMap agC)] _ _
    rw [e1,e2];exact h4
   ·intro q hq w2 hf y1 y2
    have hrt:∀ y:{y:AG // y∈ys},RT w2 y.1.a y.1.x.args:=fun y=>by
     have hm:argA y.1∈[rowAt la lc ys]++(argsA ys++([own D (.deferred (some []))]++((relA g2++boxA Fb)++([oQ b15 [.slice la ys.length lc] 22]++(([row 3 1 ca cs.length cc (ints cs),row 3 1 ka ks.length kc (ints ks),rowT (some ⟨q35,0,none⟩) c35 (plc p),oQ b7 (pdC (Jax p)) 107,oQ b5 (atC p a c) 29,oQ b3 [ptr g.p] 35]++(tabA g++([rbA g]++(relsA r1++relsA r2))))++[]))))):=List.mem_append_right _ (List.mem_append_left _ (List.mem_map.2 ⟨y.1,y.2,rfl⟩))
     refine RT.fr (RT.of_row (c:=y.1.c) rfl hw' hm) (fun q2 hq2 _ he=>?_) hf
     exact (List.pairwise_cons.1 hw'.disj).1 (argA y.1) (List.mem_append_right _ (List.mem_append_left _ (List.mem_map.2 ⟨y.1,y.2,rfl⟩))) q.block ⟨q,hq,rfl⟩ ⟨q2,hq2,he⟩
    exact cmpA_calls y1.1.x y2.1.x y1.1.a y2.1.a y1.1.c y2.1.c (by have:=hya y1.1 y1.2;omega) (by have:=hya y2.1 y2.2;omega) w2 (hrt y1) (hrt y2)
  rintro vs hpp
  obtain ⟨hvp,hvsort⟩:vs.Perm us∧vs.Pairwise (fun x y=>Go.Proofs.ltOf (fun a b:{y:AG // y∈ys}=>cmpA a.1.x b.1.x) y x=false):=hpp
  obtain ⟨ts,hts⟩:∃ ts,ts=vs.map (·.1):=⟨_,rfl⟩
  have htp:ts.Perm ys:=by have h:=hvp.map (·.1);rwa [hus,← hts] at h
  have htl:ts.length=ys.length:=htp.length_eq
  have hSS:(selR (rp gr) Fb.parts cs ks)=selR (rp gr) parts cs ks:=by rw [hFp];exact selR_and2 okr parts cs ks
  have hpm:(ys.map AG.x).Perm ((selF F parts).filter (Jcz p)):=by
   rw [hys,List.take_length,hSS]
   have h1:=found_rel b.ok (p:=p) hs rfl parts
   rw [hC,hK] at h1
   exact h1.symm.trans ((selF_perm b.fs parts).filter _)
  have htx:ts.map AG.x=Jcw F parts p:=by
   refine sortA_eq ((htp.map _).trans hpm) ?_
   rw [hts,List.map_map,List.pairwise_map]
   refine hvsort.imp ?_
   intro a b hab
   simpa [Go.Proofs.ltOf] using hab
  rw [← hts]
  refine Nn (Csr (Zv (OV.ah (v:=.slice la ys.length lc) rfl T.u22 rfl (fun _ hw=>Jla hw (show oQ b15 [.slice la ys.length lc] 22∈_ by simp))) (Za rfl (Nn (WC.az ?_)))))
  have hyk:ys.length≤k:=by
   have h1:=hpm.length_eq
   rw [List.length_map] at h1
   have h2:=List.length_filter_le (Jcz p) (selF F parts)
   have h3:(selF F parts).length≤F.length:=by unfold selF;rw [List.length_map];exact List.length_filter_le _ _
   have:=b.fk
   omega
  have hle:=(colG_le gr Fb.col).trans le2
  have hsb:SameB g { g with rs:=r1++(Jax p,g2)::r2 }:=(SameB.refl b.ok).setRel hs he2 hle.r hle.width ok2
  refine WX.np rfl (WR.focus (ow':=own D (.deferred (some []))::(rowAt la lc ts::(argsA ys++((relA g2++boxA Fb)++([oQ b15 [.slice la ys.length lc] 22]++(([row 3 1 ca cs.length cc (ints cs),row 3 1 ka ks.length kc (ints ks),rowT (some ⟨q35,0,none⟩) c35 (plc p),oQ b7 (pdC (Jax p)) 107,oQ b5 (atC p a c) 29,oQ b3 [ptr g.p] 35]++(tabA g++([rbA g]++(relsA r1++relsA r2))))++[])))))) (by exact pmC [[rowAt la lc ts],argsA ys,[own D (.deferred (some []))],(relA g2++boxA Fb),[oQ b15 [.slice la ys.length lc] 22],([row 3 1 ca cs.length cc (ints cs),row 3 1 ka ks.length kc (ints ks),rowT (some ⟨q35,0,none⟩) c35 (plc p),oQ b7 (pdC (Jax p)) 107,oQ b5 (atC p a c) 29,oQ b3 [ptr g.p] 35]++(tabA g++([rbA g]++(relsA r1++relsA r2))))++[]] [2,0,1,3,4,5]) (WR.mark ?_))
  refine WR.ret1 (v:=.slice la ts.length lc) rfl (by rw [htl];rfl) (fun w' hw=>⟨(⟨{ g with rs:=r1++(Jax p,g2)::r2 },la,lc,ts⟩:AnsA),rfl,⟨htx,b.same hsb,rfl,fun y hy=>hya y (htp.mem_iff.1 hy),by show ts.length≤k;rw [htl];exact hyk⟩,?_⟩)
  have h2:=hw.drop.perm (ow':=cat [[rowAt la lc ts],argsA ys,relA g2,boxA Fb,[oQ b15 [.slice la ys.length lc] 22],[row 3 1 ca cs.length cc (ints cs),row 3 1 ka ks.length kc (ints ks),rowT (some ⟨q35,0,none⟩) c35 (plc p),oQ b7 (pdC (Jax p)) 107,oQ b5 (atC p a c) 29,oQ b3 [ptr g.p] 35],tabA g,[rbA g],relsA r1,relsA r2]) (List.Perm.of_eq (by simp [cat]))
  have h3:=h2.pik [[rowAt la lc ts],argsA ys,relA g2,boxA Fb,[oQ b15 [.slice la ys.length lc] 22],[row 3 1 ca cs.length cc (ints cs),row 3 1 ka ks.length kc (ints ks),rowT (some ⟨q35,0,none⟩) c35 (plc p),oQ b7 (pdC (Jax p)) 107,oQ b5 (atC p a c) 29,oQ b3 [ptr g.p] 35],tabA g,[rbA g],relsA r1,relsA r2] [6,7,8,2,9,0,1] 10
  refine Hw.Sat.turned (h3.perm (ow':=baseA { g with rs:=r1++(Jax p,g2)::r2 }++atsA la lc ts) ?_)
  refine (List.Perm.append_left _ (List.Perm.cons _ (htp.map _))).trans (List.Perm.of_eq ?_)
  have hkv:relKV g.rs=relKV (r1++(Jax p,g2)::r2):=by rw [hs];simp [relKV,hle.r]
  unfold baseA rbA
  simp only [Jez,← hkv]
  simp [cat,tabA,nbA]
  rfl
 ·intro D c k g2 y2 hJ
  exact hJ.elim
structure FD where
 b1:Nat
 b2:Nat
 b3:Nat
 a:Option Addr
 c:Nat
def boxB (bp:Nat)(parts:Int)(p:At)(f:FD):List Hw.Item:=[oQ f.b1 [ptr bp] 35,oQ f.b2 [.int .i64 parts] 3,oQ f.b3 (atC p f.a f.c) 29,rowT f.a f.c p.args]
def FD.caps (f:FD):List Value:=[ptr f.b1,ptr f.b2,ptr f.b3]
abbrev EIa (x:At)(d:Option Addr × Nat):List Hw.Item:=[rowT d.1 d.2 x.args]
abbrev arga (x:At)(d:Option Addr × Nat):Value:=atV x d.1 d.2
theorem foundF_len {g:BaseG}{k:Nat}{F:List (At × Nat)}(b:BS g k F)(parts:Int)(p:At):(Jcw F parts p).length≤k:=by
 unfold Jcw
 rw [(Jf8 _).length_eq]
 have h2:=List.length_filter_le (Jcz p) (selF F parts)
 have h3:(selF F parts).length≤F.length:=by unfold selF;rw [List.length_map];exact List.length_filter_le _ _
 have:=b.fk
 omega
set_option maxHeartbeats 2000000 in
theorem bfind1_calls (f:FD)(g0:BaseG)(k:Nat)(F:List (At × Nat))(b:BS g0 k F)(hk:k≤100000000000)(parts:Int)(p:At)(hl:p.args.length≤1048575)(bp:Nat)(hbp:g0.p=bp) 
  {β:Type} (CC:β→List Hw.Item) (J Jx:Nat→BaseG→β→Prop) (y0:β) (l:Nat) (w1:World) (hA:Holds ((baseA g0++boxB bp parts p f)++CC y0) w1)
  (h0:∀ g1,BS g1 k F∧g1.p=g0.p→J 0 g1 y0)
  (hy:∀ i g1 y d W x,(Jcw F parts p)[i]?=some x→J i g1 y→Turns ((baseA g0++boxB bp parts p f)++CC y0) (EIa x d++((baseA g1++boxB bp parts p f)++CC y)) w1 W →
   Hw.Yields Tryz.prog l [arga x d] W fun b W'=>∃ g2 y2,(b=true→J (i+1) g2 y2)∧(b=false→Jx (i+1) g2 y2)∧Turns (EIa x d++((baseA g1++boxB bp parts p f)++CC y)) ((baseA g2++boxB bp parts p f)++CC y2) W W') :
 Calls Tryz.prog 157 #[.func (.yield l) #[] #[],ptr f.b1,ptr f.b2,ptr f.b3] w1 fun en w'=>en=.returned (.tuple #[])∧∃ g2 y2 i,((i=(Jcw F parts p).length∧J i g2 y2)∨(0<i∧i≤(Jcw F parts p).length∧Jx i g2 y2))∧Turns ((baseA g0++boxB bp parts p f)++CC y0) ((baseA g2++boxB bp parts p f)++CC y2) w1 w':=by
 refine Jdl hA (args:=[.func (.yield l) #[] #[],ptr f.b1,ptr f.b2,ptr f.b3]) Tryz.func157 rfl Tryz.ntmps157 rfl rfl ?_
 refine Cs (WC.weak (S':=Sat w1 (DD ((baseA g0++boxB bp parts p f)++CC y0)) (fun b=>b<w1.heap.size∧¬ DD ((baseA g0++boxB bp parts p f)++CC y0) b) w1 ((baseA g0++(boxB bp parts p f++CC y0)))) (fun w' hw=>hw.perm (List.Perm.of_eq (List.append_assoc _ _ _).symm)) ?_)
 refine Cr (Zv (OV.ah (v:=ptr bp) rfl T.u35 rfl (fun _ hw=>Jla hw (List.mem_append_right _ (List.mem_append_left _ (.head _))))) (Zv (OV.ah (v:=.int .i64 parts) rfl T.u3 rfl (fun _ hw=>Jla hw (List.mem_append_right _ (List.mem_append_left _ (.tail _ (.head _)))))) (Zv (OV.lN (cs:=atC p f.a f.c) rfl T.u29 rfl T.z29 (List.mem_append_right _ (List.mem_append_left _ (.tail _ (.tail _ (.head _)))))) (WL.du (ι:=AnsA) (vs:=[ptr g0.p,.int .i64 parts,atV p f.a f.c]) (vv:=fun z=>.slice z.a z.ys.length z.c) (pp:=fun z=>z.ys.map AG.x=(Jcw F parts p)∧BS z.g k F∧z.g.p=g0.p∧(∀ y∈z.ys,y.x.args.length≤8)∧z.ys.length≤k) (baseA g0) (AA:=fun z=>baseA z.g++atsA z.a z.c z.ys) rfl (by kernel_rfl) (by rw [hbp];rfl) rfl (fun w' hw' hH=>bfnd_calls g0 k F b hk parts p f.a f.c hl w' (RT.of_row (c:=f.c) rfl hw' (List.mem_append_right _ (List.mem_append_left _ (.tail _ (.tail _ (.tail _ (.head _))))))) (fun q hq hl=>Sat.sepO hw' (i:=rowT f.a f.c p.args) (List.mem_append_left _ (.tail _ (.tail _ (.tail _ (.head _))))) ⟨q,hq,rfl⟩) hH) ?_))))
 rintro z ⟨hzx,bsz,hzp,hza0,hzl⟩
 refine Zv (OV.ae rfl T.u22) (Zm rfl (Nn (Cb ?_)))
 have hzn:z.ys.length=(Jcw F parts p).length:=by rw [← hzx,List.length_map]
 refine WC.weak (S':=Sat w1 (DD ((baseA g0++boxB bp parts p f)++CC y0)) (fun b=>b<w1.heap.size∧¬ DD ((baseA g0++boxB bp parts p f)++CC y0) b) w1 (rowAt z.a z.c z.ys::(argsA (z.ys.drop 0)++(baseA z.g++(boxB bp parts p f++CC y0))))) (fun w' hw=>?_) ?_
 ·have h2:=hw.perm (ow':=cat [baseA z.g,[rowAt z.a z.c z.ys],argsA z.ys,boxB bp parts p f++CC y0]) (List.Perm.of_eq (by simp [cat,atsA]))
  have h3:=h2.pik [baseA z.g,[rowAt z.a z.c z.ys],argsA z.ys,boxB bp parts p f++CC y0] [1,2,0,3] 4
  exact h3.perm (List.Perm.of_eq (by simp [cat]))
 refine WC.mq (fun w' hw=>(fun hp=>Jeh (hw.it (rowAt z.a z.c z.ys) (.head _)) hp:0<z.ys.length→∃ q,z.a=some ⟨q,0,none⟩)) (fun hza=>?_)
 refine WC.gp (fun (j:Nat) (gk:BaseG) (y:β)=>[(0,.func (.yield l) #[] #[]),(10,.slice z.a z.ys.length z.c),(11,.int .i64 (z.ys.length:Int)),(12,.int .i64 (j:Int))])
   (fun j gk y w'=>(j≤z.ys.length∧J j gk y)∧Sat w1 (DD ((baseA g0++boxB bp parts p f)++CC y0)) (fun b=>b<w1.heap.size∧¬ DD ((baseA g0++boxB bp parts p f)++CC y0) b) w1 (rowAt z.a z.c z.ys::(argsA (z.ys.drop j)++(baseA gk++(boxB bp parts p f++CC y)))) w')
   (fun j _ _=>z.ys.length - j) 0 z.g y0 Y4 (fun w' hw=>⟨⟨by omega,h0 z.g ⟨bsz,hzp⟩⟩,hw⟩) ?_
 intro j gk y
 refine WC.pure (fun hj=>?_)
 refine Csr (Zv (OV.cm rfl rfl) (Nn (Cs ?_)))
 refine Cc rfl (fun c13=>?_) (fun c13=>?_)
 ·refine Ck (Xn (Cs (Cb (Csr ?_))))
  obtain ⟨ay,hay⟩:∃ ay,z.ys[j]?=some ay:=⟨_,List.getElem?_eq_getElem (by omega)⟩
  obtain ⟨qa,hqa⟩:=hza (by omega)
  have hdr:z.ys.drop j=ay::z.ys.drop (j+1):=Jfy hay
  refine Zv ((OV.ad (show _=some (Value.slice (some ⟨qa,0,none⟩) z.ys.length z.c) by rw [← hqa];rfl) rfl T.u22 T.z29 (by omega)).cast (u:=.pointer (some ⟨qa,j*5,none⟩)) (by rw [Int.toNat_natCast,Jap,Nat.zero_add])) ?_
  refine WL.val (OV.ai (cs:=agC ay) rfl T.u29 rfl T.z29 (fun _ hw i v hi=>by have hi5:i<5:=(List.getElem?_eq_some_iff.1 hi).1;have h:=Jck hqa (hw.it (rowAt z.a z.c z.ys) (.head _)) (j*5+i) v (by rw [Jco Joe _ j i ay hay (by omega)];exact hi);rw [Jap,Nat.zero_add] at h;rw [Jap];exact h)) rfl ?_
  refine WL.alloc T.zr29 rfl ?_
  intro b6
  refine WL.ag (vs:=atC ay.x ay.a ay.c) rfl rfl rfl T.z29 rfl ?_
  refine Nn (Csr (Zm rfl (Zv (OV.lN (cs:=atC ay.x ay.a ay.c) rfl T.u29 rfl T.z29 (.head _)) ?_)))
  obtain ⟨hjj,hJ⟩:=hj
  rw [hdr]
  have hax:(Jcw F parts p)[j]?=some ay.x:=by rw [← hzx,List.getElem?_map,hay];rfl
  refine WL.focus (ow':=(rowT ay.a ay.c ay.x.args::(baseA gk++(boxB bp parts p f++CC y)))++([oQ b6 (atC ay.x ay.a ay.c) 29,rowAt z.a z.c z.ys]++argsA (z.ys.drop (j+1)))) (by exact pmC [[oQ b6 (atC ay.x ay.a ay.c) 29,rowAt z.a z.c z.ys],[rowT ay.a ay.c ay.x.args],argsA (z.ys.drop (j+1)),(baseA gk++(boxB bp parts p f++CC y))] [1,3,0,2]) (WL.yieldT (AA:=fun b A'=>∃ g2 y2,A'=(baseA g2++(boxB bp parts p f++CC y2))∧(b=true→J (j+1) g2 y2)∧(b=false→Jx (j+1) g2 y2)) rfl rfl rfl (fun w' hw'=>?_) ?_)
  ·have ht:=hw'.turnedL
   refine (hy j gk y (ay.a,ay.c) w' ay.x hax hJ (by simp only [List.append_assoc] at ht ⊢;exact ht)).mono (fun b W' ⟨g2,y2,t1,t2,t3⟩=>⟨_,⟨g2,y2,rfl,t1,t2⟩,by simp only [List.append_assoc] at t3 ⊢;exact t3⟩)
  rintro b A' ⟨g2,y2,rfl,hJt,hJf⟩
  refine Zv (OV.not rfl) (Nn ?_)
  refine Cc rfl (fun c19=>?_) (fun c19=>?_)
  ·refine WC.az ?_
   refine Xq (Xr (Xr (Xq ?_)))
   exact WX.ret0 rfl rfl (fun w' hw=>⟨rfl,g2,y2,j+1,.inr ⟨by omega,by omega,hJf (by simpa using c19)⟩,by simpa only [List.append_assoc] using hw.turnedL⟩)
  refine Ck (Xb (Xn (Cr (Zv (OV.bi (j:=1) rfl rfl (by omega)) (Zm rfl (Nl ?_))))))
  refine WX.d7 (j+1) g2 y2 Y4 (fun w' hw=>⟨⟨by omega,hJt (by simpa using c19)⟩,?_⟩) (by show z.ys.length - (j+1)<z.ys.length - j;omega)
  have h2:=hw.perm (ow':=cat [(baseA g2++(boxB bp parts p f++CC y2)),[oQ b6 (atC ay.x ay.a ay.c) 29],[rowAt z.a z.c z.ys],argsA (z.ys.drop (j+1))]) (List.Perm.of_eq (by simp [cat]))
  have h3:=h2.pik [(baseA g2++(boxB bp parts p f++CC y2)),[oQ b6 (atC ay.x ay.a ay.c) 29],[rowAt z.a z.c z.ys],argsA (z.ys.drop (j+1))] [2,3,0] 4
  exact h3.perm (List.Perm.of_eq (by simp [cat]))
 refine Ce (Xe (Xe (Xh ?_)))
 obtain ⟨hjj,hJ⟩:=hj
 have hje:j=z.ys.length:=by omega
 subst hje
 rw [List.drop_length] at *
 exact WX.ret0 rfl rfl (fun w' hw=>⟨rfl,gk,y,z.ys.length,.inl ⟨hzn,hJ⟩,by have h:=hw.drop.turned;simpa only [argsA,List.map_nil,List.nil_append,List.append_assoc] using h⟩)
theorem bfind1_iter (f:FD)(g0:BaseG)(k:Nat)(F:List (At × Nat))(b:BS g0 k F)(hk:k≤100000000000)(parts:Int)(p:At)(hl:p.args.length≤1048575)(bp:Nat)(hbp:g0.p=bp)(w:World):
  Jnf Tryz.prog 157 f.caps (fun g=>baseA g++boxB bp parts p f) g0 (fun g1=>BS g1 k F∧g1.p=g0.p) (fun _=>True) EIa arga (Jcw F parts p) w:=by
 intro β CC J Jx y0 l w1 ht h0 hm hy
 exact bfind1_calls f g0 k F b hk parts p hl bp hbp CC J Jx y0 l w1 ht.holds h0 hy
theorem RBd.satA {w w':World}{A ow:List Hw.Item}{a:Option Addr}{ys:List Bd}(h:RBd w a ys)(hne:∀ q,a=some q→0<ys.length→¬ DD A q.block)(hw:Sat w (DD A) (fun b=>b<w.heap.size∧¬ DD A b) w ow w'):RBd w' a ys:=by
 refine ⟨h.nil,fun q hq i t ht j v hv=>?_⟩
 have hl:0<ys.length:=by have:=(List.getElem?_eq_some_iff.1 ht).1;omega
 have h1:=h.at_ q hq i t ht j v hv
 have hlt:q.block<w.heap.size:=by
  have h2:=World.block_lt_of_cell? w _ h1
  rwa [Jcq,Jcq] at h2
 have h2:=hw.fr.keep q.block hlt (hne q hq hl)
 unfold World.cell? at h1 ⊢
 rw [Jcq,Jcq] at h1 ⊢
 rw [h2];exact h1
structure LV where
 a:Option Addr
 c:Nat
 ys:List AG
 tr:Nat
 s:BG
def lvC (l:LV):List Value:=[.slice l.a l.ys.length l.c,.int .i64 (l.tr:Int),.slice l.s.a l.s.ys.length l.s.c]
theorem Jnh (l:LV):(lvC l).length=3:=rfl
theorem lvC_one (l:LV):∀ v∈lvC l,v.oneCell'=true:=by simp [lvC,Value.oneCell']
theorem parts_calls (i:Nat)(lead:Option Nat)(w:World):Calls Tryz.prog 118 #[.int .i64 (i:Int),.int .i64 (leadI lead)] w fun e w'=>e=.returned (.int .i64 (Jbv i lead))∧Fr0 w w':=by
 refine Jbl (args:=[.int .i64 (i:Int),.int .i64 (leadI lead)]) (fun _=>False) Tryz.func118 rfl Tryz.ntmps118 rfl rfl ?_
 refine Csr (Za rfl (Nn (Cs (Cb (Csr (Zm rfl (Zv (OV.cm rfl rfl) (Zm rfl ?_))))))))
 refine Zp (t:=8) rfl (fun g8=>?_) (fun g8=>?_)
 ·refine Zs rfl rfl rfl (Zs rfl rfl rfl (Zs rfl rfl rfl (Zv (OV.am rfl rfl) (Za rfl (Nn (WC.cj (show _=some (Value.bool true) from by rfl) ?_))))))
  refine Csr (Za rfl (Nn (WC.az ?_)))
  refine Xq (Xr ?_)
  exact WX.ret1 rfl rfl rfl (fun w' hw=>⟨by cases lead with
   | none=>rfl
   | some l=>exact absurd g8 (by show ¬ (l:Int)<0;omega),hw.fr⟩)
 refine Zg rfl rfl rfl (Zm rfl (Zg rfl rfl rfl (Zm rfl (Zg rfl rfl rfl (Zv (OV.k7 rfl rfl) (Zv (OV.aj rfl rfl) (Za rfl (Nn ?_))))))))
 refine Cc rfl (fun c5=>?_) (fun c5=>?_)
 ·refine Csr (Za rfl (Nn (WC.az ?_)))
  refine Xq (Xr ?_)
  exact WX.ret1 rfl rfl rfl (fun w' hw=>⟨by cases lead with
   | none=>exact absurd (by show (-1:Int)<0;omega) g8
   | some l=>
         have h:(l:Int)<(i:Int):=c5
         unfold Jbv
         dsimp only
         rw [if_pos (by omega)],hw.fr⟩)
 refine Csr (Zm rfl (Zm rfl (Zv (OV.d0 rfl rfl) (Za rfl (Nn ?_)))))
 refine Cc rfl (fun c13=>?_) (fun c13=>?_)
 ·refine Csr (Za rfl (Nn (WC.az ?_)))
  refine Xq (Xr ?_)
  exact WX.ret1 rfl rfl rfl (fun w' hw=>⟨by cases lead with
   | none=>exact absurd (by show (-1:Int)<0;omega) g8
   | some l=>
         have h:¬ (l:Int)<(i:Int):=c5
         have h2:(i:Int)=(l:Int):=c13
         unfold Jbv
         dsimp only
         rw [if_neg (by omega),if_pos (by omega)],hw.fr⟩)
 refine Ck (Xb (Xn (Csr (Za rfl (Nn (WC.az ?_))))))
 exact WX.ret1 rfl rfl rfl (fun w' hw=>⟨by cases lead with
  | none=>exact absurd (by show (-1:Int)<0;omega) g8
  | some l=>
        have h:¬ (l:Int)<(i:Int):=c5
        have h2:¬ (i:Int)=(l:Int):=c13
        unfold Jbv
        dsimp only
        rw [if_neg (by omega),if_neg (by omega)],hw.fr⟩)
set_option maxHeartbeats 2000000 in
theorem enter_calls (g:BaseG)(k:Nat)(F:List (At × Nat))(b:BS g k F)(hkk:k≤100000000000)(q:CG)(hs:CS q)(lead:Option Nat)(y:JG)(hya:y.a<q.bd.length)(s:BG)(hsl:s.ys.length≤1048576)(w0 w:World)(hk:Keeps w0 w)(hB:∀ b,DD (baseA g) b→w0.heap.size≤b)(hN:Jcy w0)(hr:RC w0 q)(hS:RBd w s.a s.ys)(hSne:∀ p,s.a=some p→0<s.ys.length→¬ DD (baseA g) p.block)(hA:Holds (baseA g) w):
 Calls Tryz.prog 89 #[ptr g.p,cgV q,.int .i64 (leadI lead),.agg (jgC y).toArray,.slice s.a s.ys.length s.c] w fun e w'=>∃ z:AnsA,e=.returned (.agg (lvC ⟨z.a,z.c,z.ys,0,s⟩).toArray)∧(z.ys.map AG.x=Jcw F (Jbv y.a lead) (appD (sb s.ys) (clA q.cl y.a))∧BS z.g k F∧z.g.p=g.p∧(∀ y∈z.ys,y.x.args.length≤8)∧z.ys.length≤k)∧Turns (baseA g) (baseA z.g++atsA z.a z.c z.ys) w w':=by
 refine Jdl hA (args:=[ptr g.p,cgV q,.int .i64 (leadI lead),.agg (jgC y).toArray,.slice s.a s.ys.length s.c]) Tryz.func89 rfl Tryz.ntmps89 rfl rfl ?_
 refine Csr (WL.box rfl rfl rfl ?_)
 intro b6
 refine WL.box rfl rfl rfl ?_
 intro bb8
 refine WL.alloc (cs:=lvC ⟨none,0,[],0,⟨[],none,0⟩⟩) T.zr145 rfl ?_
 intro b10
 refine Nn (Csr (Zm rfl (Zv (OV.ao (xs:=[(2,.tmp 13)]) (pl:=[(0,1),(1,1),(2,1)]) (cs:=lvC ⟨none,0,[],0,s⟩) T.u145 T.zr145 (by kernel_rfl) rfl (Jal (us:=[_]) rfl rfl (Nat.le_of_ble_eq_true rfl) rfl)) (WL.alloc T.zr145 rfl ?_))))
 intro b11
 refine WL.ag (vs:=lvC ⟨none,0,[],0,s⟩) rfl rfl rfl T.z145 rfl ?_
 refine Nn (Cs (Cs ?_))
 obtain ⟨bb,u0,hbb,hz,hzm,_,_⟩:=hr.bd.get hya
 have hz8:=hs.at_ u0 (Or.inr hzm)
 have hzc:clA q.cl y.a=u0.x:=Jna hz
 have hpl:(appD (sb s.ys) u0.x).args.length=u0.x.args.length:=by simp [appD]
 refine Hd (fun w'=>w'.heap[b6]?=some (.cells (cgC q).toArray 32 (0,0))∧w'.heap[bb8]?=some (.cells (jgC y).toArray 141 (0,0))∧RC w' q) [] (fun _ hw=>⟨hw.it (oQ b6 (cgC q) 32) (by simp [cat]),hw.it (oQ bb8 (jgC y) 141) (by simp [cat]),hr.keeps (Jb0 hk hB hw)⟩) (m:=14) rfl ?_
 refine Hf 0 rfl (OV.aw rfl) (Hf 1 rfl (OV.f0 0 rfl T.u141 rfl) (Ht 2 rfl (OV.ah (v:=.int .i64 (y.a:Int)) rfl T.u3 rfl (fun _ hw=>(Jav hw.2.1 (o:=0) rfl).1)) (Hf 3 rfl (OV.aw rfl) (Hf 5 rfl (OV.aw rfl) (Hf 6 rfl (OV.f0 5 rfl T.u32 rfl) (Ht 7 rfl (OV.ah (v:=.slice q.ba q.bd.length q.bc) rfl T.u22 rfl (fun _ hw=>(Jav hw.1 (o:=5) rfl).1)) (Hf 8 rfl (OV.f0 0 rfl T.u141 rfl) (Ht 9 rfl (OV.ah (v:=.int .i64 (y.a:Int)) rfl T.u3 rfl (fun _ hw=>(Jav hw.2.1 (o:=0) rfl).1)) (Hf 10 rfl ((OV.ad (show _=some (Value.slice (some bb) q.bd.length q.bc) by rw [← hbb];rfl) rfl T.u22 T.z29 (by omega)).cast (u:=.pointer (some (bb.add (y.a*5)))) (by rw [Int.toNat_natCast])) (Ht 11 rfl (OV.ai (cs:=atC u0.x u0.a u0.c) rfl T.u29 rfl T.z29 (fun _ hw j v hj=>hw.2.2.bd.at_ _ hbb y.a u0 hz j v hj)) (Ho 4 rfl (fl':=false) rfl ?_)))))))))))
 refine WL.c0 (v:=.int .i64 (Jbv y.a lead)) (vs:=[.int .i64 (y.a:Int),.int .i64 (leadI lead)]) (fun w' hw'=>parts_calls y.a lead w') ?_
 refine Hc (fun _=>(fun _ hw=>⟨hw.it (oQ b6 (cgC q) 32) (by simp [cat]),hw.it (oQ bb8 (jgC y) 141) (by simp [cat]),hr.keeps (Jb0 hk hB hw)⟩)) ?_
 refine Ho 12 rfl (fl':=false) rfl ?_
 refine WL.cT (ι:=Option Addr × Nat) (vs:=[.slice s.a s.ys.length s.c,atV u0.x u0.a u0.c]) (vv:=fun p=>atV (appD (sb s.ys) u0.x) p.1 p.2) (pp:=fun _=>True) [] (AA:=fun p=>[rowT p.1 p.2 (appD (sb s.ys) u0.x).args]) rfl (fun w' hw' _=>(tapply_calls s.ys u0.x s.a u0.a s.c u0.c (by omega) (by omega) w' (hN.keeps (Jb0 hk hB hw')) (hS.satA hSne hw') ((hr.keeps (Jb0 hk hB hw')).bd.args _ hzm)).mono (fun en w'' ⟨p,h1,h2⟩=>⟨p,h1,trivial,h2⟩)) ?_
 rintro ⟨pa,pc⟩ _
 refine Hc (fun _=>(fun _ hw=>⟨hw.it (oQ b6 (cgC q) 32) (by simp [cat]),hw.it (oQ bb8 (jgC y) 141) (by simp [cat]),hr.keeps (Jb0 hk hB hw)⟩)) ?_
 refine Ho 13 rfl (fl':=false) rfl ?_
 refine WL.cT (ι:=Nat × Nat × Nat × Option Addr × Nat) (vs:=[ptr g.p,.int .i64 (Jbv y.a lead),atV (appD (sb s.ys) u0.x) pa pc]) (vv:=fun z=>.func (.func 157) #[] #[ptr z.1,ptr z.2.1,ptr z.2.2.1]) (pp:=fun _=>True) [] (AA:=fun z=>boxB g.p (Jbv y.a lead) (appD (sb s.ys) u0.x) ⟨z.1,z.2.1,z.2.2.1,z.2.2.2.1,z.2.2.2.2⟩) rfl (fun w' hw' _=>(bfind_calls g (Jbv y.a lead) (appD (sb s.ys) u0.x) pa pc (by omega) w' (RT.of_row (c:=pc) rfl (show SatA w (baseA g) (rowT pa pc (appD (sb s.ys) u0.x).args::oQ b11 (lvC ⟨none,0,[],0,s⟩) 145::oQ b10 (lvC ⟨none,0,[],0,⟨[],none,0⟩⟩) 145::oQ bb8 (jgC y) 141::oQ b6 (cgC q) 32::baseA g) w' from hw') (.head _))).mono (fun en w'' ⟨z,h1,h2⟩=>⟨z,h1,trivial,h2⟩)) ?_
 rintro ⟨z1,z2,z3,z4,z5⟩ _
 obtain ⟨fd,hfd⟩:∃ fd:FD,fd=⟨z1,z2,z3,z4,z5⟩:=⟨_,rfl⟩
 refine WL.focus (ow':=cat [baseA g,boxB g.p (Jbv y.a lead) (appD (sb s.ys) u0.x) fd,[oQ b11 (lvC ⟨none,0,[],0,s⟩) 145],[rowT pa pc (appD (sb s.ys) u0.x).args,oQ b10 (lvC ⟨none,0,[],0,⟨[],none,0⟩⟩) 145,oQ bb8 (jgC y) 141,oQ b6 (cgC q) 32]]) (by subst hfd;exact (List.Perm.trans (pmC [boxB g.p (Jbv y.a lead) (appD (sb s.ys) u0.x) ⟨z1,z2,z3,z4,z5⟩,[rowT pa pc (appD (sb s.ys) u0.x).args],[oQ b11 (lvC ⟨none,0,[],0,s⟩) 145],[oQ b10 (lvC ⟨none,0,[],0,⟨[],none,0⟩⟩) 145,oQ bb8 (jgC y) 141,oQ b6 (cgC q) 32],baseA g] [4,0,2,1,3]) (List.Perm.of_eq (by simp [cat])))) ?_
 refine Hc (fun _=>(fun _ hw=>⟨hw.it (oQ b6 (cgC q) 32) (by simp [cat]),hw.it (oQ bb8 (jgC y) 141) (by simp [cat]),hr.keeps (Jb0 hk hB hw)⟩)) ?_
 refine He (Xn (Cb ?_))
 refine WC.weak (S':=SatA w (baseA g) ((baseA g++boxB g.p (Jbv y.a lead) (appD (sb s.ys) u0.x) fd)++((fun u:Option Addr × Nat × List AG=>oQ b11 (lvC ⟨u.1,u.2.1,u.2.2,0,s⟩) 145::(atsA u.1 u.2.1 u.2.2++[rowT pa pc (appD (sb s.ys) u0.x).args,oQ b10 (lvC ⟨none,0,[],0,⟨[],none,0⟩⟩) 145,oQ bb8 (jgC y) 141,oQ b6 (cgC q) 32])) (none,0,[])++[]))) (fun w' hw=>?_) ?_
 ·have h2:=hw.rowNil 29 5
  exact h2.perm ((List.Perm.of_eq (by simp [cat,atsA,argsA,rowAt])).trans (pmC [[row 29 5 none 0 0 []],baseA g,boxB g.p (Jbv y.a lead) (appD (sb s.ys) u0.x) fd,[oQ b11 (lvC ⟨none,0,[],0,s⟩) 145],[rowT pa pc (appD (sb s.ys) u0.x).args,oQ b10 (lvC ⟨none,0,[],0,⟨[],none,0⟩⟩) 145,oQ bb8 (jgC y) 141,oQ b6 (cgC q) 32]] [1,2,3,0,4]))
 refine WC.rangeFunc (RA:=fun q=>baseA q++boxB g.p (Jbv y.a lead) (appD (sb s.ys) u0.x) fd) (CC:=(fun u:Option Addr × Nat × List AG=>oQ b11 (lvC ⟨u.1,u.2.1,u.2.2,0,s⟩) 145::(atsA u.1 u.2.1 u.2.2++[rowT pa pc (appD (sb s.ys) u0.x).args,oQ b10 (lvC ⟨none,0,[],0,⟨[],none,0⟩⟩) 145,oQ bb8 (jgC y) 141,oQ b6 (cgC q) 32]))) (EI:=EIa) (arg:=arga) (xs:=(Jcw F (Jbv y.a lead) (appD (sb s.ys) u0.x))) (g0:=g) (y0:=(none,0,[])) (R01:=fun q=>BS q k F∧q.p=g.p) (Mono:=fun _=>True) (gf:=157) (caps:=fd.caps) (ow:=[]) rfl (by rw [hfd];rfl) (by kernel_rfl) rfl (fun w' _=>bfind1_iter fd g k F b hkk (Jbv y.a lead) (appD (sb s.ys) u0.x) (by omega) g.p rfl w')
  (fun i q u=>BS q k F∧q.p=g.p∧u.2.2.map AG.x=(Jcw F (Jbv y.a lead) (appD (sb s.ys) u0.x)).take i∧(∀ z∈u.2.2,z.x.args.length≤8)) (fun _ _ _ _=>False) (fun q hq=>⟨hq.1,hq.2,by simp,fun z hz=>by cases hz⟩) (fun _ _ _ _=>trivial) ?_ ?_ ?_
 ·rintro l lr i q9 ⟨la,lc,ys⟩ d W x hxs hJ hS9
  obtain ⟨bsq,hqp,hys,hyl8⟩:BS q9 k F∧q9.p=g.p∧ys.map AG.x=(Jcw F (Jbv y.a lead) (appD (sb s.ys) u0.x)).take i∧(∀ z∈ys,z.x.args.length≤8):=hJ
  have hyl:ys.length≤k:=by
   have h1:=congrArg List.length hys
   rw [List.length_map,List.length_take] at h1
   have h2:=foundF_len b (Jbv y.a lead) (appD (sb s.ys) u0.x)
   omega
  have hx8:x.args.length≤8:=by
   have h1:=(Jf8 _).mem_iff.1 (List.mem_of_getElem? hxs)
   obtain ⟨q2,hq2,he⟩:=List.mem_map.1 (List.mem_filter.1 h1).1
   exact facts_args b.ok ((b.mem x).2 (List.mem_map.2 ⟨q2,(List.mem_filter.1 hq2).1,he⟩))
  refine Cr (WL.alloc T.zr29 rfl ?_)
  intro b12
  refine WL.ag (vs:=atC x d.1 d.2) rfl rfl rfl T.z29 rfl ?_
  refine WL.focus perm1 ?_
  refine Nl (WX.begin ?_)
  refine WC.focus (ow':=oQ b11 (lvC ⟨la,lc,ys,0,s⟩) 145::rowAt la lc ys::oQ b12 (atC x d.1 d.2) 29::own l (lr.ob .busy none)::rowT d.1 d.2 x.args::(argsA ys++([rowT pa pc (appD (sb s.ys) u0.x).args,oQ b10 (lvC ⟨none,0,[],0,⟨[],none,0⟩⟩) 145,oQ bb8 (jgC y) 141,oQ b6 (cgC q) 32]++(baseA q9++boxB g.p (Jbv y.a lead) (appD (sb s.ys) u0.x) fd)))) (by
   refine List.Perm.trans (pmC [[own l (lr.ob .busy none)],[oQ b12 (atC x d.1 d.2) 29],[rowT d.1 d.2 x.args],(baseA q9++boxB g.p (Jbv y.a lead) (appD (sb s.ys) u0.x) fd),[oQ b11 (lvC ⟨la,lc,ys,0,s⟩) 145,rowAt la lc ys],argsA ys,[rowT pa pc (appD (sb s.ys) u0.x).args,oQ b10 (lvC ⟨none,0,[],0,⟨[],none,0⟩⟩) 145,oQ bb8 (jgC y) 141,oQ b6 (cgC q) 32]] [4,1,0,2,5,6,3]) (List.Perm.of_eq ?_)
   simp [cat,atsA]) ?_
  refine Cb (Cr (Zv (OV.f0 0 rfl T.u145 rfl) (Zv (OV.ah (v:=.slice la ys.length lc) rfl T.u22 rfl (fun _ hw=>Ja0 hw (show oQ b11 (lvC ⟨la,lc,ys,0,s⟩) 145∈_ by simp) 0 _ rfl)) (Zv (OV.lN (cs:=atC x d.1 d.2) rfl T.u29 rfl T.z29 (show oQ b12 (atC x d.1 d.2) 29∈_ by simp)) (WL.bh (cs:=agC (⟨x,d.1,d.2⟩:AG)) T.u22 T.z29 T.zr29 rfl rfl (by omega) (by omega) rfl ?_)))))
  intro b33
  refine WL.focus (ow':=rowAt la lc ys::oQ b33 (agC (⟨x,d.1,d.2⟩:AG)) 29::oQ b11 (lvC ⟨la,lc,ys,0,s⟩) 145::oQ b12 (atC x d.1 d.2) 29::own l (lr.ob .busy none)::rowT d.1 d.2 x.args::(argsA ys++([rowT pa pc (appD (sb s.ys) u0.x).args,oQ b10 (lvC ⟨none,0,[],0,⟨[],none,0⟩⟩) 145,oQ bb8 (jgC y) 141,oQ b6 (cgC q) 32]++(baseA q9++boxB g.p (Jbv y.a lead) (appD (sb s.ys) u0.x) fd)))) (pmP [_,_,_,_,_,_] [2,0,1,3,4,5]) ?_
  refine WL.append (news:=agC (⟨x,d.1,d.2⟩:AG)) rfl rfl T.apA (fun _ _=>Jcs (.tail _ (.head _)) rfl) (Jji _) ⟨by omega,by unfold maxLen;omega⟩ rfl ?_
  intro a34 c34
  refine Zv (OV.f0 0 rfl T.u145 rfl) ?_
  refine WL.focus perm2 (WL.br (o:=0) rfl rfl rfl T.z22 (Nat.zero_lt_succ _) ?_)
  refine Nl (Xb ?_)
  have el:ys.length+1=(ys++[(⟨x,d.1,d.2⟩:AG)]).length:=by simp
  have ef:ys.flatMap agC++agC (⟨x,d.1,d.2⟩:AG)=(ys++[(⟨x,d.1,d.2⟩:AG)]).flatMap agC:=by simp
  have em:argsA (ys++[(⟨x,d.1,d.2⟩:AG)])=argsA ys++[rowT d.1 d.2 x.args]:=by simp [argsA]
  refine WX.focus (ow':=own l (lr.ob .busy none)::((baseA q9++boxB g.p (Jbv y.a lead) (appD (sb s.ys) u0.x) fd)++(oQ b11 (lvC ⟨a34,c34,(ys++[(⟨x,d.1,d.2⟩:AG)]),0,s⟩) 145::rowAt a34 c34 (ys++[(⟨x,d.1,d.2⟩:AG)])::(argsA ys++(rowT d.1 d.2 x.args::([rowT pa pc (appD (sb s.ys) u0.x).args,oQ b10 (lvC ⟨none,0,[],0,⟨[],none,0⟩⟩) 145,oQ bb8 (jgC y) 141,oQ b6 (cgC q) 32]++[oQ b33 (agC (⟨x,d.1,d.2⟩:AG)) 29,oQ b12 (atC x d.1 d.2) 29])))))) ?_ (WX.ku (fun w' hw=>⟨q9,(a34,c34,ys++[(⟨x,d.1,d.2⟩:AG)]),lr.ob .ready none,fun _=>⟨⟨bsq,hqp,?_,?_⟩,rfl⟩,fun h=>(by cases h),?_⟩))
  ·rw [el,ef]
   exact (pmC [[oQ b11 (lvC ⟨a34,c34,(ys++[(⟨x,d.1,d.2⟩:AG)]),0,s⟩) 145],[rowAt a34 c34 (ys++[(⟨x,d.1,d.2⟩:AG)])],[oQ b33 (agC (⟨x,d.1,d.2⟩:AG)) 29],[oQ b12 (atC x d.1 d.2) 29],[own l (lr.ob .busy none)],[rowT d.1 d.2 x.args],argsA ys,[rowT pa pc (appD (sb s.ys) u0.x).args,oQ b10 (lvC ⟨none,0,[],0,⟨[],none,0⟩⟩) 145,oQ bb8 (jgC y) 141,oQ b6 (cgC q) 32],(baseA q9++boxB g.p (Jbv y.a lead) (appD (sb s.ys) u0.x) fd)] [4,8,0,1,6,5,7,2,3])
  ·show (ys++[_]).map AG.x=_
   rw [List.map_append,hys,List.take_add_one,hxs];rfl
  ·intro z hz
   rcases List.mem_append.1 hz with h | h
   ·exact hyl8 z h
   ·simp only [List.mem_singleton] at h;subst h;exact hx8
  ·show Turns _ (own l (lr.ob .ready none)::((baseA q9++boxB g.p (Jbv y.a lead) (appD (sb s.ys) u0.x) fd)++(oQ b11 (lvC ⟨a34,c34,(ys++[(⟨x,d.1,d.2⟩:AG)]),0,s⟩) 145::(atsA a34 c34 (ys++[(⟨x,d.1,d.2⟩:AG)])++[rowT pa pc (appD (sb s.ys) u0.x).args,oQ b10 (lvC ⟨none,0,[],0,⟨[],none,0⟩⟩) 145,oQ bb8 (jgC y) 141,oQ b6 (cgC q) 32])))) _ _
   unfold atsA
   rw [em]
   exact Hw.Sat.turnedL (B:=[oQ b33 (agC (⟨x,d.1,d.2⟩:AG)) 29,oQ b12 (atC x d.1 d.2) 29]) (hw.perm (List.Perm.of_eq (by simp)))
 ·rintro D g2 ⟨la,lc,ys⟩ hJ
  obtain ⟨bs2,hp2,hys,hyl8⟩:BS g2 k F∧g2.p=g.p∧ys.map AG.x=(Jcw F (Jbv y.a lead) (appD (sb s.ys) u0.x)).take (Jcw F (Jbv y.a lead) (appD (sb s.ys) u0.x)).length∧(∀ z∈ys,z.x.args.length≤8):=hJ
  rw [List.take_length] at hys
  refine Xb (Xn (Cs (WC.weak (S':=SatA w (baseA g) (cat [[own D (.deferred (some []))],baseA g2,boxB g.p (Jbv y.a lead) (appD (sb s.ys) u0.x) fd,[oQ b11 (lvC ⟨la,lc,ys,0,s⟩) 145],atsA la lc ys,[rowT pa pc (appD (sb s.ys) u0.x).args],[oQ b10 (lvC ⟨none,0,[],0,⟨[],none,0⟩⟩) 145],[oQ bb8 (jgC y) 141,oQ b6 (cgC q) 32]])) (fun w' hw=>hw.perm (List.Perm.of_eq (by simp [cat]))) ?_)))
  refine Cr (Zv (OV.lN (cs:=lvC ⟨la,lc,ys,0,s⟩) rfl T.u145 rfl T.z145 (show oQ b11 (lvC ⟨la,lc,ys,0,s⟩) 145∈_ by simp [cat])) (WL.focus (ow':=cat [[oQ b10 (lvC ⟨none,0,[],0,⟨[],none,0⟩⟩) 145],[own D (.deferred (some []))],baseA g2,boxB g.p (Jbv y.a lead) (appD (sb s.ys) u0.x) fd,[oQ b11 (lvC ⟨la,lc,ys,0,s⟩) 145],atsA la lc ys,[rowT pa pc (appD (sb s.ys) u0.x).args,oQ bb8 (jgC y) 141,oQ b6 (cgC q) 32]]) (List.Perm.trans (pmC [[own D (.deferred (some []))],baseA g2,boxB g.p (Jbv y.a lead) (appD (sb s.ys) u0.x) fd,[oQ b11 (lvC ⟨la,lc,ys,0,s⟩) 145],atsA la lc ys,[rowT pa pc (appD (sb s.ys) u0.x).args],[oQ b10 (lvC ⟨none,0,[],0,⟨[],none,0⟩⟩) 145],[oQ bb8 (jgC y) 141,oQ b6 (cgC q) 32]] [6,0,1,2,3,4,5,7]) (List.Perm.of_eq (by simp [cat]))) ?_))
  refine WL.ag (vs:=lvC ⟨la,lc,ys,0,s⟩) rfl rfl rfl T.z145 rfl ?_
  refine Nn (WC.az ?_)
  have hyk:ys.length≤k:=by
   have h1:=congrArg List.length hys
   rw [List.length_map] at h1
   rw [h1];exact foundF_len b (Jbv y.a lead) (appD (sb s.ys) u0.x)
  refine WX.focus (ow':=cat [[own D (.deferred (some []))],[oQ b10 (lvC ⟨la,lc,ys,0,s⟩) 145],baseA g2,boxB g.p (Jbv y.a lead) (appD (sb s.ys) u0.x) fd,[oQ b11 (lvC ⟨la,lc,ys,0,s⟩) 145],atsA la lc ys,[rowT pa pc (appD (sb s.ys) u0.x).args,oQ bb8 (jgC y) 141,oQ b6 (cgC q) 32]]) (pmC [[oQ b10 (lvC ⟨la,lc,ys,0,s⟩) 145],[own D (.deferred (some []))],baseA g2,boxB g.p (Jbv y.a lead) (appD (sb s.ys) u0.x) fd,[oQ b11 (lvC ⟨la,lc,ys,0,s⟩) 145],atsA la lc ys,[rowT pa pc (appD (sb s.ys) u0.x).args,oQ bb8 (jgC y) 141,oQ b6 (cgC q) 32]] [1,0,2,3,4,5,6]) ?_
  refine WX.np rfl (WR.mark ?_)
  refine WR.retC (cs:=lvC ⟨la,lc,ys,0,s⟩) rfl rfl T.u145 rfl T.z145 (fun w' hw j v hj=>Ja0 hw (.tail _ (.head _)) j v hj) (fun w' hw=>⟨(⟨g2,la,lc,ys⟩:AnsA),rfl,⟨by rw [hzc];exact hys,bs2,hp2,hyl8,hyk⟩,?_⟩)
  have h3:=hw.drop.pick [[oQ b10 (lvC ⟨la,lc,ys,0,s⟩) 145],baseA g2,boxB g.p (Jbv y.a lead) (appD (sb s.ys) u0.x) fd,[oQ b11 (lvC ⟨la,lc,ys,0,s⟩) 145],atsA la lc ys,[rowT pa pc (appD (sb s.ys) u0.x).args,oQ bb8 (jgC y) 141,oQ b6 (cgC q) 32]] [1,4] 6 rfl (by decide) (by decide)
  exact Hw.Sat.turned h3
 ·intro D c k g2 y2 hJ
  exact hJ.elim
def stepB (fnd:Nat→At→List At)(c:Cl)(j:Nat × List Nat)(js:List (Nat × List Nat))(s:Bn)(f:At):List Bn:=
 match Jcx (clA c j.1) f s with
 | none=>[]
 | some s'=>if Jej c j.2 s'=true then sols fnd c js s' else []
theorem sols_step (fnd:Nat→At→List At)(c:Cl)(j:Nat × List Nat)(js:List (Nat × List Nat))(s:Bn):sols fnd c (j::js) s=(fnd j.1 (appD s (clA c j.1))).flatMap (stepB fnd c j js s):=rfl
def csT (fnd:Nat→At→List At)(c:Cl):List (Nat × List Nat)→Bn→Nat
 | [],_=>0
 | j::js,s=>1+((fnd j.1 (appD s (clA c j.1))).map fun f=>1+match Jcx (clA c j.1) f s with
  | none=>0
  | some s'=>if Jej c j.2 s'=true then csT fnd c js s' else 0).sum
def stepC (fnd:Nat→At→List At)(c:Cl)(j:Nat × List Nat)(js:List (Nat × List Nat))(s:Bn)(f:At):Nat:=
 1+match Jcx (clA c j.1) f s with
 | none=>0
 | some s'=>if Jej c j.2 s'=true then csT fnd c js s' else 0
theorem csT_step (fnd:Nat→At→List At)(c:Cl)(j:Nat × List Nat)(js:List (Nat × List Nat))(s:Bn):csT fnd c (j::js) s=1+((fnd j.1 (appD s (clA c j.1))).map (stepC fnd c j js s)).sum:=rfl
def jAt (J:List (Nat × List Nat))(i:Nat):Nat × List Nat:=J.getD i (0,[])
def remV (fnd:Nat→At→List At)(c:Cl)(J:List (Nat × List Nat))(i:Nat)(l:LV):List Bn:=((l.ys.map AG.x).drop l.tr).flatMap (stepB fnd c (jAt J i) (J.drop (i+1)) (sb l.s.ys))
def cstV (fnd:Nat→At→List At)(c:Cl)(J:List (Nat × List Nat))(i:Nat)(l:LV):Nat:=1+(((l.ys.map AG.x).drop l.tr).map (stepC fnd c (jAt J i) (J.drop (i+1)) (sb l.s.ys))).sum
def remL (fnd:Nat→At→List At)(c:Cl)(J:List (Nat × List Nat)):Nat→List LV→List Bn
 | _,[]=>[]
 | i,l::lv=>remL fnd c J (i+1) lv++remV fnd c J i l
def cstL (fnd:Nat→At→List At)(c:Cl)(J:List (Nat × List Nat)):Nat→List LV→Nat
 | _,[]=>0
 | i,l::lv=>cstL fnd c J (i+1) lv+cstV fnd c J i l
variable {fnd:Nat→At→List At} {c:Cl} {J:List (Nat × List Nat)}
theorem Jd2 (l:LV):∀ (i:Nat) (lv:List LV),remL fnd c J i (lv++[l])=remV fnd c J (i+lv.length) l++remL fnd c J i lv
 | i,[]=>by simp [remL]
 | i,x::lv=>by
  show remL fnd c J (i+1) (lv++[l])++remV fnd c J i x=_++(remL fnd c J (i+1) lv++remV fnd c J i x)
  rw [Jd2 l (i+1) lv,List.append_assoc,show i+1+lv.length=i+(x::lv).length by simp;omega]
theorem Jfz (l:LV):∀ (i:Nat) (lv:List LV),cstL fnd c J i (lv++[l])=cstV fnd c J (i+lv.length) l+cstL fnd c J i lv
 | i,[]=>by simp [cstL]
 | i,x::lv=>by
  show cstL fnd c J (i+1) (lv++[l])+cstV fnd c J i x=_+(cstL fnd c J (i+1) lv+cstV fnd c J i x)
  rw [Jfz l (i+1) lv,show i+1+lv.length=i+(x::lv).length by simp;omega]
  omega
abbrev LVt (l:LV)(t:Nat):LV:=⟨l.a,l.c,l.ys,t,l.s⟩
theorem remV_next {i t:Nat}{l:LV}{u:AG}(h:l.ys[t]?=some u):remV fnd c J i (LVt l t)=stepB fnd c (jAt J i) (J.drop (i+1)) (sb l.s.ys) u.x++remV fnd c J i (LVt l (t+1)):=by
 unfold remV
 have h1:(l.ys.map AG.x)[t]?=some u.x:=by rw [List.getElem?_map,h];rfl
 show ((l.ys.map AG.x).drop t).flatMap _=_
 rw [Jfy h1,List.flatMap_cons]
theorem cstV_next {i t:Nat}{l:LV}{u:AG}(h:l.ys[t]?=some u):cstV fnd c J i (LVt l t)=stepC fnd c (jAt J i) (J.drop (i+1)) (sb l.s.ys) u.x+cstV fnd c J i (LVt l (t+1)):=by
 unfold cstV
 have h1:(l.ys.map AG.x)[t]?=some u.x:=by rw [List.getElem?_map,h];rfl
 show 1+(((l.ys.map AG.x).drop t).map (stepC fnd c (jAt J i) (J.drop (i+1)) (sb l.s.ys))).sum=stepC fnd c (jAt J i) (J.drop (i+1)) (sb l.s.ys) u.x+(1+(((l.ys.map AG.x).drop (t+1)).map (stepC fnd c (jAt J i) (J.drop (i+1)) (sb l.s.ys))).sum)
 rw [Jfy h1,List.map_cons,List.sum_cons]
 omega
theorem remV_end {i t:Nat}{l:LV}(h:l.ys.length≤t):remV fnd c J i (LVt l t)=[]:=by
 unfold remV
 have h1:(l.ys.map AG.x).drop t=[]:=List.drop_eq_nil_of_le (by rw [List.length_map];exact h)
 show ((l.ys.map AG.x).drop t).flatMap _=_
 rw [h1];rfl
theorem cstV_pos (i:Nat)(l:LV):1≤cstV fnd c J i l:=by unfold cstV;omega
theorem step_none {j:Nat × List Nat}{js:List (Nat × List Nat)}{s:Bn}{f:At}(h:Jcx (clA c j.1) f s=none):stepB fnd c j js s f=[]:=by unfold stepB;rw [h]
theorem step_fail {j:Nat × List Nat}{js:List (Nat × List Nat)}{s s':Bn}{f:At}(h:Jcx (clA c j.1) f s=some s')(h2:Jej c j.2 s'=false):stepB fnd c j js s f=[]:=by
 unfold stepB;rw [h]
 show (if Jej c j.2 s'=true then _ else _)=_
 rw [if_neg (by rw [h2];simp)]
theorem step_ok {j:Nat × List Nat}{js:List (Nat × List Nat)}{s s':Bn}{f:At}(h:Jcx (clA c j.1) f s=some s')(h2:Jej c j.2 s'=true):stepB fnd c j js s f=sols fnd c js s'∧stepC fnd c j js s f=1+csT fnd c js s':=by
 unfold stepB stepC;rw [h]
 exact ⟨if_pos h2,by show 1+(if Jej c j.2 s'=true then _ else _)=_;rw [if_pos h2]⟩
theorem jAt_of {i:Nat}{j:Nat × List Nat}(h:J[i]?=some j):jAt J i=j:=by unfold jAt;rw [List.getD_eq_getElem?_getD,h];rfl
theorem drop_j {i:Nat}{j:Nat × List Nat}(h:J[i]?=some j):J.drop i=j::J.drop (i+1):=Jfy h
theorem remV_new {i:Nat}{j:Nat × List Nat}(h:J[i]?=some j){l:LV}(ht:l.tr=0)(hy:l.ys.map AG.x=fnd j.1 (appD (sb l.s.ys) (clA c j.1))):remV fnd c J i l=sols fnd c (J.drop i) (sb l.s.ys)∧cstV fnd c J i l=csT fnd c (J.drop i) (sb l.s.ys):=by
 unfold remV cstV
 rw [drop_j h,sols_step,csT_step,jAt_of h,ht,hy]
 exact ⟨rfl,rfl⟩
theorem Dm_sb {ys:List Bd}{v:Int}(h:v∈(sb ys).map (·.1)):Dm (sb ys) v:=by
 generalize sb ys=s at h
 induction s with
 | nil=>simp at h
 | cons q s ih=>
  unfold Dm gotT
  by_cases hv:v=q.1
  ·rw [if_pos hv];rfl
  ·rw [if_neg hv]
   refine ih ?_
   simp only [List.map_cons,List.mem_cons] at h
   exact h.resolve_left hv
theorem nodup_subN {l m:List Nat}(h:l.Nodup)(hs:∀ x∈l,x∈m):l.length≤m.length:=by
 induction l generalizing m with
 | nil=>exact Nat.zero_le _
 | cons x l ih=>
  obtain ⟨h1,h2⟩:=List.nodup_cons.1 h
  have h3:=ih (m:=m.erase x) h2 fun y hy=>(List.mem_erase_of_ne (fun e:y=x=>h1 (by rw [← e];exact hy))).2 (hs y (.tail _ hy))
  have h4:=List.length_erase_of_mem (hs x (.head _))
  have h5:0<m.length:=List.length_pos_of_mem (hs x (.head _))
  simp only [List.length_cons]
  omega
theorem sb_small {ys:List Bd}(hs:SB (sb ys)){N:Nat}(h:∀ v,Dm (sb ys) v→0≤v∧v<(N:Int)):ys.length≤N:=by
 have hn:((sb ys).map (·.1)).Nodup:=hs.nk
 have h1:(((sb ys).map (·.1)).map Int.toNat).Nodup:=by
  refine List.pairwise_map.2 (List.Pairwise.imp_of_mem (fun {a b} ha hb hab e=>?_) hn)
  have h2:=h a (Dm_sb ha)
  have h3:=h b (Dm_sb hb)
  exact hab (by omega)
 have h2:=nodup_subN (m:=List.range N) h1 fun x hx=>by
  obtain ⟨v,hv,rfl⟩:=List.mem_map.1 hx
  have:=h v (Dm_sb hv)
  exact List.mem_range.2 (by omega)
 have h3:(sb ys).length=ys.length:=List.length_map _
 simp only [List.length_map,List.length_range] at h2
 omega
structure LVok (fnd:Nat→At→List At) (c:Cl) (J:List (Nat × List Nat)) (k i:Nat) (l:LV):Prop where
 ys:∃ j,J[i]?=some j∧l.ys.map AG.x=fnd j.1 (appD (sb l.s.ys) (clA c j.1))
 a8:∀ y∈l.ys,y.x.args.length≤8
 len:l.ys.length≤k
 tr:l.tr≤l.ys.length
 sb:SB (sb l.s.ys)
 dm:∀ v,Dm (Go.Proofs.YtgebaodagaecmaaGreatDoor.sb l.s.ys) v→0≤v∧v<72
theorem LVok.at_ {k i:Nat}{l:LV}(h:LVok fnd c J k i l){t:Nat}(ht:t≤l.ys.length):LVok fnd c J k i (LVt l t):=⟨h.ys,h.a8,h.len,ht,h.sb,h.dm⟩
theorem LVok.s72 {k i:Nat}{l:LV}(h:LVok fnd c J k i l):l.s.ys.length≤72:=sb_small h.sb h.dm
theorem match_next {p f:At}{s s':Bn}(hs:SB s)(hd:∀ v,Dm s v→0≤v∧v<72)(hp:∀ v∈Jaq p,0≤v∧v<(72:Int))(h:Jcx p f s=some s'):SB s'∧∀ v,Dm s' v→0≤v∧v<72:=by
 obtain ⟨h1,_,_,h4,_⟩:=(Jgb hs).1 h
 exact ⟨h1,fun v hv=>((h4 v).1 hv).elim (hd v) (hp v)⟩
theorem VC.vars72 {c:Cl}(h:VC c){i:Nat}(hi:i<c.bd.length):∀ v∈Jaq (clA c i),0≤v∧v<(72:Int):=fun v hv=>by
 obtain ⟨a,ha⟩:∃ a,c.bd[i]?=some a:=⟨_,List.getElem?_eq_getElem hi⟩
 rw [Jns ha] at hv
 have h1:=(h.cvn.body v).1 ⟨a,List.mem_of_getElem? ha,hv⟩
 have h2:=h.nV72
 omega
abbrev rowL (a:Option Addr)(n:Nat)(lv:List LV):Hw.Item:=row 145 3 a lv.length n (lv.flatMap lvC)
theorem T.apL:appB Tryz.prog 147 145 3 56=true:=by kernel_rfl
abbrev lvI (l:LV):List Hw.Item:=rowAt l.a l.c l.ys::(argsA l.ys++[bgA l.s])
theorem Jk9 {w0 ws w:World}{M I:Nat→Prop}{ow:List Hw.Item}{q:Addr}{m n:Nat}{lv:List LV}(hw:Sat w0 M I ws ow w)(hm:row 145 3 (some q) m n (lv.flatMap lvC)∈ow){i:Nat}{l:LV}(hi:lv[i]?=some l){j:Nat}{v:Value}(hv:(lvC l)[j]?=some v):w.cell? ((q.add (i*3)).add j)=some v:=by
 have hj:j<3:=(List.getElem?_eq_some_iff.1 hv).1
 have h1:=Jdf hw hm (i*3+j) v (by rw [Jco Jnh lv i j l hi hj];exact hv)
 rwa [Jdm] at h1
theorem lv_set (lv:List LV)(l:LV)(t:Nat):((lv++[LVt l t]).flatMap lvC).set (lv.length*3+1) (.int .i64 ((t+1:Nat):Int))=(lv++[LVt l (t+1)]).flatMap lvC:=by
 have hl:(lv.flatMap lvC).length=lv.length*3:=Jc1 Jnh lv
 rw [List.flatMap_append,List.flatMap_append,List.set_append_right _ _ (by omega),hl,show lv.length*3+1 - lv.length*3=1 by omega]
 rfl
theorem RJ.satA {w w':World}{A ow:List Hw.Item}{a:Option Addr}{ys:List JG}(h:RJ w a ys)(hne:∀ q,a=some q→0<ys.length→¬ DD A q.block)(hw:Sat w (DD A) (fun b=>b<w.heap.size∧¬ DD A b) w ow w'):RJ w' a ys:=by
 refine ⟨h.nil,fun q hq i t ht j v hv=>?_⟩
 have hl:0<ys.length:=by have:=(List.getElem?_eq_some_iff.1 ht).1;omega
 have h1:=h.at_ q hq i t ht j v hv
 have hlt:q.block<w.heap.size:=by
  have h2:=World.block_lt_of_cell? w _ h1
  rwa [Jcq,Jcq] at h2
 have h2:=hw.fr.keep q.block hlt (hne q hq hl)
 unfold World.cell? at h1 ⊢
 rw [Jcq,Jcq] at h1 ⊢
 rw [h2];exact h1
structure RPl (w:World) (A:List Hw.Item) (p:PG):Prop where
 al:RI w p.aa p.al.length p.al
 alne:∀ q,p.aa=some q→0<p.al.length→¬ DD A q.block
 js:RJ w p.ja p.js
 jsne:∀ q,p.ja=some q→0<p.js.length→¬ DD A q.block
 ts:∀ y∈p.js,RI w y.ta y.ts.length y.ts
 tsne:∀ y∈p.js,∀ q,y.ta=some q→0<y.ts.length→¬ DD A q.block
theorem RPl.of_holds {w:World}{A:List Hw.Item}{p:PG}(h:Holds (A++pgA p) w):RPl w A p:=by
 have hS:=Sat.startA h
 have hm:∀ i∈pgA p,i∈A++pgA p:=fun i hi=>List.mem_append_right _ hi
 have hne:∀ i∈pgA p,∀ b,i.D b→¬ DD A b:=fun i hi b hb=>Sat.sepO hS hi hb
 have hts:∀ y∈p.js,rowI y.ta y.tc y.ts∈pgA p:=fun y hy=>.tail _ (.tail _ (List.mem_flatMap.2 ⟨y,hy,.tail _ (.head _)⟩))
 refine ⟨RI.of_row (c:=p.ac) hS (hm _ (.head _)),fun q hq _=>hne _ (.head _) _ ⟨q,hq,rfl⟩,RJ.of_row (c:=p.jc) hS (hm _ (.tail _ (.head _))),fun q hq _=>hne _ (.tail _ (.head _)) _ ⟨q,hq,rfl⟩,fun y hy=>RI.of_row (c:=y.tc) hS (hm _ (hts y hy)),fun y hy q hq _=>hne _ (hts y hy) _ ⟨q,hq,rfl⟩⟩
theorem base_lt {g:BaseG}{w:World}(h:Holds (baseA g) w):g.p<w.heap.size:=h.lt _ (.head _) _ rfl
theorem base_in (g:BaseG):DD (baseA g) g.p:=⟨_,.head _,rfl⟩
theorem newer {w0 w w':World}{A B ow:List Hw.Item}(hB:∀ b,DD A b→w0.heap.size≤b)(h0:w0.heap.size≤w.heap.size)(hw:Sat w (DD A) (fun b=>b<w.heap.size∧¬ DD A b) w (B++ow) w'):∀ b,DD B b→w0.heap.size≤b:=fun b ⟨i,hi,hb⟩=>by
 rcases (hw.lt i (List.mem_append_left _ hi) b hb).2.2 with h | h
 ·exact hB b h
 ·omega
theorem jn_at {js:List JG}{M:List Jn}(h:jnEq js M){i:Nat}{y:JG}(hy:js[i]?=some y):∃ m,M[i]?=some m∧y.a=m.a∧y.ts=nI m.ts∧(jnP M)[i]?=some (m.a,m.ts):=by
 have hl:=h.len
 have hi:=(List.getElem?_eq_some_iff.1 hy).1
 obtain ⟨m,hm⟩:∃ m,M[i]?=some m:=⟨_,List.getElem?_eq_getElem (by omega)⟩
 obtain ⟨h1,_,h3⟩:=h.at_ hy hm
 exact ⟨m,hm,h1,h3,by rw [List.getElem?_map,hm];rfl⟩
end Go.Proofs.YtgebaodagaecmaaGreatDoor
