/- Contracts of functions of the program: what each returns and leaves in memory. Printed by gen.py and walk.py. -/
import Derived.Test.YtgebaodagaecmaaGreatDoorMg23
import Derived.Test.YtgebaodagaecmaaGreatDoorHxA
import Derived.Test.YtgebaodagaecmaaGreatDoorMg22
set_option maxRecDepth 10000
namespace Go.Proofs.YtgebaodagaecmaaGreatDoor
open Go Go.Hw
set_option linter.unusedSimpArgs false
set_option linter.unusedVariables false
structure FD where
 b1:Nat
 b2:Nat
 b3:Nat
 a:Option Addr
 c:Nat
def boxB (bp:Nat)(parts:Int)(p:At)(f:FD):List Hw.Item:=[oQ f.b1 [ptr bp] 35,oQ f.b2 [.int .i64 parts] 3,oQ f.b3 (atC p f.a f.c) 29,rowT f.a f.c p.args]
def FD.caps (f:FD):List Value:=[ptr f.b1,ptr f.b2,ptr f.b3]
abbrev EIa (x:At)(d:Option Addr × Nat):List Hw.Item:=[rowT d.1 d.2 x.args]
abbrev arga (x:At)(d:Option Addr × Nat):Value:=atV x d.1 d.2
theorem foundF_len {g:BaseG}{k:Nat}{F:List (At × Nat)}(b:BS g k F)(parts:Int)(p:At):(Jc2 F parts p).length≤k:=by
 unfold Jc2;rw [(Jec _).length_eq];have h2:=List.length_filter_le (Jdc p) (selF F parts);have h3:(selF F parts).length≤F.length:=by unfold selF;rw [xE];exact List.length_filter_le _ _
 have:=b.fk;omega
set_option maxHeartbeats 2000000 in
theorem bfind1_calls (f:FD)(g0:BaseG)(k:Nat)(F:List (At × Nat))(b:BS g0 k F)(hk:k≤100000000000)(parts:Int)(p:At)(hl:p.args.length≤1048575)(bp:Nat)(hbp:g0.p=bp) 
  {β:Type} (CC:β→List Hw.Item) (J Jx:Nat→BaseG→β→Prop) (y0:β) (l:Nat) (w1:World) (hA:Holds ((baseA g0++boxB bp parts p f)++CC y0) w1)
  (h0:∀ g1,BS g1 k F∧g1.p=g0.p→J 0 g1 y0)
  (hy:∀ i g1 y d W x,(Jc2 F parts p)[i]?=some x→J i g1 y→Turns ((baseA g0++boxB bp parts p f)++CC y0) (EIa x d++((baseA g1++boxB bp parts p f)++CC y)) w1 W →
   Hw.Yields Tryz.prog l [arga x d] W fun b W'=>∃ g2 y2,(b=true→J (i+1) g2 y2)∧(b=false→Jx (i+1) g2 y2)∧Turns (EIa x d++((baseA g1++boxB bp parts p f)++CC y)) ((baseA g2++boxB bp parts p f)++CC y2) W W') :
 Calls Tryz.prog 157 #[.func (.yield l) #[] #[],ptr f.b1,ptr f.b2,ptr f.b3] w1 fun en w'=>en=.returned (.tuple #[])∧∃ g2 y2 i,((i=(Jc2 F parts p).length∧J i g2 y2)∨(0<i∧i≤(Jc2 F parts p).length∧Jx i g2 y2))∧Turns ((baseA g0++boxB bp parts p f)++CC y0) ((baseA g2++boxB bp parts p f)++CC y2) w1 w':=by
 refine Jdt hA (args:=[.func (.yield l) #[] #[],ptr f.b1,ptr f.b2,ptr f.b3]) Tryz.func157 rfl Tryz.ntmps157 rfl rfl ?_;refine Cs (WC.weak (S':=Sat w1 (DD ((baseA g0++boxB bp parts p f)++CC y0)) (fun b=>b<w1.heap.size∧¬ DD ((baseA g0++boxB bp parts p f)++CC y0) b) w1 ((baseA g0++(boxB bp parts p f++CC y0)))) (fun w' hw=>hw.perm (List.Perm.of_eq (xF _ _ _).symm)) ?_);refine Cr (Zv (OV.ah (v:=ptr bp) rfl T.u35 rfl (fun _ hw=>Jlm hw (xB _ (xA _ yH)))) (Zv (OV.ah (v:=.int .i64 parts) rfl T.u3 rfl (fun _ hw=>Jlm hw (xB _ (xA _ yI)))) (Zv (OV.lN (cs:=atC p f.a f.c) rfl T.u29 rfl T.z29 (xB _ (xA _ yJ))) (WL.dl (ι:=AnsA) (vs:=[ptr g0.p,.int .i64 parts,atV p f.a f.c]) (vv:=fun z=>.slice z.a z.ys.length z.c) (pp:=fun z=>z.ys.map AG.x=(Jc2 F parts p)∧BS z.g k F∧z.g.p=g0.p∧(∀ y∈z.ys,y.x.args.length≤8)∧z.ys.length≤k) (baseA g0) (AA:=fun z=>baseA z.g++atsA z.a z.c z.ys) rfl (by kernel_rfl) (by rw [hbp];rfl) rfl (fun w' hw' hH=>bfnd_calls g0 k F b hk parts p f.a f.c hl w' (RT.of_row (c:=f.c) rfl hw' (xB _ (xA _ yK))) (fun q hq hl=>Sat.sepO hw' (i:=rowT f.a f.c p.args) (xA _ yK) ⟨q,hq,rfl⟩) hH) ?_))));rintro z ⟨hzx,bsz,hzp,hza0,hzl⟩;refine Zv (OV.ae rfl T.u22) (Zm rfl (Nn (Cb ?_)));have hzn:z.ys.length=(Jc2 F parts p).length:=by rw [← hzx,xE]
 refine WC.weak (S':=Sat w1 (DD ((baseA g0++boxB bp parts p f)++CC y0)) (fun b=>b<w1.heap.size∧¬ DD ((baseA g0++boxB bp parts p f)++CC y0) b) w1 (rowAt z.a z.c z.ys::(argsA (z.ys.drop 0)++(baseA z.g++(boxB bp parts p f++CC y0))))) (fun w' hw=>?_) ?_
 ·have h2:=hw.perm (ow':=cat [baseA z.g,[rowAt z.a z.c z.ys],argsA z.ys,boxB bp parts p f++CC y0]) (List.Perm.of_eq (by simp [cat,atsA]));have h3:=h2.pik [baseA z.g,[rowAt z.a z.c z.ys],argsA z.ys,boxB bp parts p f++CC y0] [1,2,0,3] 4;exact h3.perm (List.Perm.of_eq (by simp [cat]))
 refine WC.mq (fun w' hw=>(fun hp=>Jed (hw.it (rowAt z.a z.c z.ys) yH) hp:0<z.ys.length→∃ q,z.a=some ⟨q,0,none⟩)) (fun hza=>?_)
 refine WC.ic (fun (j:Nat) (gk:BaseG) (y:β)=>[(0,.func (.yield l) #[] #[]),(10,.slice z.a z.ys.length z.c),(11,.int .i64 (z.ys.length:Int)),(12,.int .i64 (j:Int))])
   (fun j gk y w'=>(j≤z.ys.length∧J j gk y)∧Sat w1 (DD ((baseA g0++boxB bp parts p f)++CC y0)) (fun b=>b<w1.heap.size∧¬ DD ((baseA g0++boxB bp parts p f)++CC y0) b) w1 (rowAt z.a z.c z.ys::(argsA (z.ys.drop j)++(baseA gk++(boxB bp parts p f++CC y)))) w')
   (fun j _ _=>z.ys.length - j) 0 z.g y0 Y4 (fun w' hw=>⟨⟨by omega,h0 z.g ⟨bsz,hzp⟩⟩,hw⟩) ?_
 intro j gk y;refine WC.pure (fun hj=>?_);refine Csr (Zv (OV.cq rfl rfl) (Nn (Cs ?_)));refine Cc rfl (fun c13=>?_) (fun c13=>?_)
 ·refine Ck (Xn (Cs (Cb (Csr ?_))));obtain ⟨ay,hay⟩:∃ ay,z.ys[j]?=some ay:=⟨_,xD (by omega)⟩
  obtain ⟨qa,hqa⟩:=hza (by omega);have hdr:z.ys.drop j=ay::z.ys.drop (j+1):=Jge hay;refine Zv ((OV.ad (show _=some (Value.slice (some ⟨qa,0,none⟩) z.ys.length z.c) by rw [← hqa];rfl) rfl T.u22 T.z29 (by omega)).cast (u:=.pointer (some ⟨qa,j*5,none⟩)) (by rw [xN,Jap,xM])) ?_;refine WL.val (OV.ai (cs:=agC ay) rfl T.u29 rfl T.z29 (fun _ hw i v hi=>by have hi5:i<5:=(List.getElem?_eq_some_iff.1 hi).1;have h:=Jcr hqa (hw.it (rowAt z.a z.c z.ys) yH) (j*5+i) v (by rw [Jcu Joy _ j i ay hay (by omega)];exact hi);rw [Jap,xM] at h;rw [Jap];exact h)) rfl ?_;refine WL.alloc T.zr29 rfl ?_;intro b6;refine WL.ag (vs:=atC ay.x ay.a ay.c) rfl rfl rfl T.z29 rfl ?_;refine Nn (Csr (Zm rfl (Zv (OV.lN (cs:=atC ay.x ay.a ay.c) rfl T.u29 rfl T.z29 yH) ?_)));obtain ⟨hjj,hJ⟩:=hj;rw [hdr];have hax:(Jc2 F parts p)[j]?=some ay.x:=by rw [← hzx,xG,hay];rfl
  refine WL.focus (ow':=(rowT ay.a ay.c ay.x.args::(baseA gk++(boxB bp parts p f++CC y)))++([oQ b6 (atC ay.x ay.a ay.c) 29,rowAt z.a z.c z.ys]++argsA (z.ys.drop (j+1)))) (by exact pmC [[oQ b6 (atC ay.x ay.a ay.c) 29,rowAt z.a z.c z.ys],[rowT ay.a ay.c ay.x.args],argsA (z.ys.drop (j+1)),(baseA gk++(boxB bp parts p f++CC y))] [1,3,0,2]) (WL.yieldT (AA:=fun b A'=>∃ g2 y2,A'=(baseA g2++(boxB bp parts p f++CC y2))∧(b=true→J (j+1) g2 y2)∧(b=false→Jx (j+1) g2 y2)) rfl rfl rfl (fun w' hw'=>?_) ?_)
  ·have ht:=hw'.turnedL;refine (hy j gk y (ay.a,ay.c) w' ay.x hax hJ (by simp only [xF] at ht ⊢;exact ht)).mono (fun b W' ⟨g2,y2,t1,t2,t3⟩=>⟨_,⟨g2,y2,rfl,t1,t2⟩,by simp only [xF] at t3 ⊢;exact t3⟩)
  rintro b A' ⟨g2,y2,rfl,hJt,hJf⟩;refine Zv (OV.not rfl) (Nn ?_);refine Cc rfl (fun c19=>?_) (fun c19=>?_)
  ·refine WC.az ?_;refine Xq (Xr (Xr (Xq ?_)));exact WX.ret0 rfl rfl (fun w' hw=>⟨rfl,g2,y2,j+1,.inr ⟨by omega,by omega,hJf (by simpa using c19)⟩,by simpa only [xF] using hw.turnedL⟩)
  refine Ck (Xb (Xn (Cr (Zv (OV.bm (j:=1) rfl rfl (by omega)) (Zm rfl (Nl ?_))))));refine WX.eo (j+1) g2 y2 Y4 (fun w' hw=>⟨⟨by omega,hJt (by simpa using c19)⟩,?_⟩) (by show z.ys.length - (j+1)<z.ys.length - j;omega);have h2:=hw.perm (ow':=cat [(baseA g2++(boxB bp parts p f++CC y2)),[oQ b6 (atC ay.x ay.a ay.c) 29],[rowAt z.a z.c z.ys],argsA (z.ys.drop (j+1))]) (List.Perm.of_eq (by simp [cat]));have h3:=h2.pik [(baseA g2++(boxB bp parts p f++CC y2)),[oQ b6 (atC ay.x ay.a ay.c) 29],[rowAt z.a z.c z.ys],argsA (z.ys.drop (j+1))] [2,3,0] 4;exact h3.perm (List.Perm.of_eq (by simp [cat]))
 refine Ce (Xe (Xe (Xh ?_)));obtain ⟨hjj,hJ⟩:=hj;have hje:j=z.ys.length:=by omega
 subst hje;rw [List.drop_length] at *;exact WX.ret0 rfl rfl (fun w' hw=>⟨rfl,gk,y,z.ys.length,.inl ⟨hzn,hJ⟩,by have h:=hw.drop.turned;simpa only [argsA,yD,xY,xF] using h⟩)
theorem bfind1_iter (f:FD)(g0:BaseG)(k:Nat)(F:List (At × Nat))(b:BS g0 k F)(hk:k≤100000000000)(parts:Int)(p:At)(hl:p.args.length≤1048575)(bp:Nat)(hbp:g0.p=bp)(w:World):
  Jnv Tryz.prog 157 f.caps (fun g=>baseA g++boxB bp parts p f) g0 (fun g1=>BS g1 k F∧g1.p=g0.p) (fun _=>True) EIa arga (Jc2 F parts p) w:=by
 intro β CC J Jx y0 l w1 ht h0 hm hy;exact bfind1_calls f g0 k F b hk parts p hl bp hbp CC J Jx y0 l w1 ht.holds h0 hy
theorem RBd.satA {w w':World}{A ow:List Hw.Item}{a:Option Addr}{ys:List Bd}(h:RBd w a ys)(hne:∀ q,a=some q→0<ys.length→¬ DD A q.block)(hw:Sat w (DD A) (fun b=>b<w.heap.size∧¬ DD A b) w ow w'):RBd w' a ys:=by
 refine ⟨h.nil,fun q hq i t ht j v hv=>?_⟩;have hl:0<ys.length:=by have:=(List.getElem?_eq_some_iff.1 ht).1;omega
 have h1:=h.at_ q hq i t ht j v hv
 have hlt:q.block<w.heap.size:=by
  have h2:=World.block_lt_of_cell? w _ h1;rwa [Jcv,Jcv] at h2
 have h2:=hw.fr.keep q.block hlt (hne q hq hl);unfold World.cell? at h1 ⊢;rw [Jcv,Jcv] at h1 ⊢;rw [h2];exact h1
structure LV where
 a:Option Addr
 c:Nat
 ys:List AG
 tr:Nat
 s:BG
def lvC (l:LV):List Value:=[.slice l.a l.ys.length l.c,.int .i64 (l.tr:Int),.slice l.s.a l.s.ys.length l.s.c]
theorem Jnx (l:LV):(lvC l).length=3:=rfl
theorem lvC_one (l:LV):∀ v∈lvC l,v.oneCell'=true:=by simp [lvC,Value.oneCell']
theorem parts_calls (i:Nat)(lead:Option Nat)(w:World):Calls Tryz.prog 118 #[.int .i64 (i:Int),.int .i64 (leadI lead)] w fun e w'=>e=.returned (.int .i64 (Jby i lead))∧Fr0 w w':=by
 refine Jbo (args:=[.int .i64 (i:Int),.int .i64 (leadI lead)]) (fun _=>False) Tryz.func118 rfl Tryz.ntmps118 rfl rfl ?_;refine Csr (Za rfl (Nn (Cs (Cb (Csr (Zm rfl (Zv (OV.cq rfl rfl) (Zm rfl ?_))))))));refine Zp (t:=8) rfl (fun g8=>?_) (fun g8=>?_)
 ·refine yX (yX (yX (Zv (OV.am rfl rfl) (Za rfl (Nn (WC.co (show _=some (Value.bool true) from by rfl) ?_))))));refine Csr (Za rfl (Nn (WC.az ?_)));refine Xq (Xr ?_)
  exact WX.ret1 rfl rfl rfl (fun w' hw=>⟨by cases lead with
   | none=>rfl
   | some l=>exact absurd g8 (by show ¬ (l:Int)<0;omega),hw.fr⟩)
 refine yY (Zm rfl (yY (Zm rfl (yY (Zv (OV.lj rfl rfl) (Zv (OV.aj rfl rfl) (Za rfl (Nn ?_))))))));refine Cc rfl (fun c5=>?_) (fun c5=>?_)
 ·refine Csr (Za rfl (Nn (WC.az ?_)));refine Xq (Xr ?_)
  exact WX.ret1 rfl rfl rfl (fun w' hw=>⟨by cases lead with
   | none=>exact absurd (by show (-1:Int)<0;omega) g8
   | some l=>
         have h:(l:Int)<(i:Int):=c5;unfold Jby;dsimp only;rw [if_pos (by omega)],hw.fr⟩)
 refine Csr (Zm rfl (Zm rfl (Zv (OV.eb rfl rfl) (Za rfl (Nn ?_)))));refine Cc rfl (fun c13=>?_) (fun c13=>?_)
 ·refine Csr (Za rfl (Nn (WC.az ?_)));refine Xq (Xr ?_)
  exact WX.ret1 rfl rfl rfl (fun w' hw=>⟨by cases lead with
   | none=>exact absurd (by show (-1:Int)<0;omega) g8
   | some l=>
         have h:¬ (l:Int)<(i:Int):=c5;have h2:(i:Int)=(l:Int):=c13;unfold Jby;dsimp only;rw [if_neg (by omega),if_pos (by omega)],hw.fr⟩)
 refine Ck (Xb (Xn (Csr (Za rfl (Nn (WC.az ?_))))))
 exact WX.ret1 rfl rfl rfl (fun w' hw=>⟨by cases lead with
  | none=>exact absurd (by show (-1:Int)<0;omega) g8
  | some l=>
        have h:¬ (l:Int)<(i:Int):=c5;have h2:¬ (i:Int)=(l:Int):=c13;unfold Jby;dsimp only;rw [if_neg (by omega),if_neg (by omega)],hw.fr⟩)
set_option maxHeartbeats 2000000 in
theorem enter_calls (g:BaseG)(k:Nat)(F:List (At × Nat))(b:BS g k F)(hkk:k≤100000000000)(q:CG)(hs:CS q)(lead:Option Nat)(y:JG)(hya:y.a<q.bd.length)(s:BG)(hsl:s.ys.length≤1048576)(w0 w:World)(hk:Keeps w0 w)(hB:∀ b,DD (baseA g) b→w0.heap.size≤b)(hN:Jdb w0)(hr:RC w0 q)(hS:RBd w s.a s.ys)(hSne:∀ p,s.a=some p→0<s.ys.length→¬ DD (baseA g) p.block)(hA:Holds (baseA g) w):
 Calls Tryz.prog 89 #[ptr g.p,cgV q,.int .i64 (leadI lead),.agg (jgC y).toArray,.slice s.a s.ys.length s.c] w fun e w'=>∃ z:AnsA,e=.returned (.agg (lvC ⟨z.a,z.c,z.ys,0,s⟩).toArray)∧(z.ys.map AG.x=Jc2 F (Jby y.a lead) (appD (sb s.ys) (clA q.cl y.a))∧BS z.g k F∧z.g.p=g.p∧(∀ y∈z.ys,y.x.args.length≤8)∧z.ys.length≤k)∧Turns (baseA g) (baseA z.g++atsA z.a z.c z.ys) w w':=by
 refine Jdt hA (args:=[ptr g.p,cgV q,.int .i64 (leadI lead),.agg (jgC y).toArray,.slice s.a s.ys.length s.c]) Tryz.func89 rfl Tryz.ntmps89 rfl rfl ?_;refine Csr (WL.box rfl rfl rfl ?_);intro b6;refine WL.box rfl rfl rfl ?_;intro bb8;refine WL.alloc (cs:=lvC ⟨none,0,[],0,⟨[],none,0⟩⟩) T.zr145 rfl ?_;intro b10;refine Nn (Csr (Zm rfl (Zv (OV.ao (xs:=[(2,.tmp 13)]) (pl:=[(0,1),(1,1),(2,1)]) (cs:=lvC ⟨none,0,[],0,s⟩) T.u145 T.zr145 (by kernel_rfl) rfl (Jal (us:=[_]) rfl rfl yW rfl)) (WL.alloc T.zr145 rfl ?_))));intro b11;refine WL.ag (vs:=lvC ⟨none,0,[],0,s⟩) rfl rfl rfl T.z145 rfl ?_;refine Nn (Cs (Cs ?_));obtain ⟨bb,u0,hbb,hz,hzm,_,_⟩:=hr.bd.get hya;have hz8:=hs.at_ u0 (Or.inr hzm);have hzc:clA q.cl y.a=u0.x:=Jnl hz;have hpl:(appD (sb s.ys) u0.x).args.length=u0.x.args.length:=by simp [appD]
 refine Hd (fun w'=>w'.heap[b6]?=some (.cells (cgC q).toArray 32 (0,0))∧w'.heap[bb8]?=some (.cells (jgC y).toArray 141 (0,0))∧RC w' q) [] (fun _ hw=>⟨hw.it (oQ b6 (cgC q) 32) (by simp [cat]),hw.it (oQ bb8 (jgC y) 141) (by simp [cat]),hr.keeps (Jb2 hk hB hw)⟩) (m:=14) rfl ?_;refine Hf 0 rfl (OV.aw rfl) (Hf 1 rfl (OV.f0 0 rfl T.u141 rfl) (Ht 2 rfl (OV.ah (v:=.int .i64 (y.a:Int)) rfl T.u3 rfl (fun _ hw=>(Jax hw.2.1 (o:=0) rfl).1)) (Hf 3 rfl (OV.aw rfl) (Hf 5 rfl (OV.aw rfl) (Hf 6 rfl (OV.f0 5 rfl T.u32 rfl) (Ht 7 rfl (OV.ah (v:=.slice q.ba q.bd.length q.bc) rfl T.u22 rfl (fun _ hw=>(Jax hw.1 (o:=5) rfl).1)) (Hf 8 rfl (OV.f0 0 rfl T.u141 rfl) (Ht 9 rfl (OV.ah (v:=.int .i64 (y.a:Int)) rfl T.u3 rfl (fun _ hw=>(Jax hw.2.1 (o:=0) rfl).1)) (Hf 10 rfl ((OV.ad (show _=some (Value.slice (some bb) q.bd.length q.bc) by rw [← hbb];rfl) rfl T.u22 T.z29 (by omega)).cast (u:=.pointer (some (bb.add (y.a*5)))) (by rw [xN])) (Ht 11 rfl (OV.ai (cs:=atC u0.x u0.a u0.c) rfl T.u29 rfl T.z29 (fun _ hw j v hj=>hw.2.2.bd.at_ _ hbb y.a u0 hz j v hj)) (Ho 4 rfl (fl':=false) rfl ?_)))))))))));refine WL.c0 (v:=.int .i64 (Jby y.a lead)) (vs:=[.int .i64 (y.a:Int),.int .i64 (leadI lead)]) (fun w' hw'=>parts_calls y.a lead w') ?_;refine Hc (fun _=>(fun _ hw=>⟨hw.it (oQ b6 (cgC q) 32) (by simp [cat]),hw.it (oQ bb8 (jgC y) 141) (by simp [cat]),hr.keeps (Jb2 hk hB hw)⟩)) ?_;refine Ho 12 rfl (fl':=false) rfl ?_;refine WL.cT (ι:=Option Addr × Nat) (vs:=[.slice s.a s.ys.length s.c,atV u0.x u0.a u0.c]) (vv:=fun p=>atV (appD (sb s.ys) u0.x) p.1 p.2) (pp:=fun _=>True) [] (AA:=fun p=>[rowT p.1 p.2 (appD (sb s.ys) u0.x).args]) rfl (fun w' hw' _=>(tapply_calls s.ys u0.x s.a u0.a s.c u0.c (by omega) (by omega) w' (hN.keeps (Jb2 hk hB hw')) (hS.satA hSne hw') ((hr.keeps (Jb2 hk hB hw')).bd.args _ hzm)).mono (fun en w'' ⟨p,h1,h2⟩=>⟨p,h1,trivial,h2⟩)) ?_;rintro ⟨pa,pc⟩ _;refine Hc (fun _=>(fun _ hw=>⟨hw.it (oQ b6 (cgC q) 32) (by simp [cat]),hw.it (oQ bb8 (jgC y) 141) (by simp [cat]),hr.keeps (Jb2 hk hB hw)⟩)) ?_;refine Ho 13 rfl (fl':=false) rfl ?_;refine WL.cT (ι:=Nat × Nat × Nat × Option Addr × Nat) (vs:=[ptr g.p,.int .i64 (Jby y.a lead),atV (appD (sb s.ys) u0.x) pa pc]) (vv:=fun z=>.func (.func 157) #[] #[ptr z.1,ptr z.2.1,ptr z.2.2.1]) (pp:=fun _=>True) [] (AA:=fun z=>boxB g.p (Jby y.a lead) (appD (sb s.ys) u0.x) ⟨z.1,z.2.1,z.2.2.1,z.2.2.2.1,z.2.2.2.2⟩) rfl (fun w' hw' _=>(bfind_calls g (Jby y.a lead) (appD (sb s.ys) u0.x) pa pc (by omega) w' (RT.of_row (c:=pc) rfl (show SatA w (baseA g) (rowT pa pc (appD (sb s.ys) u0.x).args::oQ b11 (lvC ⟨none,0,[],0,s⟩) 145::oQ b10 (lvC ⟨none,0,[],0,⟨[],none,0⟩⟩) 145::oQ bb8 (jgC y) 141::oQ b6 (cgC q) 32::baseA g) w' from hw') yH)).mono (fun en w'' ⟨z,h1,h2⟩=>⟨z,h1,trivial,h2⟩)) ?_;rintro ⟨z1,z2,z3,z4,z5⟩ _;obtain ⟨fd,hfd⟩:∃ fd:FD,fd=⟨z1,z2,z3,z4,z5⟩:=⟨_,rfl⟩
 refine WL.focus (ow':=cat [baseA g,boxB g.p (Jby y.a lead) (appD (sb s.ys) u0.x) fd,[oQ b11 (lvC ⟨none,0,[],0,s⟩) 145],[rowT pa pc (appD (sb s.ys) u0.x).args,oQ b10 (lvC ⟨none,0,[],0,⟨[],none,0⟩⟩) 145,oQ bb8 (jgC y) 141,oQ b6 (cgC q) 32]]) (by subst hfd;exact (List.Perm.trans (pmC [boxB g.p (Jby y.a lead) (appD (sb s.ys) u0.x) ⟨z1,z2,z3,z4,z5⟩,[rowT pa pc (appD (sb s.ys) u0.x).args],[oQ b11 (lvC ⟨none,0,[],0,s⟩) 145],[oQ b10 (lvC ⟨none,0,[],0,⟨[],none,0⟩⟩) 145,oQ bb8 (jgC y) 141,oQ b6 (cgC q) 32],baseA g] [4,0,2,1,3]) (List.Perm.of_eq (by simp [cat])))) ?_;refine Hc (fun _=>(fun _ hw=>⟨hw.it (oQ b6 (cgC q) 32) (by simp [cat]),hw.it (oQ bb8 (jgC y) 141) (by simp [cat]),hr.keeps (Jb2 hk hB hw)⟩)) ?_;refine He (Xn (Cb ?_));refine WC.weak (S':=SatA w (baseA g) ((baseA g++boxB g.p (Jby y.a lead) (appD (sb s.ys) u0.x) fd)++((fun u:Option Addr × Nat × List AG=>oQ b11 (lvC ⟨u.1,u.2.1,u.2.2,0,s⟩) 145::(atsA u.1 u.2.1 u.2.2++[rowT pa pc (appD (sb s.ys) u0.x).args,oQ b10 (lvC ⟨none,0,[],0,⟨[],none,0⟩⟩) 145,oQ bb8 (jgC y) 141,oQ b6 (cgC q) 32])) (none,0,[])++[]))) (fun w' hw=>?_) ?_
 ·have h2:=hw.rowNil 29 5;exact h2.perm ((List.Perm.of_eq (by simp [cat,atsA,argsA,rowAt])).trans (pmC [[row 29 5 none 0 0 []],baseA g,boxB g.p (Jby y.a lead) (appD (sb s.ys) u0.x) fd,[oQ b11 (lvC ⟨none,0,[],0,s⟩) 145],[rowT pa pc (appD (sb s.ys) u0.x).args,oQ b10 (lvC ⟨none,0,[],0,⟨[],none,0⟩⟩) 145,oQ bb8 (jgC y) 141,oQ b6 (cgC q) 32]] [1,2,3,0,4]))
 refine WC.jw (RA:=fun q=>baseA q++boxB g.p (Jby y.a lead) (appD (sb s.ys) u0.x) fd) (CC:=(fun u:Option Addr × Nat × List AG=>oQ b11 (lvC ⟨u.1,u.2.1,u.2.2,0,s⟩) 145::(atsA u.1 u.2.1 u.2.2++[rowT pa pc (appD (sb s.ys) u0.x).args,oQ b10 (lvC ⟨none,0,[],0,⟨[],none,0⟩⟩) 145,oQ bb8 (jgC y) 141,oQ b6 (cgC q) 32]))) (EI:=EIa) (arg:=arga) (xs:=(Jc2 F (Jby y.a lead) (appD (sb s.ys) u0.x))) (g0:=g) (y0:=(none,0,[])) (R01:=fun q=>BS q k F∧q.p=g.p) (Mono:=fun _=>True) (gf:=157) (caps:=fd.caps) (ow:=[]) rfl (by rw [hfd];rfl) (by kernel_rfl) rfl (fun w' _=>bfind1_iter fd g k F b hkk (Jby y.a lead) (appD (sb s.ys) u0.x) (by omega) g.p rfl w')
  (fun i q u=>BS q k F∧q.p=g.p∧u.2.2.map AG.x=(Jc2 F (Jby y.a lead) (appD (sb s.ys) u0.x)).take i∧(∀ z∈u.2.2,z.x.args.length≤8)) (fun _ _ _ _=>False) (fun q hq=>⟨hq.1,hq.2,by simp,fun z hz=>by cases hz⟩) (fun _ _ _ _=>trivial) ?_ ?_ ?_
 ·rintro l lr i q9 ⟨la,lc,ys⟩ d W x hxs hJ hS9;obtain ⟨bsq,hqp,hys,hyl8⟩:BS q9 k F∧q9.p=g.p∧ys.map AG.x=(Jc2 F (Jby y.a lead) (appD (sb s.ys) u0.x)).take i∧(∀ z∈ys,z.x.args.length≤8):=hJ
  have hyl:ys.length≤k:=by
   have h1:=congrArg List.length hys;rw [xE,xJ] at h1;have h2:=foundF_len b (Jby y.a lead) (appD (sb s.ys) u0.x);omega
  have hx8:x.args.length≤8:=by
   have h1:=(Jec _).mem_iff.1 (xC hxs);obtain ⟨q2,hq2,he⟩:=List.mem_map.1 (List.mem_filter.1 h1).1;exact facts_args b.ok ((b.mem x).2 (List.mem_map.2 ⟨q2,(List.mem_filter.1 hq2).1,he⟩))
  refine Cr (WL.alloc T.zr29 rfl ?_);intro b12;refine WL.ag (vs:=atC x d.1 d.2) rfl rfl rfl T.z29 rfl ?_;refine WL.focus perm1 ?_;refine Nl (WX.o0 ?_)
  refine WC.focus (ow':=oQ b11 (lvC ⟨la,lc,ys,0,s⟩) 145::rowAt la lc ys::oQ b12 (atC x d.1 d.2) 29::own l (lr.ob .busy none)::rowT d.1 d.2 x.args::(argsA ys++([rowT pa pc (appD (sb s.ys) u0.x).args,oQ b10 (lvC ⟨none,0,[],0,⟨[],none,0⟩⟩) 145,oQ bb8 (jgC y) 141,oQ b6 (cgC q) 32]++(baseA q9++boxB g.p (Jby y.a lead) (appD (sb s.ys) u0.x) fd)))) (by
   refine List.Perm.trans (pmC [[own l (lr.ob .busy none)],[oQ b12 (atC x d.1 d.2) 29],[rowT d.1 d.2 x.args],(baseA q9++boxB g.p (Jby y.a lead) (appD (sb s.ys) u0.x) fd),[oQ b11 (lvC ⟨la,lc,ys,0,s⟩) 145,rowAt la lc ys],argsA ys,[rowT pa pc (appD (sb s.ys) u0.x).args,oQ b10 (lvC ⟨none,0,[],0,⟨[],none,0⟩⟩) 145,oQ bb8 (jgC y) 141,oQ b6 (cgC q) 32]] [4,1,0,2,5,6,3]) (List.Perm.of_eq ?_);simp [cat,atsA]) ?_
  refine Cb (Cr (Zv (OV.f0 0 rfl T.u145 rfl) (Zv (OV.ah (v:=.slice la ys.length lc) rfl T.u22 rfl (fun _ hw=>Jbh hw (show oQ b11 (lvC ⟨la,lc,ys,0,s⟩) 145∈_ by simp) 0 _ rfl)) (Zv (OV.lN (cs:=atC x d.1 d.2) rfl T.u29 rfl T.z29 (show oQ b12 (atC x d.1 d.2) 29∈_ by simp)) (WL.bg (cs:=agC (⟨x,d.1,d.2⟩:AG)) T.u22 T.z29 T.zr29 rfl rfl (by omega) (by omega) rfl ?_)))));intro b33;refine WL.focus (ow':=rowAt la lc ys::oQ b33 (agC (⟨x,d.1,d.2⟩:AG)) 29::oQ b11 (lvC ⟨la,lc,ys,0,s⟩) 145::oQ b12 (atC x d.1 d.2) 29::own l (lr.ob .busy none)::rowT d.1 d.2 x.args::(argsA ys++([rowT pa pc (appD (sb s.ys) u0.x).args,oQ b10 (lvC ⟨none,0,[],0,⟨[],none,0⟩⟩) 145,oQ bb8 (jgC y) 141,oQ b6 (cgC q) 32]++(baseA q9++boxB g.p (Jby y.a lead) (appD (sb s.ys) u0.x) fd)))) (pmP [_,_,_,_,_,_] [2,0,1,3,4,5]) ?_;refine WL.append (news:=agC (⟨x,d.1,d.2⟩:AG)) rfl rfl T.apA (fun _ _=>Jcw yI rfl) (Jis _) ⟨by omega,by unfold maxLen;omega⟩ rfl ?_;intro a34 c34;refine Zv (OV.f0 0 rfl T.u145 rfl) ?_;refine WL.focus perm2 (WL.bw (o:=0) rfl rfl rfl T.z22 (Nat.zero_lt_succ _) ?_);refine Nl (Xb ?_);have el:ys.length+1=(ys++[(⟨x,d.1,d.2⟩:AG)]).length:=by simp
  have ef:ys.flatMap agC++agC (⟨x,d.1,d.2⟩:AG)=(ys++[(⟨x,d.1,d.2⟩:AG)]).flatMap agC:=by simp
  have em:argsA (ys++[(⟨x,d.1,d.2⟩:AG)])=argsA ys++[rowT d.1 d.2 x.args]:=by simp [argsA]
  refine WX.focus (ow':=own l (lr.ob .busy none)::((baseA q9++boxB g.p (Jby y.a lead) (appD (sb s.ys) u0.x) fd)++(oQ b11 (lvC ⟨a34,c34,(ys++[(⟨x,d.1,d.2⟩:AG)]),0,s⟩) 145::rowAt a34 c34 (ys++[(⟨x,d.1,d.2⟩:AG)])::(argsA ys++(rowT d.1 d.2 x.args::([rowT pa pc (appD (sb s.ys) u0.x).args,oQ b10 (lvC ⟨none,0,[],0,⟨[],none,0⟩⟩) 145,oQ bb8 (jgC y) 141,oQ b6 (cgC q) 32]++[oQ b33 (agC (⟨x,d.1,d.2⟩:AG)) 29,oQ b12 (atC x d.1 d.2) 29])))))) ?_ (WX.jp (fun w' hw=>⟨q9,(a34,c34,ys++[(⟨x,d.1,d.2⟩:AG)]),lr.ob .ready none,fun _=>⟨⟨bsq,hqp,?_,?_⟩,rfl⟩,fun h=>(by cases h),?_⟩))
  ·rw [el,ef];exact (pmC [[oQ b11 (lvC ⟨a34,c34,(ys++[(⟨x,d.1,d.2⟩:AG)]),0,s⟩) 145],[rowAt a34 c34 (ys++[(⟨x,d.1,d.2⟩:AG)])],[oQ b33 (agC (⟨x,d.1,d.2⟩:AG)) 29],[oQ b12 (atC x d.1 d.2) 29],[own l (lr.ob .busy none)],[rowT d.1 d.2 x.args],argsA ys,[rowT pa pc (appD (sb s.ys) u0.x).args,oQ b10 (lvC ⟨none,0,[],0,⟨[],none,0⟩⟩) 145,oQ bb8 (jgC y) 141,oQ b6 (cgC q) 32],(baseA q9++boxB g.p (Jby y.a lead) (appD (sb s.ys) u0.x) fd)] [4,8,0,1,6,5,7,2,3])
  ·show (ys++[_]).map AG.x=_;rw [xU,hys,List.take_add_one,hxs];rfl
  ·intro z hz;rcases List.mem_append.1 hz with h | h
   ·exact hyl8 z h
   ·simp only [xI] at h;subst h;exact hx8
  ·show Turns _ (own l (lr.ob .ready none)::((baseA q9++boxB g.p (Jby y.a lead) (appD (sb s.ys) u0.x) fd)++(oQ b11 (lvC ⟨a34,c34,(ys++[(⟨x,d.1,d.2⟩:AG)]),0,s⟩) 145::(atsA a34 c34 (ys++[(⟨x,d.1,d.2⟩:AG)])++[rowT pa pc (appD (sb s.ys) u0.x).args,oQ b10 (lvC ⟨none,0,[],0,⟨[],none,0⟩⟩) 145,oQ bb8 (jgC y) 141,oQ b6 (cgC q) 32])))) _ _;unfold atsA;rw [em];exact Hw.Sat.turnedL (B:=[oQ b33 (agC (⟨x,d.1,d.2⟩:AG)) 29,oQ b12 (atC x d.1 d.2) 29]) (hw.perm (List.Perm.of_eq (by simp)))
 ·rintro D g2 ⟨la,lc,ys⟩ hJ;obtain ⟨bs2,hp2,hys,hyl8⟩:BS g2 k F∧g2.p=g.p∧ys.map AG.x=(Jc2 F (Jby y.a lead) (appD (sb s.ys) u0.x)).take (Jc2 F (Jby y.a lead) (appD (sb s.ys) u0.x)).length∧(∀ z∈ys,z.x.args.length≤8):=hJ;rw [List.take_length] at hys;refine Xb (Xn (Cs (WC.weak (S':=SatA w (baseA g) (cat [[own D (.deferred (some []))],baseA g2,boxB g.p (Jby y.a lead) (appD (sb s.ys) u0.x) fd,[oQ b11 (lvC ⟨la,lc,ys,0,s⟩) 145],atsA la lc ys,[rowT pa pc (appD (sb s.ys) u0.x).args],[oQ b10 (lvC ⟨none,0,[],0,⟨[],none,0⟩⟩) 145],[oQ bb8 (jgC y) 141,oQ b6 (cgC q) 32]])) (fun w' hw=>hw.perm (List.Perm.of_eq (by simp [cat]))) ?_)));refine Cr (Zv (OV.lN (cs:=lvC ⟨la,lc,ys,0,s⟩) rfl T.u145 rfl T.z145 (show oQ b11 (lvC ⟨la,lc,ys,0,s⟩) 145∈_ by simp [cat])) (WL.focus (ow':=cat [[oQ b10 (lvC ⟨none,0,[],0,⟨[],none,0⟩⟩) 145],[own D (.deferred (some []))],baseA g2,boxB g.p (Jby y.a lead) (appD (sb s.ys) u0.x) fd,[oQ b11 (lvC ⟨la,lc,ys,0,s⟩) 145],atsA la lc ys,[rowT pa pc (appD (sb s.ys) u0.x).args,oQ bb8 (jgC y) 141,oQ b6 (cgC q) 32]]) (List.Perm.trans (pmC [[own D (.deferred (some []))],baseA g2,boxB g.p (Jby y.a lead) (appD (sb s.ys) u0.x) fd,[oQ b11 (lvC ⟨la,lc,ys,0,s⟩) 145],atsA la lc ys,[rowT pa pc (appD (sb s.ys) u0.x).args],[oQ b10 (lvC ⟨none,0,[],0,⟨[],none,0⟩⟩) 145],[oQ bb8 (jgC y) 141,oQ b6 (cgC q) 32]] [6,0,1,2,3,4,5,7]) (List.Perm.of_eq (by simp [cat]))) ?_));refine WL.ag (vs:=lvC ⟨la,lc,ys,0,s⟩) rfl rfl rfl T.z145 rfl ?_;refine Nn (WC.az ?_)
  have hyk:ys.length≤k:=by
   have h1:=congrArg List.length hys;rw [xE] at h1;rw [h1];exact foundF_len b (Jby y.a lead) (appD (sb s.ys) u0.x)
  refine WX.focus (ow':=cat [[own D (.deferred (some []))],[oQ b10 (lvC ⟨la,lc,ys,0,s⟩) 145],baseA g2,boxB g.p (Jby y.a lead) (appD (sb s.ys) u0.x) fd,[oQ b11 (lvC ⟨la,lc,ys,0,s⟩) 145],atsA la lc ys,[rowT pa pc (appD (sb s.ys) u0.x).args,oQ bb8 (jgC y) 141,oQ b6 (cgC q) 32]]) (pmC [[oQ b10 (lvC ⟨la,lc,ys,0,s⟩) 145],[own D (.deferred (some []))],baseA g2,boxB g.p (Jby y.a lead) (appD (sb s.ys) u0.x) fd,[oQ b11 (lvC ⟨la,lc,ys,0,s⟩) 145],atsA la lc ys,[rowT pa pc (appD (sb s.ys) u0.x).args,oQ bb8 (jgC y) 141,oQ b6 (cgC q) 32]] [1,0,2,3,4,5,6]) ?_;refine WX.mz rfl (WR.mark ?_);refine WR.retC (cs:=lvC ⟨la,lc,ys,0,s⟩) rfl rfl T.u145 rfl T.z145 (fun w' hw j v hj=>Jbh hw yI j v hj) (fun w' hw=>⟨(⟨g2,la,lc,ys⟩:AnsA),rfl,⟨by rw [hzc];exact hys,bs2,hp2,hyl8,hyk⟩,?_⟩);have h3:=hw.drop.pick [[oQ b10 (lvC ⟨la,lc,ys,0,s⟩) 145],baseA g2,boxB g.p (Jby y.a lead) (appD (sb s.ys) u0.x) fd,[oQ b11 (lvC ⟨la,lc,ys,0,s⟩) 145],atsA la lc ys,[rowT pa pc (appD (sb s.ys) u0.x).args,oQ bb8 (jgC y) 141,oQ b6 (cgC q) 32]] [1,4] 6 rfl (by decide) (by decide);exact Hw.Sat.turned h3
 ·intro D c k g2 y2 hJ;exact hJ.elim
def stepB (fnd:Nat→At→List At)(c:Cl)(j:Nat × List Nat)(js:List (Nat × List Nat))(s:Bn)(f:At):List Bn:=
 match Jct (clA c j.1) f s with
 | none=>[]
 | some s'=>if Je1 c j.2 s'=true then sols fnd c js s' else []
theorem sols_step (fnd:Nat→At→List At)(c:Cl)(j:Nat × List Nat)(js:List (Nat × List Nat))(s:Bn):sols fnd c (j::js) s=(fnd j.1 (appD s (clA c j.1))).flatMap (stepB fnd c j js s):=rfl
def csT (fnd:Nat→At→List At)(c:Cl):List (Nat × List Nat)→Bn→Nat
 | [],_=>0
 | j::js,s=>1+((fnd j.1 (appD s (clA c j.1))).map fun f=>1+match Jct (clA c j.1) f s with
  | none=>0
  | some s'=>if Je1 c j.2 s'=true then csT fnd c js s' else 0).sum
def stepC (fnd:Nat→At→List At)(c:Cl)(j:Nat × List Nat)(js:List (Nat × List Nat))(s:Bn)(f:At):Nat:=
 1+match Jct (clA c j.1) f s with
 | none=>0
 | some s'=>if Je1 c j.2 s'=true then csT fnd c js s' else 0
theorem csT_step (fnd:Nat→At→List At)(c:Cl)(j:Nat × List Nat)(js:List (Nat × List Nat))(s:Bn):csT fnd c (j::js) s=1+((fnd j.1 (appD s (clA c j.1))).map (stepC fnd c j js s)).sum:=rfl
def jAt (J:List (Nat × List Nat))(i:Nat):Nat × List Nat:=J.getD i (0,[])
def remV (fnd:Nat→At→List At)(c:Cl)(J:List (Nat × List Nat))(i:Nat)(l:LV):List Bn:=((l.ys.map AG.x).drop l.tr).flatMap (stepB fnd c (jAt J i) (J.drop (i+1)) (sb l.s.ys))
def cstV (fnd:Nat→At→List At)(c:Cl)(J:List (Nat × List Nat))(i:Nat)(l:LV):Nat:=1+(((l.ys.map AG.x).drop l.tr).map (stepC fnd c (jAt J i) (J.drop (i+1)) (sb l.s.ys))).sum
def remL (fnd:Nat→At→List At)(c:Cl)(J:List (Nat × List Nat)):Nat→List LV→List Bn
 | _,[]=>[]
 | i,l::lv=>remL fnd c J (i+1) lv++remV fnd c J i l
def cstL (fnd:Nat→At→List At)(c:Cl)(J:List (Nat × List Nat)):Nat→List LV→Nat
 | _,[]=>0
 | i,l::lv=>cstL fnd c J (i+1) lv+cstV fnd c J i l
variable {fnd:Nat→At→List At} {c:Cl} {J:List (Nat × List Nat)}
theorem Jee (l:LV):∀ (i:Nat) (lv:List LV),remL fnd c J i (lv++[l])=remV fnd c J (i+lv.length) l++remL fnd c J i lv
 | i,[]=>by simp [remL]
 | i,x::lv=>by
  show remL fnd c J (i+1) (lv++[l])++remV fnd c J i x=_++(remL fnd c J (i+1) lv++remV fnd c J i x);rw [Jee l (i+1) lv,xF,show i+1+lv.length=i+(x::lv).length by simp;omega]
theorem Jgf (l:LV):∀ (i:Nat) (lv:List LV),cstL fnd c J i (lv++[l])=cstV fnd c J (i+lv.length) l+cstL fnd c J i lv
 | i,[]=>by simp [cstL]
 | i,x::lv=>by
  show cstL fnd c J (i+1) (lv++[l])+cstV fnd c J i x=_+(cstL fnd c J (i+1) lv+cstV fnd c J i x);rw [Jgf l (i+1) lv,show i+1+lv.length=i+(x::lv).length by simp;omega];omega
abbrev LVt (l:LV)(t:Nat):LV:=⟨l.a,l.c,l.ys,t,l.s⟩
theorem remV_next {i t:Nat}{l:LV}{u:AG}(h:l.ys[t]?=some u):remV fnd c J i (LVt l t)=stepB fnd c (jAt J i) (J.drop (i+1)) (sb l.s.ys) u.x++remV fnd c J i (LVt l (t+1)):=by
 unfold remV;have h1:(l.ys.map AG.x)[t]?=some u.x:=by rw [xG,h];rfl
 show ((l.ys.map AG.x).drop t).flatMap _=_;rw [Jge h1,List.flatMap_cons]
theorem cstV_next {i t:Nat}{l:LV}{u:AG}(h:l.ys[t]?=some u):cstV fnd c J i (LVt l t)=stepC fnd c (jAt J i) (J.drop (i+1)) (sb l.s.ys) u.x+cstV fnd c J i (LVt l (t+1)):=by
 unfold cstV;have h1:(l.ys.map AG.x)[t]?=some u.x:=by rw [xG,h];rfl
 show 1+(((l.ys.map AG.x).drop t).map (stepC fnd c (jAt J i) (J.drop (i+1)) (sb l.s.ys))).sum=stepC fnd c (jAt J i) (J.drop (i+1)) (sb l.s.ys) u.x+(1+(((l.ys.map AG.x).drop (t+1)).map (stepC fnd c (jAt J i) (J.drop (i+1)) (sb l.s.ys))).sum);rw [Jge h1,yC,List.sum_cons];omega
theorem remV_end {i t:Nat}{l:LV}(h:l.ys.length≤t):remV fnd c J i (LVt l t)=[]:=by
 unfold remV;have h1:(l.ys.map AG.x).drop t=[]:=xW (by rw [xE];exact h);show ((l.ys.map AG.x).drop t).flatMap _=_;rw [h1];rfl
theorem cstV_pos (i:Nat)(l:LV):1≤cstV fnd c J i l:=by unfold cstV;omega
theorem step_none {j:Nat × List Nat}{js:List (Nat × List Nat)}{s:Bn}{f:At}(h:Jct (clA c j.1) f s=none):stepB fnd c j js s f=[]:=by unfold stepB;rw [h]
theorem step_fail {j:Nat × List Nat}{js:List (Nat × List Nat)}{s s':Bn}{f:At}(h:Jct (clA c j.1) f s=some s')(h2:Je1 c j.2 s'=false):stepB fnd c j js s f=[]:=by
 unfold stepB;rw [h];show (if Je1 c j.2 s'=true then _ else _)=_;rw [if_neg (by rw [h2];simp)]
theorem step_ok {j:Nat × List Nat}{js:List (Nat × List Nat)}{s s':Bn}{f:At}(h:Jct (clA c j.1) f s=some s')(h2:Je1 c j.2 s'=true):stepB fnd c j js s f=sols fnd c js s'∧stepC fnd c j js s f=1+csT fnd c js s':=by
 unfold stepB stepC;rw [h];exact ⟨if_pos h2,by show 1+(if Je1 c j.2 s'=true then _ else _)=_;rw [if_pos h2]⟩
theorem jAt_of {i:Nat}{j:Nat × List Nat}(h:J[i]?=some j):jAt J i=j:=by unfold jAt;rw [yF,h];rfl
theorem drop_j {i:Nat}{j:Nat × List Nat}(h:J[i]?=some j):J.drop i=j::J.drop (i+1):=Jge h
theorem remV_new {i:Nat}{j:Nat × List Nat}(h:J[i]?=some j){l:LV}(ht:l.tr=0)(hy:l.ys.map AG.x=fnd j.1 (appD (sb l.s.ys) (clA c j.1))):remV fnd c J i l=sols fnd c (J.drop i) (sb l.s.ys)∧cstV fnd c J i l=csT fnd c (J.drop i) (sb l.s.ys):=by
 unfold remV cstV;rw [drop_j h,sols_step,csT_step,jAt_of h,ht,hy];exact ⟨rfl,rfl⟩
theorem Dm_sb {ys:List Bd}{v:Int}(h:v∈(sb ys).map (·.1)):Dm (sb ys) v:=by
 generalize sb ys=s at h
 induction s with
 | nil=>simp at h
 | cons q s ih=>
  unfold Dm gotT
  by_cases hv:v=q.1
  ·rw [if_pos hv];rfl
  ·rw [if_neg hv];refine ih ?_;simp only [yC,yG] at h;exact h.resolve_left hv
theorem nodup_subN {l m:List Nat}(h:l.Nodup)(hs:∀ x∈l,x∈m):l.length≤m.length:=by
 induction l generalizing m with
 | nil=>exact Nat.zero_le _
 | cons x l ih=>
  obtain ⟨h1,h2⟩:=List.nodup_cons.1 h;have h3:=ih (m:=m.erase x) h2 fun y hy=>(List.mem_erase_of_ne (fun e:y=x=>h1 (by rw [← e];exact hy))).2 (hs y (.tail _ hy))
  have h4:=List.length_erase_of_mem (hs x yH);have h5:0<m.length:=List.length_pos_of_mem (hs x yH);simp only [List.length_cons];omega
theorem Jlx {ys:List Bd}(hs:SB (sb ys)){N:Nat}(h:∀ v,Dm (sb ys) v→0≤v∧v<(N:Int)):ys.length≤N:=by
 have hn:((sb ys).map (·.1)).Nodup:=hs.nk
 have h1:(((sb ys).map (·.1)).map Int.toNat).Nodup:=by
  refine List.pairwise_map.2 (List.Pairwise.imp_of_mem (fun {a b} ha hb hab e=>?_) hn);have h2:=h a (Dm_sb ha);have h3:=h b (Dm_sb hb);exact hab (by omega)
 have h2:=nodup_subN (m:=List.range N) h1 fun x hx=>by
  obtain ⟨v,hv,rfl⟩:=List.mem_map.1 hx;have:=h v (Dm_sb hv);exact List.mem_range.2 (by omega)
 have h3:(sb ys).length=ys.length:=xE _;simp only [xE,List.length_range] at h2;omega
structure LVok (fnd:Nat→At→List At) (c:Cl) (J:List (Nat × List Nat)) (k i:Nat) (l:LV):Prop where
 ys:∃ j,J[i]?=some j∧l.ys.map AG.x=fnd j.1 (appD (sb l.s.ys) (clA c j.1))
 a8:∀ y∈l.ys,y.x.args.length≤8
 len:l.ys.length≤k
 tr:l.tr≤l.ys.length
 sb:SB (sb l.s.ys)
 dm:∀ v,Dm (Go.Proofs.YtgebaodagaecmaaGreatDoor.sb l.s.ys) v→0≤v∧v<72
theorem LVok.at_ {k i:Nat}{l:LV}(h:LVok fnd c J k i l){t:Nat}(ht:t≤l.ys.length):LVok fnd c J k i (LVt l t):=⟨h.ys,h.a8,h.len,ht,h.sb,h.dm⟩
theorem LVok.s72 {k i:Nat}{l:LV}(h:LVok fnd c J k i l):l.s.ys.length≤72:=Jlx h.sb h.dm
theorem match_next {p f:At}{s s':Bn}(hs:SB s)(hd:∀ v,Dm s v→0≤v∧v<72)(hp:∀ v∈Jaq p,0≤v∧v<(72:Int))(h:Jct p f s=some s'):SB s'∧∀ v,Dm s' v→0≤v∧v<72:=by
 obtain ⟨h1,_,_,h4,_⟩:=(Jft hs).1 h;exact ⟨h1,fun v hv=>((h4 v).1 hv).elim (hd v) (hp v)⟩
theorem VC.vars72 {c:Cl}(h:VC c){i:Nat}(hi:i<c.bd.length):∀ v∈Jaq (clA c i),0≤v∧v<(72:Int):=fun v hv=>by
 obtain ⟨a,ha⟩:∃ a,c.bd[i]?=some a:=⟨_,xD hi⟩
 rw [Jnm ha] at hv;have h1:=(h.cvn.body v).1 ⟨a,xC ha,hv⟩;have h2:=h.nV72;omega
abbrev rowL (a:Option Addr)(n:Nat)(lv:List LV):Hw.Item:=row 145 3 a lv.length n (lv.flatMap lvC)
theorem T.apL:appB Tryz.prog 147 145 3 56=true:=by kernel_rfl
abbrev lvI (l:LV):List Hw.Item:=rowAt l.a l.c l.ys::(argsA l.ys++[bgA l.s])
theorem Jll {w0 ws w:World}{M I:Nat→Prop}{ow:List Hw.Item}{q:Addr}{m n:Nat}{lv:List LV}(hw:Sat w0 M I ws ow w)(hm:row 145 3 (some q) m n (lv.flatMap lvC)∈ow){i:Nat}{l:LV}(hi:lv[i]?=some l){j:Nat}{v:Value}(hv:(lvC l)[j]?=some v):w.cell? ((q.add (i*3)).add j)=some v:=by
 have hj:j<3:=(List.getElem?_eq_some_iff.1 hv).1;have h1:=Jdr hw hm (i*3+j) v (by rw [Jcu Jnx lv i j l hi hj];exact hv);rwa [Jdy] at h1
theorem lv_set (lv:List LV)(l:LV)(t:Nat):((lv++[LVt l t]).flatMap lvC).set (lv.length*3+1) (.int .i64 ((t+1:Nat):Int))=(lv++[LVt l (t+1)]).flatMap lvC:=by
 have hl:(lv.flatMap lvC).length=lv.length*3:=Jdf Jnx lv;rw [List.flatMap_append,List.flatMap_append,List.set_append_right _ _ (by omega),hl,show lv.length*3+1 - lv.length*3=1 by omega];rfl
theorem RJ.satA {w w':World}{A ow:List Hw.Item}{a:Option Addr}{ys:List JG}(h:RJ w a ys)(hne:∀ q,a=some q→0<ys.length→¬ DD A q.block)(hw:Sat w (DD A) (fun b=>b<w.heap.size∧¬ DD A b) w ow w'):RJ w' a ys:=by
 refine ⟨h.nil,fun q hq i t ht j v hv=>?_⟩;have hl:0<ys.length:=by have:=(List.getElem?_eq_some_iff.1 ht).1;omega
 have h1:=h.at_ q hq i t ht j v hv
 have hlt:q.block<w.heap.size:=by
  have h2:=World.block_lt_of_cell? w _ h1;rwa [Jcv,Jcv] at h2
 have h2:=hw.fr.keep q.block hlt (hne q hq hl);unfold World.cell? at h1 ⊢;rw [Jcv,Jcv] at h1 ⊢;rw [h2];exact h1
structure RPl (w:World) (A:List Hw.Item) (p:PG):Prop where
 al:RI w p.aa p.al.length p.al
 alne:∀ q,p.aa=some q→0<p.al.length→¬ DD A q.block
 js:RJ w p.ja p.js
 jsne:∀ q,p.ja=some q→0<p.js.length→¬ DD A q.block
 ts:∀ y∈p.js,RI w y.ta y.ts.length y.ts
 tsne:∀ y∈p.js,∀ q,y.ta=some q→0<y.ts.length→¬ DD A q.block
theorem RPl.of_holds {w:World}{A:List Hw.Item}{p:PG}(h:Holds (A++pgA p) w):RPl w A p:=by
 have hS:=Sat.startA h;have hm:∀ i∈pgA p,i∈A++pgA p:=fun i hi=>xB _ hi
 have hne:∀ i∈pgA p,∀ b,i.D b→¬ DD A b:=fun i hi b hb=>Sat.sepO hS hi hb
 have hts:∀ y∈p.js,rowI y.ta y.tc y.ts∈pgA p:=fun y hy=>.tail _ (yV (List.mem_flatMap.2 ⟨y,hy,.tail _ yH⟩))
 refine ⟨RI.of_row (c:=p.ac) hS (hm _ yH),fun q hq _=>hne _ yH _ ⟨q,hq,rfl⟩,RJ.of_row (c:=p.jc) hS (hm _ yI),fun q hq _=>hne _ yI _ ⟨q,hq,rfl⟩,fun y hy=>RI.of_row (c:=y.tc) hS (hm _ (hts y hy)),fun y hy q hq _=>hne _ (hts y hy) _ ⟨q,hq,rfl⟩⟩
theorem base_lt {g:BaseG}{w:World}(h:Holds (baseA g) w):g.p<w.heap.size:=h.lt _ yH _ rfl
theorem base_in (g:BaseG):DD (baseA g) g.p:=⟨_,.head _,rfl⟩
theorem newer {w0 w w':World}{A B ow:List Hw.Item}(hB:∀ b,DD A b→w0.heap.size≤b)(h0:w0.heap.size≤w.heap.size)(hw:Sat w (DD A) (fun b=>b<w.heap.size∧¬ DD A b) w (B++ow) w'):∀ b,DD B b→w0.heap.size≤b:=fun b ⟨i,hi,hb⟩=>by
 rcases (hw.lt i (xA _ hi) b hb).2.2 with h | h
 ·exact hB b h
 ·omega
theorem jn_at {js:List JG}{M:List Jn}(h:jnEq js M){i:Nat}{y:JG}(hy:js[i]?=some y):∃ m,M[i]?=some m∧y.a=m.a∧y.ts=nI m.ts∧(jnP M)[i]?=some (m.a,m.ts):=by
 have hl:=h.len;have hi:=(List.getElem?_eq_some_iff.1 hy).1;obtain ⟨m,hm⟩:∃ m,M[i]?=some m:=⟨_,xD (by omega)⟩
 obtain ⟨h1,_,h3⟩:=h.at_ hy hm;exact ⟨m,hm,h1,h3,by rw [xG,hm];rfl⟩
theorem T.apB2:appB Tryz.prog 90 54 1 24=true:=by kernel_rfl
theorem heap_cells {w:World}{b:Nat}{cs:List Value}{T:TypeId}{f:Nat × Nat}(h:w.heap[b]?=some (.cells cs.toArray T f)):∀ j v,cs[j]?=some v→w.cell? ⟨b,j,none⟩=some v:=fun j v hj=>by
 simp [World.cell?,h,hj]
set_option maxHeartbeats 4000000 in
theorem bindings_calls (g:BaseG)(k:Nat)(F:List (At × Nat))(b:BS g k F)(hkk:k≤100000000000)(q:CG)(hs:CS q)(hv:VC q.cl)(lead:Option Nat)(hld:∀ l,lead=some l→l<q.cl.bd.length)(w0 w:World)(hk:Keeps w0 w)(hB:∀ b,DD (baseA g) b→w0.heap.size≤b)(hN:Jdb w0)(hr:RC w0 q)(aa:Option Addr)(ac:Nat)(ja:Option Addr)(jc:Nat)(js:List JG)(hpj:jnEq js (makeP q.cl lead))(hp:RPl w (baseA g) (⟨aa,ac,nI (Jbp q.cl),ja,jc,js⟩:PG))(hsl:(sols (fun i p=>Jc2 F (Jby i lead) p) q.cl (jnP (makeP q.cl lead)) []).length≤1048576)(hA:Holds (baseA g) w):
 Calls Tryz.prog 40 #[ptr g.p,cgV q,.int .i64 (leadI lead),pgV (⟨aa,ac,nI (Jbp q.cl),ja,jc,js⟩:PG)] w fun e w'=>∃ z:BaseG × Option Addr × Nat × List BG,e=.returned (.slice z.2.1 z.2.2.2.length z.2.2.1)∧((BS z.1 k F∧z.1.p=g.p)∧z.2.2.2.map (fun y=>sb y.ys)=solsB (fun i p=>Jc2 F (Jby i lead) p) q.cl (Jbp q.cl) (jnP (makeP q.cl lead))∧∀ y∈z.2.2.2,y.ys.length≤1048576)∧Turns (baseA g) (baseA z.1++(rowBB z.2.1 z.2.2.1 z.2.2.2::z.2.2.2.map bgA)) w w':=by
 have h0:w0.heap.size≤w.heap.size:=Nat.le_of_lt (Nat.lt_of_le_of_lt (hB _ (base_in g)) (base_lt hA));have hqb:q.cl.bd.length=q.bd.length:=xE _;have hal:(Jbp q.cl).length≤1048576:=by have h1:(Jbp q.cl).length≤q.ts.length:=Je8 _ _;have:=hs.tl;omega
 have hj8:js.length≤8:=by rw [hpj.len,Jl7];exact hv.bl
 have hMk:∀ m∈makeP q.cl lead,∃ i,i<q.cl.bd.length∧m=stN q.cl lead (stP q.cl lead i):=fun m hm=>by
  obtain ⟨i,hi⟩:=List.mem_iff_getElem?.1 hm;have h1:=(List.getElem?_eq_some_iff.1 hi).1;rw [Jl7] at h1;rw [makeP_at h1] at hi;exact ⟨i,h1,(xH hi).symm⟩
 have hMb:∀ m∈makeP q.cl lead,m.a<q.bd.length:=fun m hm=>by
  obtain ⟨i,hi,rfl⟩:=hMk m hm;have hst:=stP_ok hld i (by omega);rw [← hqb];exact (pick1_ok hld hst.nd hst.jb (by rw [hst.len];exact hi)).2
 have hMt:∀ m∈makeP q.cl lead,∀ i∈m.ts,i<q.ts.length:=fun m hm i hi=>by
  obtain ⟨n,hn,rfl⟩:=hMk m hm;exact (ts_new i hi).1
 have hMl:∀ m∈makeP q.cl lead,m.ts.length≤1048576:=fun m hm=>by
  obtain ⟨n,hn,rfl⟩:=hMk m hm;have h1:(stN q.cl lead (stP q.cl lead n)).ts.length≤q.ts.length:=Je8 _ _;have:=hs.tl;omega
 refine Jdt hA (args:=[ptr g.p,cgV q,.int .i64 (leadI lead),pgV (⟨aa,ac,nI (Jbp q.cl),ja,jc,js⟩:PG)]) Tryz.func40 rfl Tryz.ntmps40 rfl rfl ?_;refine Csr (WL.box rfl rfl rfl ?_);intro b5;refine WL.box rfl rfl rfl ?_;intro b7;refine Za rfl (Nn (WC.scope ?_));refine Cs (Csr (Zv (OV.lN (cs:=cgC q) rfl T.u32 rfl T.z32 yI) (Zv (OV.f0 0 rfl T.u87 rfl) (Zv (OV.l1 (v:=.slice aa (nI (Jbp q.cl)).length ac) rfl T.u51 rfl yH rfl) (WL.c0 (v:=.bool (Je1 q.cl (Jbp q.cl) [])) (vs:=[cgV q,.slice aa (nI (Jbp q.cl)).length ac,.slice none 0 0]) (fun w' hw'=>Jjr q hs (Jbp q.cl) aa ac [] none 0 hal (fun i hi=>(ahead_at hi).1) (by decide) w' (hN.keeps (Jb2 hk hB hw')) (hr.keeps (Jb2 hk hB hw')) (hp.al.satA hp.alne hw') (RBd.nil0 w')) ?_)))));refine Zv (OV.not rfl) (Nn ?_);refine Cc rfl (fun c20=>?_) (fun c20=>?_)
 ·refine Csr (Za rfl (Nn (WC.az ?_)));refine Xr (WX.f1 ?_)
  exact WX.ret1 rfl rfl rfl (fun w' hw=>⟨(g,none,0,[]),rfl,⟨⟨b,rfl⟩,by unfold solsB;rw [if_neg (by rw [c20];simp)];rfl,fun y hy=>by cases hy⟩,by
   exact (((hw.pik [[oQ b7 (pgC (⟨aa,ac,nI (Jbp q.cl),ja,jc,js⟩:PG)) 87],[oQ b5 (cgC q) 32],baseA g] [2] 3).rowNil 54 1).perm (pmC [[row 54 1 none 0 0 []],baseA g] [1,0])).turned⟩)
 refine Ck (Xn (Cs (Csr (Zv (OV.f0 1 rfl T.u87 rfl) (Zv (OV.l1 (v:=.slice ja js.length jc) rfl T.u85 rfl yH rfl) (Zv (OV.ae rfl T.u85) (Zv (OV.eb rfl rfl) (Nn ?_))))))));refine Cc rfl (fun c24=>?_) (fun c24=>?_)
 ·refine Csr (WL.br T.u90 T.z54 T.zr54 rfl rfl rfl ?_);intro b25;refine Za rfl (Nn (WC.az ?_));refine Xr (WX.f1 ?_);have hj0:js.length=0:=by omega
  have hJ0:(jnP (makeP q.cl lead))=[]:=List.eq_nil_of_length_eq_zero (by rw [show (jnP (makeP q.cl lead)).length=(makeP q.cl lead).length from xE _,← hpj.len,hj0])
  exact WX.ret1 rfl rfl rfl (fun w' hw=>⟨(g,some ⟨b25,0,none⟩,1,[⟨[],none,0⟩]),rfl,⟨⟨b,rfl⟩,by unfold solsB;rw [if_pos c20,hJ0];rfl,fun y hy=>by simp only [xI] at hy;subst hy;decide⟩,by
   have h1:=(hw.pik [[oQ b25 [Value.slice none 0 0] 54],[oQ b7 (pgC (⟨aa,ac,nI (Jbp q.cl),ja,jc,js⟩:PG)) 87],[oQ b5 (cgC q) 32],baseA g] [0,3] 4).asRow (m:=1) (k:=1) rfl (by decide);have h2:=h1.rowNil 64 4;exact (h2.perm (pmC [[row 64 4 none 0 0 []],[row 54 1 (some ⟨b25,0,none⟩) 1 1 [Value.slice none 0 0]],baseA g] [2,1,0])).turned⟩)
 refine Ck (Xn (Csr (Za rfl (Nn (Cs ?_)))));have hne0:0<js.length:=by omega
 obtain ⟨y0,hy0⟩:∃ y,js[0]?=some y:=⟨_,xD hne0⟩
 obtain ⟨m0,hm0,hya0',hyt0,hJ0⟩:=jn_at hpj hy0;have hya0:y0.a<q.bd.length:=by rw [hya0'];exact hMb m0 (xC hm0)
 obtain ⟨bj,hbj⟩:∃ bj,ja=some bj:=by
  cases hja:ja with
  | none=>have:js.length=0:=hp.js.nil hja;omega
  | some bj=>exact ⟨bj,rfl⟩
 refine Hd (fun w'=>w'.heap[b5]?=some (.cells (cgC q).toArray 32 (0,0))∧w'.heap[b7]?=some (.cells (pgC (⟨aa,ac,nI (Jbp q.cl),ja,jc,js⟩:PG)).toArray 87 (0,0))∧RJ w' ja js) [] (fun _ hw=>⟨hw.it (oQ b5 (cgC q) 32) (by simp [cat]),hw.it (oQ b7 (pgC (⟨aa,ac,nI (Jbp q.cl),ja,jc,js⟩:PG)) 87) (by simp [cat]),(hp.js.satA hp.jsne hw)⟩) (m:=10) rfl ?_;refine Hf 0 rfl (OV.aw rfl) (Ht 1 rfl (OV.ai (cs:=cgC q) rfl T.u32 rfl T.z32 (fun _ hw j v hj=>by rw [Jap,xM];exact heap_cells hw.1 j v hj)) (Hf 2 rfl (OV.aw rfl) (Hf 3 rfl (OV.f0 1 rfl T.u87 rfl) (Ht 4 rfl (OV.ah (v:=.slice ja js.length jc) rfl T.u85 rfl (fun _ hw=>(Jax hw.2.1 (o:=1) rfl).1)) (Hf 5 rfl ((OV.ad (show _=some (Value.slice (some bj) js.length jc) by rw [← hbj];rfl) rfl T.u85 T.z141 (by omega)).cast (u:=.pointer (some bj)) (by simp [Jd2])) (Ht 6 rfl (OV.ai (cs:=jgC y0) rfl T.u141 rfl T.z141 (fun _ hw j v hj=>by have h:=hw.2.2.at_ _ hbj 0 y0 hy0 j v hj;rwa [Nat.zero_mul,Jd2] at h)) (Ho 7 rfl (fl':=false) rfl ?_)))))));refine WL.focus (ow':=baseA g++(oQ b7 (pgC (⟨aa,ac,nI (Jbp q.cl),ja,jc,js⟩:PG)) 87::oQ b5 (cgC q) 32::[])) (pmC [[oQ b7 (pgC (⟨aa,ac,nI (Jbp q.cl),ja,jc,js⟩:PG)) 87],[oQ b5 (cgC q) 32],baseA g] [2,0,1]) ?_
 refine WL.cT (ι:=AnsA) (vs:=[ptr g.p,cgV q,.int .i64 (leadI lead),.agg (jgC y0).toArray,.slice none ([]:List Bd).length 0]) (vv:=fun z=>.agg (lvC ⟨z.a,z.c,z.ys,0,⟨([]:List Bd),none,0⟩⟩).toArray) (pp:=fun z=>z.ys.map AG.x=Jc2 F (Jby y0.a lead) (appD (sb ([]:List Bd)) (clA q.cl y0.a))∧BS z.g k F∧z.g.p=g.p∧(∀ y∈z.ys,y.x.args.length≤8)∧z.ys.length≤k) (baseA g) (AA:=fun z=>baseA z.g++atsA z.a z.c z.ys) rfl (fun w' hw' hH=>by
  have h9:=enter_calls g k F b hkk q hs lead y0 hya0 ⟨([]:List Bd),none,0⟩ (by decide) w0 w' (Jb2 hk hB hw') (newer hB h0 (show Sat w _ _ w (baseA g++(oQ b7 (pgC (⟨aa,ac,nI (Jbp q.cl),ja,jc,js⟩:PG)) 87::oQ b5 (cgC q) 32::[])) w' from hw')) hN hr (RBd.nil0 w') (fun p hp=>by cases hp) hH;rw [show g.p=g.p from rfl] at h9;exact h9) ?_
 rintro z1 ⟨hz1,bs1,hp1,hz8,hzk⟩;refine Hc (fun _=>(fun _ hw=>⟨hw.it (oQ b5 (cgC q) 32) (by simp [cat]),hw.it (oQ b7 (pgC (⟨aa,ac,nI (Jbp q.cl),ja,jc,js⟩:PG)) 87) (by simp [cat]),(hp.js.satA hp.jsne hw)⟩)) ?_;refine Ho 8 rfl (fl':=false) rfl ?_;refine WL.bg (cs:=lvC ⟨z1.a,z1.c,z1.ys,0,⟨[],none,0⟩⟩) T.u147 T.z145 T.zr145 rfl rfl (by omega) (by omega) rfl ?_;intro b34;refine Hc (fun _=>(fun _ hw=>⟨hw.it (oQ b5 (cgC q) 32) (by simp [cat]),hw.it (oQ b7 (pgC (⟨aa,ac,nI (Jbp q.cl),ja,jc,js⟩:PG)) 87) (by simp [cat]),(hp.js.satA hp.jsne hw)⟩)) ?_;refine Hf 9 rfl (OV.assign rfl) (He (Xn (Cs (WC.label ?_))));refine Xn (Cs (Cb ?_));have hrem0:=remV_new (fnd:=(fun i p=>Jc2 F (Jby i lead) p)) (c:=q.cl) hJ0 (l:=⟨z1.a,z1.c,z1.ys,0,⟨[],none,0⟩⟩) rfl (by rw [hz1,hya0']);refine WC.weak (S':=SatA w (baseA g) (oQ b7 (pgC (⟨aa,ac,nI (Jbp q.cl),ja,jc,js⟩:PG)) 87::oQ b5 (cgC q) 32::rowBB none 0 ([]:List BG)::rowL (some ⟨b34,0,none⟩) 1 [⟨z1.a,z1.c,z1.ys,0,⟨[],none,0⟩⟩]::(baseA z1.g++(([]:List BG).map bgA++[⟨z1.a,z1.c,z1.ys,0,⟨[],none,0⟩⟩].flatMap lvI)))) (fun w' hw=>?_) ?_
 ·have h1:=(hw.asRow (m:=1) (k:=3) rfl (by decide)).rowNil 54 1;have h2:=h1.rowNil 64 4;exact h2.perm ((List.Perm.of_eq (by simp [cat,lvI,rowAt];exact ⟨rfl,rfl,rfl⟩)).trans (pmC [[row 64 4 none 0 0 []],[row 54 1 none 0 0 []],[row 145 3 (some ⟨b34,0,none⟩) 1 1 (lvC ⟨z1.a,z1.c,z1.ys,0,⟨[],none,0⟩⟩)],(baseA z1.g++atsA z1.a z1.c z1.ys),[oQ b7 (pgC (⟨aa,ac,nI (Jbp q.cl),ja,jc,js⟩:PG)) 87],[oQ b5 (cgC q) 32]] [4,5,1,2,3,0]))
 refine WC.loop7 (fun (gk:BaseG) (oa:Option Addr) (oc:Nat) (bo:List BG) (la:Option Addr) (lc:Nat) (lv:List LV)=>[(0,ptr g.p),(2,.int .i64 (leadI lead)),(5,yZ b5),(7,yZ b7),(9,.slice oa bo.length oc),(10,.slice la lv.length lc)])
   (fun gk oa oc bo la lc lv w'=>(BS gk k F∧gk.p=g.p∧lv.length≤js.length∧bo.map (fun y=>sb y.ys)++remL (fun i p=>Jc2 F (Jby i lead) p) q.cl (jnP (makeP q.cl lead)) 0 lv=(sols (fun i p=>Jc2 F (Jby i lead) p) q.cl (jnP (makeP q.cl lead)) [])∧(∀ i l,lv[i]?=some l→LVok (fun i p=>Jc2 F (Jby i lead) p) q.cl (jnP (makeP q.cl lead)) k i l)∧∀ y∈bo,y.ys.length≤1048576)∧SatA w (baseA g) (oQ b7 (pgC (⟨aa,ac,nI (Jbp q.cl),ja,jc,js⟩:PG)) 87::oQ b5 (cgC q) 32::rowBB oa oc bo::rowL la lc lv::(baseA gk++(bo.map bgA++lv.flatMap lvI))) w')
   (fun _ _ _ _ _ _ lv=>cstL (fun i p=>Jc2 F (Jby i lead) p) q.cl (jnP (makeP q.cl lead)) 0 lv) z1.g none 0 [] (some ⟨b34,0,none⟩) 1 [⟨z1.a,z1.c,z1.ys,0,⟨[],none,0⟩⟩] Y6 (fun w' hw=>⟨⟨bs1,hp1,by show 1≤_;omega,?_,?_,fun y hy=>by cases hy⟩,hw⟩) ?_
 ·show []++([]++remV _ _ _ 0 _)=_;rw [hrem0.1];rfl
 ·intro i l hl;have hi0:i=0:=by have:=(List.getElem?_eq_some_iff.1 hl).1;simp at this;omega
  subst hi0;simp only [List.getElem?_cons_zero,Option.some.injEq] at hl;subst hl;exact ⟨⟨_,hJ0,by show z1.ys.map AG.x=Jc2 F (Jby m0.a lead) (appD (sb []) (clA q.cl m0.a));rw [hz1,hya0']⟩,hz8,hzk,Nat.zero_le _,List.Pairwise.nil,fun v hv=>by simp [Dm,sb,gotT] at hv⟩
 intro gk oa oc bo la lc lv;refine WC.pure (fun hF=>?_);obtain ⟨bsk,hgp,hlvl,hsol,hlvs,hbo⟩:=hF
 have hbl:bo.length≤1048576:=by
  have h1:=congrArg List.length hsol;rw [xL,xE] at h1;omega
 refine Cs (Csr (Zm rfl (Zv (OV.ae rfl T.u147) (Zv (OV.lj rfl rfl) (Nn ?_)))));refine Cc rfl (fun c37=>?_) (fun c37=>?_)
 ·refine Ck (Xn (Cb (Cs ?_)))
  obtain ⟨lv0,l,rfl⟩:∃ lv0 l,lv=lv0++[l]:=by
   rcases List.eq_nil_or_concat lv with h | ⟨a,b,h⟩
   ·rw [h] at c37;exact absurd c37 (by simp)
   ·exact ⟨a,b,by rw [h,List.concat_eq_append]⟩
  have hll:(lv0++[l]).length=lv0.length+1:=by simp
  refine WC.mq (fun w' hw'=>Jed (hw'.it (rowL la lc (lv0++[l])) yK) (by omega)) (fun hqq=>?_);obtain ⟨bl,hbl⟩:=hqq;subst hbl;refine WC.mq (fun w' hw'=>(Jd4 (show Sat w _ _ w (oQ b7 (pgC (⟨aa,ac,nI (Jbp q.cl),ja,jc,js⟩:PG)) 87::oQ b5 (cgC q) 32::rowBB oa oc bo::rowL (some ⟨bl,0,none⟩) lc (lv0++[l])::(baseA gk++(bo.map bgA++(lv0++[l]).flatMap lvI))) w' from hw') yK).2) (fun hlcc=>?_)
  have hlc:lv0.length+1≤lc:=by
   rcases hlcc with ⟨h,_⟩ | ⟨_,_,h⟩
   ·cases h
   ·omega
  have hlv:LVok (fun i p=>Jc2 F (Jby i lead) p) q.cl (jnP (makeP q.cl lead)) k lv0.length l:=hlvs lv0.length l (by simp);obtain ⟨y,hy⟩:∃ y,js[lv0.length]?=some y:=⟨_,xD (by omega)⟩
  obtain ⟨m,hm,hyam,hyt,hJm⟩:=jn_at hpj hy;have hyab:y.a<q.bd.length:=by rw [hyam];exact hMb m (xC hm)
  have hmts:∀ i∈m.ts,i<q.ts.length:=hMt m (xC hm);have hmtl:m.ts.length≤1048576:=hMl m (xC hm);have hjat:jAt (jnP (makeP q.cl lead)) lv0.length=(m.a,m.ts):=jAt_of hJm;obtain ⟨bb,z,hbb,hz,hzm,_,_⟩:=hr.bd.get hyab;have hzc:clA q.cl m.a=z.x:=by rw [← hyam];exact Jnl hz
  have hz8:=hs.at_ z (Or.inr hzm);have hz88:z.x.args.length≤8:=hv.args (List.mem_map.2 ⟨z,hzm,rfl⟩);have hs72:=hlv.s72;rw [hll]
  refine WC.weak (S':=SatA w (baseA g) (oQ b7 (pgC (⟨aa,ac,nI (Jbp q.cl),ja,jc,js⟩:PG)) 87::oQ b5 (cgC q) 32::rowBB oa oc bo::row 145 3 (some ⟨bl,0,none⟩) (lv0.length+1) lc ((lv0++[l]).flatMap lvC)::(baseA gk++(bo.map bgA++(lv0++[l]).flatMap lvI)))) (fun w' hw=>by
   have hrl:rowL (some ⟨bl,0,none⟩) lc (lv0++[l])=row 145 3 (some ⟨bl,0,none⟩) (lv0.length+1) lc ((lv0++[l]).flatMap lvC):=by
    show row 145 3 _ (lv0++[l]).length _ _=_;rw [hll]
   rw [hrl] at hw;exact hw) ?_
  refine Cr (Zm rfl (Zm rfl (Zv (OV.ae rfl T.u147) (Zv ((OV.m3 rfl rfl (by omega)).cast (u:=.int .i64 ((lv0.length:Nat):Int)) (by congr 1;omega)) (Zv ((OV.ad rfl rfl T.u147 T.z145 (by omega)).cast (u:=.pointer (some ((⟨bl,0,none⟩:Addr).add (lv0.length*3)))) (by rw [xN])) (Za rfl (Nn (Csr (Zv (OV.f0 1 rfl T.u87 rfl) (Zv (OV.l1 (v:=.slice ja js.length jc) rfl T.u85 rfl yH rfl) (Zm rfl (Zv (OV.ae rfl T.u147) (Zv ((OV.m3 rfl rfl (by omega)).cast (u:=.int .i64 ((lv0.length:Nat):Int)) (by congr 1;omega)) (Zv ((OV.ad (show _=some (Value.slice (some bj) js.length jc) by rw [← hbj];rfl) rfl T.u85 T.z141 (by omega)).cast (u:=.pointer (some (bj.add (lv0.length*3)))) (by rw [xN])) (Zv (OV.ai (cs:=jgC y) rfl T.u141 rfl T.z141 (fun _ hw j v hj=>((hp.js.satA hp.jsne hw)).at_ _ hbj lv0.length y hy j v hj)) (WL.alloc T.zr141 rfl ?_))))))))))))))));intro b12;refine WL.ag (vs:=jgC y) rfl rfl rfl T.z141 rfl ?_;refine Nn (Cs (Cb ?_));have hlvl':lv0.length+1≤js.length:=by rw [hll] at hlvl;exact hlvl
  refine WC.mq (pr:=(l.a=none→l.ys.length=0)) (fun w' hw' hnn=>by
   have hmm:rowAt l.a l.c l.ys∈(lv0++[l]).flatMap lvI:=by rw [List.flatMap_append];exact xB _ (by simp)
   rcases (Jd4 (show Sat w _ _ w (oQ b12 (jgC y) 141::oQ b7 (pgC (⟨aa,ac,nI (Jbp q.cl),ja,jc,js⟩:PG)) 87::oQ b5 (cgC q) 32::rowBB oa oc bo::row 145 3 (some ⟨bl,0,none⟩) (lv0.length+1) lc ((lv0++[l]).flatMap lvC)::(baseA gk++(bo.map bgA++(lv0++[l]).flatMap lvI))) w' from hw') (yV (.tail _ (yV (.tail _ (yV (xB _ (xB _ hmm)))))))).2 with ⟨_,h2,_⟩ | ⟨_,h2,_⟩
   ·exact h2
   ·rw [hnn] at h2;cases h2) (fun hlan=>?_)
  refine WC.weak (S':=SatA w (baseA g) (oQ b12 (jgC y) 141::oQ b7 (pgC (⟨aa,ac,nI (Jbp q.cl),ja,jc,js⟩:PG)) 87::oQ b5 (cgC q) 32::rowBB oa oc bo::row 145 3 (some ⟨bl,0,none⟩) (lv0.length+1) lc ((lv0++[(LVt l l.tr)]).flatMap lvC)::(baseA gk++(bo.map bgA++(lv0.flatMap lvI++lvI l))))) (fun w' hw=>hw.perm (List.Perm.of_eq (by simp [List.flatMap_append]))) ?_
  refine WC.cm (fun (t:Nat)=>[(0,ptr g.p),(2,.int .i64 (leadI lead)),(5,yZ b5),(7,yZ b7),(9,.slice oa bo.length oc),(10,.slice (some ⟨bl,0,none⟩) (lv0.length+1) lc),(11,.pointer (some ((⟨bl,0,none⟩:Addr).add (lv0.length*3)))),(12,yZ b12)])
    (fun t w'=>(l.tr≤t∧t≤l.ys.length∧remL (fun i p=>Jc2 F (Jby i lead) p) q.cl (jnP (makeP q.cl lead)) 0 (lv0++[l])=remL (fun i p=>Jc2 F (Jby i lead) p) q.cl (jnP (makeP q.cl lead)) 0 (lv0++[(LVt l t)])∧cstV (fun i p=>Jc2 F (Jby i lead) p) q.cl (jnP (makeP q.cl lead)) lv0.length (LVt l t)≤cstV (fun i p=>Jc2 F (Jby i lead) p) q.cl (jnP (makeP q.cl lead)) lv0.length l)∧SatA w (baseA g) (oQ b12 (jgC y) 141::oQ b7 (pgC (⟨aa,ac,nI (Jbp q.cl),ja,jc,js⟩:PG)) 87::oQ b5 (cgC q) 32::rowBB oa oc bo::row 145 3 (some ⟨bl,0,none⟩) (lv0.length+1) lc ((lv0++[(LVt l t)]).flatMap lvC)::(baseA gk++(bo.map bgA++(lv0.flatMap lvI++lvI l)))) w')
    (fun t=>l.ys.length - t) l.tr Y8 (fun w' hw=>⟨⟨Nat.le_refl _,hlv.tr,rfl,Nat.le_refl _⟩,hw⟩) ?_
  intro t;refine WC.pure (fun ht=>?_);obtain ⟨ht0,ht,hremt,hcst⟩:=ht;have hlk:=hlv.len
  have hlvx:∀ t',t'≤l.ys.length→∀ i x,(lv0++[LVt l t'])[i]?=some x→LVok (fun i p=>Jc2 F (Jby i lead) p) q.cl (jnP (makeP q.cl lead)) k i x:=fun t' ht' i x hx=>by
   rcases Nat.lt_or_ge i lv0.length with h | h
   ·rw [List.getElem?_append_left h] at hx;exact hlvs i x (by rw [List.getElem?_append_left h];exact hx)
   ·have hi0:i=lv0.length:=by have:=(List.getElem?_eq_some_iff.1 hx).1;simp at this;omega
    subst hi0;simp at hx;subst hx;exact hlv.at_ ht'
  refine Cs (Cs (Hq [] (m:=10) rfl ?_));refine Hf 0 rfl (OV.aw rfl) (Hf 1 rfl (OV.ak (a:=(⟨bl,0,none⟩:Addr).add (lv0.length*3)) rfl) (Hf 2 rfl ((OV.fieldAddrA (off:=1) rfl T.u145 rfl).cast (u:=.pointer (some (((⟨bl,0,none⟩:Addr).add (lv0.length*3)).add 1))) (rfl)) (Ht 3 rfl (OV.ah (v:=.int .i64 (t:Int)) rfl T.u3 rfl (fun _ hw=>by have h:=Jll (lv:=lv0++[(LVt l t)]) (i:=lv0.length) (l:=(LVt l t)) hw yL (by simp) (j:=1) rfl;exact h)) (Hf 4 rfl (OV.aw rfl) (Hf 5 rfl (OV.ak (a:=(⟨bl,0,none⟩:Addr).add (lv0.length*3)) rfl) (Hf 6 rfl ((OV.fieldAddrA (off:=0) rfl T.u145 rfl).cast (u:=.pointer (some ((⟨bl,0,none⟩:Addr).add (lv0.length*3)))) (by rw [Jd2])) (Ht 7 rfl (OV.ah (v:=.slice l.a l.ys.length l.c) rfl T.u22 rfl (fun _ hw=>by have h:=Jll (lv:=lv0++[(LVt l t)]) (i:=lv0.length) (l:=(LVt l t)) hw yL (by simp) (j:=0) rfl;rwa [Jd2] at h)) (Hf 8 rfl (OV.ae rfl T.u22) (Hf 9 rfl (OV.cq rfl rfl) (He (Xn ?_)))))))))));refine Cc rfl (fun c59=>?_) (fun c59=>?_)
  ·refine Ck (Xn (Cb (Cs ?_)));obtain ⟨u,hu⟩:∃ u,l.ys[t]?=some u:=⟨_,xD (by omega)⟩
   have hu8:=hlv.a8 u (xC hu)
   obtain ⟨bf,hbf⟩:∃ bf,l.a=some bf:=by
    cases hla:l.a with
    | none=>
     exact absurd hlan (by rw [hla];intro h;have:=h rfl;omega)
    | some bf=>exact ⟨bf,rfl⟩
   have hrn:=remV_next (fnd:=(fun i p=>Jc2 F (Jby i lead) p)) (c:=q.cl) (J:=(jnP (makeP q.cl lead))) (i:=lv0.length) hu;have hcn:=cstV_next (fnd:=(fun i p=>Jc2 F (Jby i lead) p)) (c:=q.cl) (J:=(jnP (makeP q.cl lead))) (i:=lv0.length) hu;rw [hjat] at hrn hcn;refine Hd (SatA w (baseA g) (oQ b12 (jgC y) 141::oQ b7 (pgC (⟨aa,ac,nI (Jbp q.cl),ja,jc,js⟩:PG)) 87::oQ b5 (cgC q) 32::rowBB oa oc bo::row 145 3 (some ⟨bl,0,none⟩) (lv0.length+1) lc ((lv0++[(LVt l t)]).flatMap lvC)::(baseA gk++(bo.map bgA++(lv0.flatMap lvI++lvI l))))) [] (fun _ hw=>by first | exact hw | exact hw.drop) (m:=12) rfl ?_;refine Hf 0 rfl (OV.aw rfl) (Hf 1 rfl (OV.ak (a:=(⟨bl,0,none⟩:Addr).add (lv0.length*3)) rfl) (Hf 2 rfl ((OV.fieldAddrA (off:=0) rfl T.u145 rfl).cast (u:=.pointer (some ((⟨bl,0,none⟩:Addr).add (lv0.length*3)))) (by rw [Jd2])) (Ht 3 rfl (OV.ah (v:=.slice l.a l.ys.length l.c) rfl T.u22 rfl (fun _ hw=>by have h:=Jll (lv:=lv0++[(LVt l t)]) (i:=lv0.length) (l:=(LVt l t)) hw yL (by simp) (j:=0) rfl;rwa [Jd2] at h)) (Hf 4 rfl (OV.aw rfl) (Hf 5 rfl (OV.ak (a:=(⟨bl,0,none⟩:Addr).add (lv0.length*3)) rfl) (Hf 6 rfl ((OV.fieldAddrA (off:=1) rfl T.u145 rfl).cast (u:=.pointer (some (((⟨bl,0,none⟩:Addr).add (lv0.length*3)).add 1))) (rfl)) (Ht 7 rfl (OV.ah (v:=.int .i64 (t:Int)) rfl T.u3 rfl (fun _ hw=>by have h:=Jll (lv:=lv0++[(LVt l t)]) (i:=lv0.length) (l:=(LVt l t)) hw yL (by simp) (j:=1) rfl;exact h)) (Hf 8 rfl ((OV.ad (show _=some (Value.slice (some bf) l.ys.length l.c) by rw [← hbf];rfl) rfl T.u22 T.z29 (by omega)).cast (u:=.pointer (some (bf.add (t*5)))) (by rw [xN])) (Ht 9 rfl (OV.ai (cs:=agC u) rfl T.u29 rfl T.z29 (fun _ hw j v hj=>(RA.of_row (a:=l.a) (c:=l.c) hw (fun i hi=>(yV (.tail _ (yV (.tail _ (yV (xB _ (xB _ (xB _ ((xA [bgA l.s] hi:i∈atsA l.a l.c l.ys++[bgA l.s])))))))))))).at_ _ hbf t u hu j v hj)) (Ho 10 rfl (fl':=false) rfl ?_))))))))));refine WL.alloc T.zr29 rfl ?_;intro b13;refine Hc (fun _=>(fun _ hw=>by first | exact hw | exact hw.drop)) ?_;refine Ho 11 rfl (fl':=false) rfl ?_;refine WL.ag (vs:=atC u.x u.a u.c) rfl rfl rfl T.z29 rfl ?_;refine Hc (fun _=>(fun _ hw=>by first | exact hw | exact hw.drop)) ?_;refine He (Xn (Csr (Zm rfl (Zv (OV.ak (a:=(⟨bl,0,none⟩:Addr).add (lv0.length*3)) rfl) (Zv ((OV.fieldAddrA (off:=1) rfl T.u145 rfl).cast (u:=.pointer (some (((⟨bl,0,none⟩:Addr).add (lv0.length*3)).add 1))) (rfl)) (Zv (OV.ah (v:=.int .i64 (t:Int)) rfl T.u3 rfl (fun _ hw=>by have h:=Jll (lv:=lv0++[(LVt l t)]) (i:=lv0.length) (l:=(LVt l t)) hw yM (by simp) (j:=1) rfl;exact h)) (Zv (OV.bm (j:=1) rfl rfl (by omega)) (Zv (OV.ak (a:=(⟨bl,0,none⟩:Addr).add (lv0.length*3)) rfl) (Zv ((OV.fieldAddrA (off:=1) rfl T.u145 rfl).cast (u:=.pointer (some ⟨bl,lv0.length*3+1,none⟩)) (by rw [Jap,Jap,xM])) ?_)))))))));refine WL.focus perm5 (WL.storeRow (o:=lv0.length*3+1) rfl rfl rfl rfl T.z3 (by rw [Jdf Jnx];simp;omega) ?_);rw [lv_set];refine WL.focus (ow':=oQ b13 (atC u.x u.a u.c) 29::oQ b12 (jgC y) 141::oQ b7 (pgC (⟨aa,ac,nI (Jbp q.cl),ja,jc,js⟩:PG)) 87::oQ b5 (cgC q) 32::rowBB oa oc bo::row 145 3 (some ⟨bl,0,none⟩) (lv0.length+1) lc ((lv0++[(LVt l (t+1))]).flatMap lvC)::(baseA gk++(bo.map bgA++(lv0.flatMap lvI++lvI l)))) (pmC [[row 145 3 (some ⟨bl,0,none⟩) (lv0.length+1) lc ((lv0++[(LVt l (t+1))]).flatMap lvC)],[oQ b13 (atC u.x u.a u.c) 29],[oQ b12 (jgC y) 141],[oQ b7 (pgC (⟨aa,ac,nI (Jbp q.cl),ja,jc,js⟩:PG)) 87],[oQ b5 (cgC q) 32],[rowBB oa oc bo],(baseA gk++(bo.map bgA++(lv0.flatMap lvI++lvI l)))] [1,2,3,4,5,0,6]) ?_;refine Nn (Cs (Hd (SatA w (baseA g) (oQ b13 (atC u.x u.a u.c) 29::oQ b12 (jgC y) 141::oQ b7 (pgC (⟨aa,ac,nI (Jbp q.cl),ja,jc,js⟩:PG)) 87::oQ b5 (cgC q) 32::rowBB oa oc bo::row 145 3 (some ⟨bl,0,none⟩) (lv0.length+1) lc ((lv0++[(LVt l (t+1))]).flatMap lvC)::(baseA gk++(bo.map bgA++(lv0.flatMap lvI++lvI l))))) [] (fun _ hw=>by first | exact hw | exact hw.drop) (m:=17) rfl ?_));refine Hf 0 rfl (OV.f0 5 rfl T.u32 rfl) (Ht 1 rfl (OV.l1 (v:=.slice q.ba q.bd.length q.bc) rfl T.u22 rfl yK rfl) (Hf 2 rfl (OV.f0 0 rfl T.u141 rfl) (Ht 3 rfl (OV.l1 (v:=.int .i64 (y.a:Int)) rfl T.u3 rfl yI rfl) (Hf 4 rfl ((OV.ad (show _=some (Value.slice (some bb) q.bd.length q.bc) by rw [← hbb];rfl) rfl T.u22 T.z29 (by omega)).cast (u:=.pointer (some (bb.add (y.a*5)))) (by rw [xN])) (Ht 5 rfl (OV.ai (cs:=atC z.x z.a z.c) rfl T.u29 rfl T.z29 (fun _ hw j v hj=>(hr.keeps (Jb2 hk hB hw)).bd.at_ _ hbb y.a z hz j v hj)) (Ht 6 rfl (OV.lN (cs:=atC u.x u.a u.c) rfl T.u29 rfl T.z29 yH) (Hf 7 rfl (OV.aw rfl) (Hf 8 rfl (OV.ak (a:=(⟨bl,0,none⟩:Addr).add (lv0.length*3)) rfl) (Hf 9 rfl ((OV.fieldAddrA (off:=2) rfl T.u145 rfl).cast (u:=.pointer (some (((⟨bl,0,none⟩:Addr).add (lv0.length*3)).add 2))) (rfl)) (Ht 10 rfl (OV.ah (v:=.slice l.s.a l.s.ys.length l.s.c) rfl T.u54 rfl (fun _ hw=>by have h:=Jll (lv:=lv0++[(LVt l (t+1))]) (i:=lv0.length) (l:=(LVt l (t+1))) hw yM (by simp) (j:=2) rfl;exact h)) (Ho 11 rfl (fl':=false) rfl ?_)))))))))));refine WL.cT (ι:=Option Addr × Nat × List Bd) (vs:=[atV z.x z.a z.c,atV u.x u.a u.c,.slice l.s.a l.s.ys.length l.s.c]) (vv:=fun m=>.tuple #[.slice m.1 m.2.2.length m.2.1,.bool (Jct z.x u.x (sb l.s.ys)).isSome]) (pp:=fun m=>∀ s',(Jct z.x u.x (sb l.s.ys))=some s'→sb m.2.2=s') [] (AA:=fun m=>[rowB m.1 m.2.1 m.2.2]) rfl (fun w' hw' _=>(Jix z.x u.x l.s.ys z.a u.a l.s.a z.c u.c l.s.c (by omega) (by omega) hlv.sb w' ((hr.keeps (Jb2 hk hB hw')).bd.args _ (xC hz)) (RT.of_row (c:=u.c) rfl (show SatA w (baseA g) (oQ b13 (atC u.x u.a u.c) 29::oQ b12 (jgC y) 141::oQ b7 (pgC (⟨aa,ac,nI (Jbp q.cl),ja,jc,js⟩:PG)) 87::oQ b5 (cgC q) 32::rowBB oa oc bo::row 145 3 (some ⟨bl,0,none⟩) (lv0.length+1) lc ((lv0++[(LVt l (t+1))]).flatMap lvC)::(baseA gk++(bo.map bgA++(lv0.flatMap lvI++lvI l)))) w' from hw') (yV (.tail _ (yV (.tail _ (yV (.tail _ (xB _ (xB _ (xB _ (yV (xA _ (List.mem_map.2 ⟨u,xC hu,rfl⟩))))))))))))) (RBd.of_row (c:=l.s.c) (show SatA w (baseA g) (oQ b13 (atC u.x u.a u.c) 29::oQ b12 (jgC y) 141::oQ b7 (pgC (⟨aa,ac,nI (Jbp q.cl),ja,jc,js⟩:PG)) 87::oQ b5 (cgC q) 32::rowBB oa oc bo::row 145 3 (some ⟨bl,0,none⟩) (lv0.length+1) lc ((lv0++[(LVt l (t+1))]).flatMap lvC)::(baseA gk++(bo.map bgA++(lv0.flatMap lvI++lvI l)))) w' from hw') (yV (.tail _ (yV (.tail _ (yV (.tail _ (xB _ (xB _ (xB _ (yV (xB _ yH))))))))))))).mono (fun en w'' ⟨ma,mc,zs,h1,h2,h3⟩=>⟨(ma,mc,zs),h1,h2,h3⟩)) ?_;rintro ⟨ma,mc,zs⟩ hms;refine Hc (fun _=>(fun _ hw=>by first | exact hw | exact hw.drop)) ?_;refine Hf 12 rfl (OV.aw rfl) (Hf 13 rfl (OV.extract rfl rfl) (Hf 14 rfl (OV.extract rfl rfl) (Hf 15 rfl (OV.assign rfl) (Hf 16 rfl (OV.assign rfl) (He (Xn (Cs (Csr (Zm rfl (Zv (OV.not rfl) (Zm rfl ?_)))))))))));refine Zp (t:=94) rfl (fun g94=>?_) (fun g94=>?_)
   ·refine yX (yX (yX (yX (yX (yX (Zv (OV.am rfl rfl) (Nn (WC.co (show _=some (Value.bool true) from by rfl) ?_))))))));refine Ce (Xe (Xh ?_))
    have hmn:Jct (clA q.cl m.a) u.x (sb l.s.ys)=none:=by
     rw [hzc];cases hmm:(Jct z.x u.x (sb l.s.ys)) with
     | none=>rfl
     | some s'=>rw [hmm] at g94;exact absurd g94 (by simp)
    rw [step_none (c:=q.cl) (j:=(m.a,m.ts)) hmn,xY] at hrn;exact WX.bk (t+1) Y8 (fun w' hw=>⟨⟨by omega,by omega,by rw [hremt,Jee,Jee,xM,hrn],by omega⟩,hw.drop.drop⟩) (by show l.ys.length - (t+1)<l.ys.length - t;omega)
   refine yY (Zv (OV.lN (cs:=cgC q) rfl T.u32 rfl T.z32 yL) (yY (Zv (OV.f0 2 rfl T.u141 rfl) (yY (Zv (OV.ah (v:=.slice y.ta (nI m.ts).length y.tc) rfl T.u51 rfl (fun _ hw=>by rw [← hyt];exact (Jax (hw.it _ yJ) (o:=2) rfl).1)) (yY (Zm rfl (yY ?_))))))));obtain ⟨s',hs'⟩:=Option.isSome_iff_exists.1 g94;have hzs:sb zs=s':=hms s' hs';have hmt:Jct (clA q.cl m.a) u.x (sb l.s.ys)=some (sb zs):=by rw [hzc,hzs];exact hs'
   obtain ⟨hsbz,hdmz⟩:=match_next hlv.sb hlv.dm (fun v hv2=>hv.vars72 (by rw [hqb,← hyam];exact hyab) v hv2) hmt;have hz72:zs.length≤72:=Jlx hsbz hdmz;refine WL.c0 (v:=.bool (Je1 q.cl m.ts (sb zs))) (vs:=[cgV q,.slice y.ta (nI m.ts).length y.tc,.slice ma zs.length mc]) (fun w' hw'=>Jjr q hs m.ts y.ta y.tc zs ma mc hmtl hmts (by omega) w' (hN.keeps (Jb2 hk hB hw')) (hr.keeps (Jb2 hk hB hw')) (by have h:=(hp.ts y (xC hy)).satA (hp.tsne y (xC hy)) hw';rw [hyt] at h;exact h) (RBd.of_row (c:=mc) (show SatA w (baseA g) (rowB ma mc zs::oQ b13 (atC u.x u.a u.c) 29::oQ b12 (jgC y) 141::oQ b7 (pgC (⟨aa,ac,nI (Jbp q.cl),ja,jc,js⟩:PG)) 87::oQ b5 (cgC q) 32::rowBB oa oc bo::row 145 3 (some ⟨bl,0,none⟩) (lv0.length+1) lc ((lv0++[(LVt l (t+1))]).flatMap lvC)::(baseA gk++(bo.map bgA++(lv0.flatMap lvI++lvI l)))) w' from hw') yH)) ?_;refine yY (Zv (OV.not rfl) (Zv (OV.aj rfl rfl) (Nn ?_)));refine Cc rfl (fun c101=>?_) (fun c101=>?_)
   ·refine Ce (Xe (Xh ?_));rw [step_fail (c:=q.cl) (j:=(m.a,m.ts)) hmt c101,xY] at hrn;exact WX.bk (t+1) Y8 (fun w' hw=>⟨⟨by omega,by omega,by rw [hremt,Jee,Jee,xM,hrn],by omega⟩,hw.drop.drop⟩) (by show l.ys.length - (t+1)<l.ys.length - t;omega)
   refine Ck (Xn (Cs (Cs ?_)));obtain ⟨hst,hct⟩:=step_ok (fnd:=(fun i p=>Jc2 F (Jby i lead) p)) (j:=(m.a,m.ts)) (js:=(jnP (makeP q.cl lead)).drop (lv0.length+1)) hmt c101;have hjl:(jnP (makeP q.cl lead)).length=js.length:=by rw [show (jnP (makeP q.cl lead)).length=(makeP q.cl lead).length from xE _,hpj.len]
   refine Cr (Zm rfl (Zv (OV.ae rfl T.u147) (Zv (OV.f0 1 rfl T.u87 rfl) (Zv (OV.l1 (v:=.slice ja js.length jc) rfl T.u85 rfl yK rfl) (Zv (OV.ae rfl T.u85) (Zv (OV.eb rfl rfl) (Nn ?_)))))));refine Cc rfl (fun c107=>?_) (fun c107=>?_)
   ·refine Csr (Zm rfl (Zm rfl (WL.br T.u90 T.z54 T.zr54 rfl rfl rfl ?_)));intro b110;refine WL.focus (ow':=rowBB oa oc bo::oQ b110 [Value.slice ma zs.length mc] 54::rowB ma mc zs::oQ b13 (atC u.x u.a u.c) 29::oQ b12 (jgC y) 141::oQ b7 (pgC (⟨aa,ac,nI (Jbp q.cl),ja,jc,js⟩:PG)) 87::oQ b5 (cgC q) 32::row 145 3 (some ⟨bl,0,none⟩) (lv0.length+1) lc ((lv0++[(LVt l (t+1))]).flatMap lvC)::(baseA gk++(bo.map bgA++(lv0.flatMap lvI++lvI l)))) (pmC [[oQ b110 [Value.slice ma zs.length mc] 54],[rowB ma mc zs],[oQ b13 (atC u.x u.a u.c) 29],[oQ b12 (jgC y) 141],[oQ b7 (pgC (⟨aa,ac,nI (Jbp q.cl),ja,jc,js⟩:PG)) 87],[oQ b5 (cgC q) 32],[rowBB oa oc bo],[row 145 3 (some ⟨bl,0,none⟩) (lv0.length+1) lc ((lv0++[(LVt l (t+1))]).flatMap lvC)],(baseA gk++(bo.map bgA++(lv0.flatMap lvI++lvI l)))] [6,0,1,2,3,4,5,7,8]) ?_;refine WL.append (news:=[bgV (⟨zs,ma,mc⟩:BG)]) rfl rfl T.apB2 (fun _ _=>Jeg yI rfl) (fun v hv=>by simp only [xI] at hv;subst hv;rfl) ⟨by omega,by unfold maxLen;omega⟩ rfl ?_;intro a111 c111;refine Za rfl (Nn (Ce (Xe (Xi (Xe (Xi (Xe (Xh ?_))))))));have hd0:(jnP (makeP q.cl lead)).drop (lv0.length+1)=[]:=xW (by omega);rw [hd0] at hst hct hrn hcn
    have hlt1:rowL (some ⟨bl,0,none⟩) lc (lv0++[LVt l (t+1)])=row 145 3 (some ⟨bl,0,none⟩) (lv0.length+1) lc ((lv0++[(LVt l (t+1))]).flatMap lvC):=by
     show row 145 3 _ (lv0++[LVt l (t+1)]).length _ _=_;rw [xL];rfl
    have el:bo.length+1=(bo++[(⟨zs,ma,mc⟩:BG)]).length:=by simp
    have ef:bo.map bgV++[bgV (⟨zs,ma,mc⟩:BG)]=(bo++[(⟨zs,ma,mc⟩:BG)]).map bgV:=by simp
    refine WX.mm gk a111 c111 (bo++[(⟨zs,ma,mc⟩:BG)]) (some ⟨bl,0,none⟩) lc (lv0++[(LVt l (t+1))]) ⟨rfl,rfl,rfl,rfl,by rw [← el];rfl,by rw [xL];rfl,trivial⟩ (fun w' hw=>⟨⟨bsk,hgp,by rw [xL];exact hlvl',?_,?_,fun x hx=>(List.mem_append.1 hx).elim (hbo x) (fun h=>by simp only [xI] at h;subst h;show zs.length≤_;omega)⟩,?_⟩) ?_
    ·rw [← hsol,hremt,Jee,Jee,xM,hrn,hst];simp [sols]
    ·exact hlvx (t+1) (by omega)
    ·rw [el,ef] at hw;rw [← hlt1] at hw;refine (hw.pik [[rowBB a111 c111 (bo++[(⟨zs,ma,mc⟩:BG)])],[oQ b110 [Value.slice ma zs.length mc] 54],[rowB ma mc zs],[oQ b13 (atC u.x u.a u.c) 29],[oQ b12 (jgC y) 141],[oQ b7 (pgC (⟨aa,ac,nI (Jbp q.cl),ja,jc,js⟩:PG)) 87],[oQ b5 (cgC q) 32],[rowL (some ⟨bl,0,none⟩) lc (lv0++[(LVt l (t+1))])],baseA gk,bo.map bgA,lv0.flatMap lvI,lvI l] [5,6,0,7,8,9,2,10,11] 12).perm (List.Perm.of_eq ?_);simp [cat,List.flatMap_append]
    ·show cstL _ _ _ 0 (lv0++[_])<cstL _ _ _ 0 (lv0++[l]);rw [Jgf,Jgf,xM];omega
   refine Ck (Xn (Cs ?_));obtain ⟨y2,hy2⟩:∃ y,js[lv0.length+1]?=some y:=⟨_,xD (by omega)⟩
   obtain ⟨m2,hm2,hyam2,hyt2,hJ2⟩:=jn_at hpj hy2;have hya2:y2.a<q.bd.length:=by rw [hyam2];exact hMb m2 (xC hm2)
   refine Hd (fun w'=>w'.heap[b5]?=some (.cells (cgC q).toArray 32 (0,0))∧w'.heap[b7]?=some (.cells (pgC (⟨aa,ac,nI (Jbp q.cl),ja,jc,js⟩:PG)).toArray 87 (0,0))∧RJ w' ja js) [] (fun _ hw=>⟨hw.it (oQ b5 (cgC q) 32) (by simp [cat]),hw.it (oQ b7 (pgC (⟨aa,ac,nI (Jbp q.cl),ja,jc,js⟩:PG)) 87) (by simp [cat]),(hp.js.satA hp.jsne hw)⟩) (m:=15) rfl ?_;refine Hf 0 rfl (OV.aw rfl) (Hf 1 rfl (OV.aw rfl) (Ht 2 rfl (OV.ai (cs:=cgC q) rfl T.u32 rfl T.z32 (fun _ hw j v hj=>by rw [Jap,xM];exact heap_cells hw.1 j v hj)) (Hf 3 rfl (OV.aw rfl) (Hf 4 rfl (OV.f0 1 rfl T.u87 rfl) (Ht 5 rfl (OV.ah (v:=.slice ja js.length jc) rfl T.u85 rfl (fun _ hw=>(Jax hw.2.1 (o:=1) rfl).1)) (Hf 6 rfl (OV.aw rfl) (Hf 7 rfl (OV.ae rfl T.u147) (Hf 8 rfl ((OV.ad (show _=some (Value.slice (some bj) js.length jc) by rw [← hbj];rfl) rfl T.u85 T.z141 (by omega)).cast (u:=.pointer (some (bj.add ((lv0.length+1)*3)))) (by rw [xN])) (Ht 9 rfl (OV.ai (cs:=jgC y2) rfl T.u141 rfl T.z141 (fun _ hw j v hj=>hw.2.2.at_ _ hbj (lv0.length+1) y2 hy2 j v hj)) (Hf 10 rfl (OV.aw rfl) (Ho 11 rfl (fl':=false) rfl ?_)))))))))));refine WL.focus (ow':=baseA gk++([rowB ma mc zs,oQ b13 (atC u.x u.a u.c) 29,oQ b12 (jgC y) 141,oQ b7 (pgC (⟨aa,ac,nI (Jbp q.cl),ja,jc,js⟩:PG)) 87,oQ b5 (cgC q) 32,rowBB oa oc bo,row 145 3 (some ⟨bl,0,none⟩) (lv0.length+1) lc ((lv0++[(LVt l (t+1))]).flatMap lvC)]++(bo.map bgA++(lv0.flatMap lvI++lvI l)))) (pmC [[rowB ma mc zs,oQ b13 (atC u.x u.a u.c) 29,oQ b12 (jgC y) 141,oQ b7 (pgC (⟨aa,ac,nI (Jbp q.cl),ja,jc,js⟩:PG)) 87,oQ b5 (cgC q) 32,rowBB oa oc bo,row 145 3 (some ⟨bl,0,none⟩) (lv0.length+1) lc ((lv0++[(LVt l (t+1))]).flatMap lvC)],baseA gk,bo.map bgA++(lv0.flatMap lvI++lvI l)] [1,0,2]) ?_
   refine WL.cT (ι:=AnsA) (vs:=[ptr g.p,cgV q,.int .i64 (leadI lead),.agg (jgC y2).toArray,.slice ma zs.length mc]) (vv:=fun z=>.agg (lvC ⟨z.a,z.c,z.ys,0,⟨zs,ma,mc⟩⟩).toArray) (pp:=fun z=>z.ys.map AG.x=Jc2 F (Jby y2.a lead) (appD (sb zs) (clA q.cl y2.a))∧BS z.g k F∧z.g.p=g.p∧(∀ y∈z.ys,y.x.args.length≤8)∧z.ys.length≤k) (baseA gk) (AA:=fun z=>baseA z.g++atsA z.a z.c z.ys) rfl (fun w' hw' hH=>by
    have h9:=enter_calls gk k F bsk hkk q hs lead y2 hya2 ⟨zs,ma,mc⟩ (show zs.length≤1048576 by omega) w0 w' (Jb2 hk hB hw') (newer hB h0 (show Sat w _ _ w (baseA gk++([rowB ma mc zs,oQ b13 (atC u.x u.a u.c) 29,oQ b12 (jgC y) 141,oQ b7 (pgC (⟨aa,ac,nI (Jbp q.cl),ja,jc,js⟩:PG)) 87,oQ b5 (cgC q) 32,rowBB oa oc bo,row 145 3 (some ⟨bl,0,none⟩) (lv0.length+1) lc ((lv0++[(LVt l (t+1))]).flatMap lvC)]++(bo.map bgA++(lv0.flatMap lvI++lvI l)))) w' from hw')) hN hr (RBd.of_row (c:=mc) (show SatA w (baseA g) (baseA gk++([rowB ma mc zs,oQ b13 (atC u.x u.a u.c) 29,oQ b12 (jgC y) 141,oQ b7 (pgC (⟨aa,ac,nI (Jbp q.cl),ja,jc,js⟩:PG)) 87,oQ b5 (cgC q) 32,rowBB oa oc bo,row 145 3 (some ⟨bl,0,none⟩) (lv0.length+1) lc ((lv0++[(LVt l (t+1))]).flatMap lvC)]++(bo.map bgA++(lv0.flatMap lvI++lvI l)))) w' from hw') (xB _ yH)) (fun a ha _=>Sat.sepO (show SatA w (baseA g) (baseA gk++([rowB ma mc zs,oQ b13 (atC u.x u.a u.c) 29,oQ b12 (jgC y) 141,oQ b7 (pgC (⟨aa,ac,nI (Jbp q.cl),ja,jc,js⟩:PG)) 87,oQ b5 (cgC q) 32,rowBB oa oc bo,row 145 3 (some ⟨bl,0,none⟩) (lv0.length+1) lc ((lv0++[(LVt l (t+1))]).flatMap lvC)]++(bo.map bgA++(lv0.flatMap lvI++lvI l)))) w' from hw') (i:=rowB ma mc zs) yH ⟨a,ha,rfl⟩) hH;rw [hgp] at h9;exact h9) ?_
   rintro z2 ⟨hz2,bs2,hp2,hz28,hz2k⟩;refine Hc (fun _=>(fun _ hw=>⟨hw.it (oQ b5 (cgC q) 32) (by simp [cat]),hw.it (oQ b7 (pgC (⟨aa,ac,nI (Jbp q.cl),ja,jc,js⟩:PG)) 87) (by simp [cat]),(hp.js.satA hp.jsne hw)⟩)) ?_;refine Ho 12 rfl (fl':=false) rfl ?_;refine WL.bg (cs:=lvC (⟨z2.a,z2.c,z2.ys,0,⟨zs,ma,mc⟩⟩:LV)) T.u147 T.z145 T.zr145 rfl rfl (by omega) (by omega) rfl ?_;intro b124;refine Hc (fun _=>(fun _ hw=>⟨hw.it (oQ b5 (cgC q) 32) (by simp [cat]),hw.it (oQ b7 (pgC (⟨aa,ac,nI (Jbp q.cl),ja,jc,js⟩:PG)) 87) (by simp [cat]),(hp.js.satA hp.jsne hw)⟩)) ?_;refine Ho 13 rfl (fl':=false) rfl ?_;refine WL.focus (ow':=row 145 3 (some ⟨bl,0,none⟩) (lv0.length+1) lc ((lv0++[(LVt l (t+1))]).flatMap lvC)::oQ b124 (lvC (⟨z2.a,z2.c,z2.ys,0,⟨zs,ma,mc⟩⟩:LV)) 145::rowB ma mc zs::oQ b13 (atC u.x u.a u.c) 29::oQ b12 (jgC y) 141::oQ b7 (pgC (⟨aa,ac,nI (Jbp q.cl),ja,jc,js⟩:PG)) 87::oQ b5 (cgC q) 32::rowBB oa oc bo::((baseA z2.g++atsA z2.a z2.c z2.ys)++(bo.map bgA++(lv0.flatMap lvI++lvI l)))) (pmC [[oQ b124 (lvC (⟨z2.a,z2.c,z2.ys,0,⟨zs,ma,mc⟩⟩:LV)) 145],(baseA z2.g++atsA z2.a z2.c z2.ys),[rowB ma mc zs],[oQ b13 (atC u.x u.a u.c) 29],[oQ b12 (jgC y) 141],[oQ b7 (pgC (⟨aa,ac,nI (Jbp q.cl),ja,jc,js⟩:PG)) 87],[oQ b5 (cgC q) 32],[rowBB oa oc bo],[row 145 3 (some ⟨bl,0,none⟩) (lv0.length+1) lc ((lv0++[(LVt l (t+1))]).flatMap lvC)],bo.map bgA++(lv0.flatMap lvI++lvI l)] [8,0,2,3,4,5,6,7,1,9]) ?_;refine WL.append (news:=lvC (⟨z2.a,z2.c,z2.ys,0,⟨zs,ma,mc⟩⟩:LV)) rfl rfl T.apL (fun _ _=>Jcw yI rfl) (lvC_one _) ⟨by omega,by unfold maxLen;omega⟩ rfl ?_;intro a125 c125;refine Hc (fun _=>(fun _ hw=>⟨hw.it (oQ b5 (cgC q) 32) (by simp [cat]),hw.it (oQ b7 (pgC (⟨aa,ac,nI (Jbp q.cl),ja,jc,js⟩:PG)) 87) (by simp [cat]),(hp.js.satA hp.jsne hw)⟩)) ?_;refine Hf 14 rfl (OV.assign rfl) (He (Xn (Ce (Xi (Xe (Xi (Xe (Xh ?_))))))));have hrem2:=remV_new (fnd:=(fun i p=>Jc2 F (Jby i lead) p)) (c:=q.cl) hJ2 (l:=(⟨z2.a,z2.c,z2.ys,0,⟨zs,ma,mc⟩⟩:LV)) rfl (by rw [hz2,hyam2]);have el:lv0.length+1+1=(lv0++[(LVt l (t+1))]++[(⟨z2.a,z2.c,z2.ys,0,⟨zs,ma,mc⟩⟩:LV)]).length:=by simp
   have ef:(lv0++[(LVt l (t+1))]).flatMap lvC++lvC (⟨z2.a,z2.c,z2.ys,0,⟨zs,ma,mc⟩⟩:LV)=(lv0++[(LVt l (t+1))]++[(⟨z2.a,z2.c,z2.ys,0,⟨zs,ma,mc⟩⟩:LV)]).flatMap lvC:=by simp
   refine WX.mm z2.g oa oc bo a125 c125 (lv0++[(LVt l (t+1))]++[(⟨z2.a,z2.c,z2.ys,0,⟨zs,ma,mc⟩⟩:LV)]) ⟨rfl,rfl,rfl,rfl,rfl,by rw [← el];rfl,trivial⟩ (fun w' hw=>⟨⟨bs2,hp2,by simp;omega,?_,?_,hbo⟩,?_⟩) ?_
   ·rw [← hsol,hremt,Jee,Jee,Jee,xM,xM,xL,xQ,hrem2.1,hrn,hst];simp
   ·intro i x hx;rcases Nat.lt_or_ge i (lv0.length+1) with h | h
    ·rw [List.getElem?_append_left (by rw [xL];exact h)] at hx;exact hlvx (t+1) (by omega) i x hx
    ·have hi0:i=lv0.length+1:=by have:=(List.getElem?_eq_some_iff.1 hx).1;simp at this;omega
     subst hi0;rw [List.getElem?_append_right (by simp)] at hx;simp only [xL,xQ,Nat.sub_self,List.getElem?_cons_zero,Option.some.injEq] at hx;subst hx;exact ⟨⟨_,hJ2,by show z2.ys.map AG.x=Jc2 F (Jby m2.a lead) (appD (sb zs) (clA q.cl m2.a));rw [hz2,hyam2]⟩,hz28,hz2k,Nat.zero_le _,hsbz,hdmz⟩
   ·rw [el,ef] at hw;refine (hw.pik [[rowL a125 c125 (lv0++[(LVt l (t+1))]++[(⟨z2.a,z2.c,z2.ys,0,⟨zs,ma,mc⟩⟩:LV)])],[oQ b124 (lvC (⟨z2.a,z2.c,z2.ys,0,⟨zs,ma,mc⟩⟩:LV)) 145],[rowB ma mc zs],[oQ b13 (atC u.x u.a u.c) 29],[oQ b12 (jgC y) 141],[oQ b7 (pgC (⟨aa,ac,nI (Jbp q.cl),ja,jc,js⟩:PG)) 87],[oQ b5 (cgC q) 32],[rowBB oa oc bo],(baseA z2.g++atsA z2.a z2.c z2.ys),bo.map bgA,(lv0.flatMap lvI++lvI l)] [5,6,7,0,8,2,9,10] 11).perm ?_;exact (List.Perm.of_eq (by simp [cat,List.flatMap_append,lvI];rfl)).trans ((pmC [[oQ b7 (pgC (⟨aa,ac,nI (Jbp q.cl),ja,jc,js⟩:PG)) 87],[oQ b5 (cgC q) 32],[rowBB oa oc bo],[rowL a125 c125 (lv0++[(LVt l (t+1))]++[(⟨z2.a,z2.c,z2.ys,0,⟨zs,ma,mc⟩⟩:LV)])],baseA z2.g,atsA z2.a z2.c z2.ys,[rowB ma mc zs],bo.map bgA,(lv0.flatMap lvI++lvI l)] [0,1,2,3,4,7,8,5,6]).trans (List.Perm.of_eq (by simp [cat])))
   ·show cstL _ _ _ 0 (lv0++[_]++[_])<cstL _ _ _ 0 (lv0++[l]);rw [Jgf,Jgf,Jgf,xM,xM,xL,xQ,hrem2.2];show csT _ _ _ (sb zs)+_<_;omega
  refine Ce (Xe (Xe (Xh (Xn (Cr (Zm rfl (Zm rfl (Zv (OV.ae rfl T.u147) (Zv ((OV.m3 rfl rfl (by omega)).cast (u:=.int .i64 ((lv0.length:Nat):Int)) (by congr 1;omega)) (Zv (OV.sliceTo rfl T.u147 T.z145 rfl (by omega)) (Za rfl (Nl (Xb ?_)))))))))))));refine WX.mm gk oa oc bo (some ⟨bl,0,none⟩) lc lv0 Y6 (fun w' hw=>⟨⟨bsk,hgp,by omega,?_,fun i x hx=>hlvs i x (by rw [List.getElem?_append_left (List.getElem?_eq_some_iff.1 hx).1];exact hx),hbo⟩,?_⟩) ?_
  ·rw [← hsol,hremt,Jee,xM,remV_end (by omega)];rfl
  ·have h1:=hw.perm (ow':=row 145 3 (some ⟨bl,0,none⟩) (lv0.length+1) lc ((lv0++[(LVt l t)]).flatMap lvC)::oQ b12 (jgC y) 141::oQ b7 (pgC (⟨aa,ac,nI (Jbp q.cl),ja,jc,js⟩:PG)) 87::oQ b5 (cgC q) 32::rowBB oa oc bo::(baseA gk++(bo.map bgA++(lv0.flatMap lvI++lvI l)))) (pmC [[oQ b12 (jgC y) 141],[oQ b7 (pgC (⟨aa,ac,nI (Jbp q.cl),ja,jc,js⟩:PG)) 87],[oQ b5 (cgC q) 32],[rowBB oa oc bo],[row 145 3 (some ⟨bl,0,none⟩) (lv0.length+1) lc ((lv0++[(LVt l t)]).flatMap lvC)],(baseA gk++(bo.map bgA++(lv0.flatMap lvI++lvI l)))] [4,0,1,2,3,5]);have h2:=h1.rowCut (k:=lv0.length) (by simp);rw [show ((lv0++[(LVt l t)]).flatMap lvC).take (lv0.length*3)=lv0.flatMap lvC by rw [List.flatMap_append,List.take_left' (Jdf Jnx lv0)]] at h2;exact h2.pik [[rowL (some ⟨bl,0,none⟩) lc lv0],[oQ b12 (jgC y) 141],[oQ b7 (pgC (⟨aa,ac,nI (Jbp q.cl),ja,jc,js⟩:PG)) 87],[oQ b5 (cgC q) 32],[rowBB oa oc bo],baseA gk,bo.map bgA,lv0.flatMap lvI,lvI l] [2,3,4,0,5,6,7] 9
  ·show cstL _ _ _ 0 lv0<cstL _ _ _ 0 (lv0++[l]);rw [Jgf];have:=cstV_pos (fnd:=(fun i p=>Jc2 F (Jby i lead) p)) (c:=q.cl) (J:=(jnP (makeP q.cl lead))) (0+lv0.length) l;omega
 refine Ce (Xe (Xe (Xh (Xn (Csr (Zm rfl (Za rfl (Nn (WC.az ?_)))))))));refine WX.f1 ?_;obtain rfl:lv=[]:=List.eq_nil_of_length_eq_zero (by omega)
 exact WX.ret1 rfl rfl rfl (fun w' hw=>⟨(gk,oa,oc,bo),rfl,⟨⟨bsk,hgp⟩,by
  rw [show bo.map (fun y=>sb y.ys)=(sols (fun i p=>Jc2 F (Jby i lead) p) q.cl (jnP (makeP q.cl lead)) []) by rw [← hsol];exact (xZ _).symm];unfold solsB;rw [if_pos c20],hbo⟩,(hw.pik [[oQ b7 (pgC (⟨aa,ac,nI (Jbp q.cl),ja,jc,js⟩:PG)) 87],[oQ b5 (cgC q) 32],[rowBB oa oc bo],[rowL la lc []],baseA gk,bo.map bgA,[]] [4,2,5] 7).turned⟩)
theorem sum_le_mul {l:List Nat}{m:Nat}(h:∀ x∈l,x≤m):l.sum≤l.length*m:=by
 induction l with
 | nil=>simp
 | cons x l ih=>
  have h1:=h x yH;have h2:=ih fun y hy=>h y (.tail _ hy)
  rw [List.sum_cons,List.length_cons,Nat.add_mul,Nat.one_mul];omega
theorem sols_len {fnd:Nat→At→List At}{c:Cl}{M:Nat}(hM:∀ i p,(fnd i p).length≤M):∀ (J:List (Nat × List Nat)) (s:Bn),(sols fnd c J s).length≤M ^ J.length
 | [],s=>by simp [sols]
 | j::js,s=>by
  rw [sols_step,List.length_flatMap,List.length_cons,Nat.pow_succ,Nat.mul_comm]
  have h1:∀ x∈((fnd j.1 (appD s (clA c j.1))).map fun f=>(stepB fnd c j js s f).length),x≤M ^ js.length:=fun x hx=>by
   obtain ⟨f,_,rfl⟩:=List.mem_map.1 hx;unfold stepB
   split
   ·simp
   ·split
    ·exact sols_len hM js _
    ·simp
  refine Nat.le_trans (sum_le_mul h1) ?_;rw [xE];exact Nat.mul_le_mul_right _ (hM _ _)
abbrev fndF (F:List (At × Nat))(lead:Option Nat)(i:Nat)(p:At):List At:=Jc2 F (Jby i lead) p
theorem fact_ground {x:At}(h:factB x=true):∀ t∈plc x,varB t=false:=fun t ht=>by
 unfold factB at h;simp only [yA] at h;rcases List.mem_cons.1 ht with rfl | ht
 ·simpa using h.1.2
 ·have h2:=h.2;rw [Bool.not_eq_true',List.any_eq_false] at h2
  simpa using h2 t ht
theorem fnd_ok {F:List (At × Nat)}(hF:∀ q∈F,factB q.1=true)(lead:Option Nat):FndOK (fndF F lead) (FFs F lead) where
 mem:=fun i p x=>by
  show x∈sortA _↔_;rw [(Jec _).mem_iff,List.mem_filter]
 gr:=fun i x hx t ht=>by
  obtain ⟨n,hn,_⟩:=Jom.1 hx;exact fact_ground (hF _ hn) t ht
theorem fndF_len {F:List (At × Nat)}(lead:Option Nat)(i:Nat)(p:At):(fndF F lead i p).length≤F.length:=by
 show (sortA _).length≤_;rw [(Jec _).length_eq];refine Nat.le_trans (List.length_filter_le _ _) ?_;unfold selF;rw [xE];exact List.length_filter_le _ _
theorem nodup_subG {α:Type}[DecidableEq α]{l m:List α}(h:l.Nodup)(hs:∀ x∈l,x∈m):l.length≤m.length:=by
 induction l generalizing m with
 | nil=>exact Nat.zero_le _
 | cons x l ih=>
  obtain ⟨h1,h2⟩:=List.nodup_cons.1 h;have h3:=ih (m:=m.erase x) h2 fun y hy=>(List.mem_erase_of_ne (fun e:y=x=>h1 (by rw [← e];exact hy))).2 (hs y (.tail _ hy))
  have h4:=List.length_erase_of_mem (hs x yH);have h5:0<m.length:=List.length_pos_of_mem (hs x yH);simp only [List.length_cons];omega
theorem holds_left {A B:List Hw.Item}{w:World}(h:Holds (A++B) w):Holds A w:=
 ⟨fun i hi=>h.φ i (xA _ hi),fun i hi=>h.lt i (xA _ hi),(List.pairwise_append.1 h.disj).1⟩
theorem binds_ok {g:BaseG}{k:Nat}{F:List (At × Nat)}(b:BS g k F)(hkk:k≤100000000000){q:CG}(hs:CS q)(hv:VC q.cl){lead:Option Nat}(hld:∀ l,lead=some l→l<q.cl.bd.length){w0:World}(hB:∀ b,DD (baseA g) b→w0.heap.size≤b)(hN:Jdb w0)(hr:RC w0 q) 
  (hsl:(sols (fndF F lead) q.cl (jnP (makeP q.cl lead)) []).length≤1048576):Jo6 (γ:=BaseG) (ptr g.p) q lead w0 (baseA g) baseA (fun z=>BS z k F∧z.p=g.p) (solsB (fndF F lead) q.cl (Jbp q.cl) (jnP (makeP q.cl lead))):=by
 intro p w1 hpa hpj hk hH;obtain ⟨aa,ac,al,ja,jc,js⟩:=p;obtain rfl:al=nI (Jbp q.cl):=hpa;exact bindings_calls g k F b hkk q hs hv lead hld w0 w1 hk hB hN hr aa ac ja jc js hpj (RPl.of_holds hH) hsl (holds_left hH)
theorem solve_calls (g:BaseG)(k:Nat)(F:List (At × Nat))(b:BS g k F)(hkk:k≤100000000000)(hF:∀ q∈F,factB q.1=true)(q:CG)(hs:CS q)(hv:VC q.cl)(lead:Option Nat)(hld:∀ l,lead=some l→l<q.cl.bd.length)(hsl:F.length ^ q.bd.length≤1048576)(w0 w:World)(hk:Keeps w0 w)(hB:∀ b,DD (baseA g) b→w0.heap.size≤b)(hN:Jdb w0)(hC:Jjz w0)(hr:RC w0 q)(hA:Holds (baseA g) w):
  Calls Tryz.prog 12 #[ptr g.p,cgV q,.int .i64 (leadI lead)] w fun e w'=>∃ z:BaseG × Option Addr × Nat × List TG,e=.returned (.tuple #[.slice z.2.1 z.2.2.2.length z.2.2.1,.int .i64 0])∧((BS z.1 k F∧z.1.p=g.p)∧Str cmpR (z.2.2.2.map TG.l)∧(∀ r,r∈z.2.2.2.map TG.l↔Sol (FFs F lead) q.cl (nV q.cl) r)∧z.2.2.2.length≤1048576)∧Turns (baseA g) (baseA z.1++(rowR z.2.1 z.2.2.1 z.2.2.2::z.2.2.2.map tgA)) w w':=by
 have h1:(sols (fndF F lead) q.cl (jnP (makeP q.cl lead)) []).length≤1048576:=by
  have h2:=sols_len (M:=F.length) (fndF_len lead) (c:=q.cl) (jnP (makeP q.cl lead)) [];rw [show (jnP (makeP q.cl lead)).length=(makeP q.cl lead).length from xE _,Jl7,show q.cl.bd.length=q.bd.length from xE _] at h2;omega
 have h2:(solsB (fndF F lead) q.cl (Jbp q.cl) (jnP (makeP q.cl lead))).length≤1048576:=by
  unfold solsB
  split
  ·exact h1
  ·simp
 have hn:=hv.nV72
 have h3:∀ r∈(solsB (fndF F lead) q.cl (Jbp q.cl) (jnP (makeP q.cl lead))).map (valsB (nV q.cl)),r.length≤1099511627776:=fun r hr=>by
  obtain ⟨s,_,rfl⟩:=List.mem_map.1 hr;rw [Jfh];omega
 refine (solve_from (γ:=BaseG) (baseA g) baseA (fun z=>BS z k F∧z.p=g.p) _ _ (ptr g.p) q hs hv (by omega) lead hld w0 hN hC hr w hk hB hA h2 (binds_ok b hkk hs hv hld hB hN hr h1) (comp_ok (by rw [xE];omega) h3)).mono ?_;rintro e w' ⟨z,h4,⟨h5,h6,h7⟩,h8⟩;have h9:=nodup_subG (Str.nodup Jn2 h6) fun r hr=>(h7 r).1 hr
 rw [xE,xE] at h9;exact ⟨z,h4,⟨h5,h6,fun r=>(h7 r).trans (rows_sol (fnd_ok hF lead) hv.cvn (plan_ok hv.cvn hld) r),by omega⟩,h8⟩
end Go.Proofs.YtgebaodagaecmaaGreatDoor
