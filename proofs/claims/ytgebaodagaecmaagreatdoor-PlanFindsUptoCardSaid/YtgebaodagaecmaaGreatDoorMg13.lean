/- Contracts of functions of the program: what each returns and leaves in memory. Printed by gen.py and walk.py. The library's sorts lie in the loaded program as on the kit's shelf. -/
import Derived.Test.YtgebaodagaecmaaGreatDoorMg12
import Derived.Test.YtgebaodagaecmaaGreatDoorHxA
import Derived.Test.YtgebaodagaecmaaGreatDoorProg
set_option maxRecDepth 10000
namespace Go.Proofs.YtgebaodagaecmaaGreatDoor
open Go Go.Hw
set_option linter.unusedSimpArgs false
set_option linter.unusedVariables false
def rp (g:RelG):List (List Int × Nat):=g.es.map fun e=>(e.row,e.part)
def addRP (width:Nat)(L:List (List Int × Nat))(l:List Int):List (List Int × Nat):=if l.length=width∧l∉L.map (·.1) then L++[(l,4)] else L
def addV (width:Nat)(L:List (List Int × Nat))(l:List Int):Bool:=decide (l.length=width∧l∉L.map (·.1))
def addE (width:Nat)(l:List Int):Int:=if l.length=width then 0 else 71
structure RelLe (g g':RelG):Prop where
 r:g'.r=g.r
 width:g'.width=g.width
 es:∀ e∈g.es,∃ e'∈g'.es,e'.p=e.p∧e'.a=e.a∧e'.c=e.c∧e'.row=e.row
 cols:∀ c∈g.cols,c∈g'.cols
theorem RelLe.refl (g:RelG):RelLe g g:=⟨rfl,rfl,fun e he=>⟨e,he,rfl,rfl,rfl,rfl⟩,fun _ h=>h⟩
theorem RelLe.trans {a b c:RelG}(h:RelLe a b)(k:RelLe b c):RelLe a c:=
 ⟨k.r.trans h.r,k.width.trans h.width,fun e he=>by
  obtain ⟨e1,h1,a1,a2,a3,a4⟩:=h.es e he;obtain ⟨e2,h2,b1,b2,b3,b4⟩:=k.es e1 h1;exact ⟨e2,h2,b1.trans a1,b2.trans a2,b3.trans a3,b4.trans a4⟩,fun x hx=>k.cols x (h.cols x hx)⟩
theorem mem_rp {g:RelG}{l:List Int}:l∈(rp g).map (·.1)↔∃ e∈g.es,e.row=l:=by
 simp [rp]
def addG (g:RelG)(e:Ent)(na:Option Addr)(nc:Nat)(ix:List Idx):RelG:={ g with es:=g.es++[e],na:=na,nc:=nc,ns:=g.ns++[e.p],ix:=ix }
structure Ixs (e:Ent) (ix:List Idx) (vis:List Nat) (ix':List Idx):Prop where
 len:ix'.length=ix.length
 at_:∀ j x,ix[j]?=some x→∃ x',ix'[j]?=some x'∧x'.p=x.p∧x'.mb=x.mb∧x'.col=x.col∧(j∈vis→∃ a c,x'.gs=gadd x.gs (ixKey x.col e) e.p a c)∧(j∉vis→x'.gs=x.gs)
theorem Ixs.start (e:Ent)(ix:List Idx):Ixs e ix [] ix:=⟨rfl,fun j x hx=>⟨x,hx,rfl,rfl,rfl,fun h=>(by cases h),fun _=>rfl⟩⟩
theorem Ixs.ixM {e:Ent}{ix ix':List Idx}{vis:List Nat}(h:Ixs e ix vis ix'):ixM ix'=ixM ix:=by
 apply List.ext_getElem?;intro j;show ((ix'.map fun x=>(keyB x.col.l,ptr x.p)))[j]?=((ix.map fun x=>(keyB x.col.l,ptr x.p)))[j]?;simp only [xG];cases hx:ix[j]? with
 | none=>
  have:ix'[j]?=none:=by
   rw [List.getElem?_eq_none_iff] at hx ⊢;rw [h.len];exact hx
  rw [this]
 | some x=>
  obtain ⟨x',h1,h2,_,h4,_⟩:=h.at_ j x hx;rw [h1];simp [h2,h4]
theorem Ixs.step {e:Ent}{ix m1 m2:List Idx}{x:Idx}{vis:List Nat}{a:Option Addr}{c:Nat}(h:Ixs e ix vis (m1++x::m2))(hv:m1.length∉vis):Ixs e ix (vis++[m1.length]) (m1++{ x with gs:=gadd x.gs (ixKey x.col e) e.p a c }::m2):=by
 refine ⟨by rw [← h.len];simp,fun j y hy=>?_⟩;obtain ⟨x',h1,h2,h3,h4,h5,h6⟩:=h.at_ j y hy
 by_cases hj:j=m1.length
 ·subst hj;rw [List.getElem?_append_right (Nat.le_refl _),Nat.sub_self] at h1;simp only [List.getElem?_cons_zero,Option.some.injEq] at h1;subst h1;refine ⟨{ x with gs:=gadd x.gs (ixKey x.col e) e.p a c },by rw [List.getElem?_append_right (Nat.le_refl _),Nat.sub_self];rfl,h2,h3,h4,fun _=>⟨a,c,?_⟩,fun hh=>absurd (by simp) hh⟩;have h7:=h6 hv;show gadd x.gs (ixKey x.col e) e.p a c=_;rw [h7,h4]
 ·refine ⟨x',?_,h2,h3,h4,fun hm=>h5 ?_,fun hm=>h6 ?_⟩
  ·rcases Nat.lt_or_ge j m1.length with hlt | hge
   ·rw [List.getElem?_append_left hlt] at h1 ⊢;exact h1
   ·rw [List.getElem?_append_right hge] at h1 ⊢;obtain ⟨k,hk⟩:∃ k,j - m1.length=k+1:=⟨j - m1.length - 1,by omega⟩
    rw [hk] at h1 ⊢
    simpa using h1
  ·simpa [hj] using hm
  ·simpa [hj] using hm
def unseen (n:Nat)(vis:List Nat):Nat:=((List.range n).filter fun j=>!vis.contains j).length
theorem Ji8 {n i:Nat}{vis:List Nat}(hi:i<n)(hv:i∉vis):unseen n (vis++[i])<unseen n vis:=by
 unfold unseen
 have hsub:((List.range n).filter fun j=>!(vis++[i]).contains j)=((List.range n).filter fun j=>!vis.contains j).filter fun j=>j≠i:=by
  rw [List.filter_filter];apply List.filter_congr;intro j _
  by_cases h:j=i <;> simp [h]
 rw [hsub];refine List.length_filter_lt_length_iff_exists.2 ⟨i,?_,by simp⟩;rw [List.mem_filter];exact ⟨List.mem_range.2 hi,by simpa using hv⟩
theorem perm_deep {X:List Hw.Item}{es:List Ent}{e:Ent}{k1 k2:List Col}{c:Col}{m1 m2:List Idx}{x:Idx}:
  ((idxA x++(entA e++colA c))++(X++tailA es (k1++k2) (m1++m2))).Perm (X++tailA (es++[e]) (k1++c::k2) (m1++x::m2)):=by
 have h1:(idxA x++(entA e++(colA c++tailA es (k1++k2) (m1++m2)))).Perm (tailA (es++[e]) (k1++c::k2) (m1++x::m2)):=by
  refine List.Perm.trans ?_ (Jm7 _ _ m1 m2 x);refine List.Perm.append_left _ ?_;have h2:=Jm8 es [] e (k1++c::k2) (m1++m2);rw [xZ] at h2;refine List.Perm.trans (List.Perm.append_left _ ?_) h2;exact Jm9 es k1 k2 c _
 refine List.Perm.trans ?_ (List.Perm.append_left _ h1);have e1:(idxA x++(entA e++colA c))++(X++tailA es (k1++k2) (m1++m2))=(idxA x++(entA e++colA c))++(X++tailA es (k1++k2) (m1++m2)):=rfl;have e2:idxA x++(entA e++(colA c++tailA es (k1++k2) (m1++m2)))=(idxA x++(entA e++colA c))++tailA es (k1++k2) (m1++m2):=by simp
 rw [e2];exact Jmj
theorem counts_snoc (es:List Ent)(e:Ent)(h:e.part=4):(counts es).set 4 ((cnt es 4:Int)+1)=counts (es++[e]):=by
 apply List.ext_getElem?;intro i
 by_cases hi:i<8
 ·rw [Jff hi,List.getElem?_set,Jff hi,Jgv];simp only [Jbz]
  by_cases h1:4=i
  ·subst h1;simp [cnt,h]
  ·simp [h1,cnt,h]
 ·rw [xV (by simp [counts];omega),xV (by simp [counts];omega)]
theorem rowsM_snoc {es:List Ent}{e:Ent}(h:∀ x∈es,x.row≠e.row):ups (rowsM es) (keyB e.row) (ptr e.p)=rowsM (es++[e]):=by
 rw [Jkf]
 ·simp [rowsM]
 ·intro q hq;obtain ⟨x,hx,rfl⟩:=List.mem_map.1 hq;exact fun hh=>h x hx (Jky hh)
theorem addG_ok {g:RelG}(ok:RelOK g){e:Ent}{na:Option Addr}{nc:Nat}{ix:List Idx}(hw:e.row.length=g.width)(hi:i64s e.row)(hp:e.part=4)(hr:∀ x∈g.es,x.row≠e.row)(hpp:∀ x∈g.es,x.p≠e.p)(hl:g.es.length<1099511627776)(hl2:e.row.length≤1099511627776) 
  {vis:List Nat} (hix:Ixs e g.ix vis ix) (hall:∀ i,i<g.ix.length→i∈vis):RelOK (addG g e na nc ix) where
 wid x hx:=by
  rcases List.mem_append.1 hx with h | h
  ·exact ok.wid x h
  ·simp only [xI] at h;subst h;exact hw
 i64 x hx:=by
  rcases List.mem_append.1 hx with h | h
  ·exact ok.i64 x h
  ·simp only [xI] at h;subst h;exact hi
 part x hx:=by
  rcases List.mem_append.1 hx with h | h
  ·exact ok.part x h
  ·simp only [xI] at h;subst h;exact .inr (.inr hp)
 rows:=by
  show ((g.es++[e]).map (·.row)).Nodup;rw [xU,List.nodup_append];refine ⟨ok.rows,by simp,fun a ha b hb=>?_⟩;obtain ⟨x,hx,rfl⟩:=List.mem_map.1 ha;simp only [yC,yD,xI] at hb;subst hb;exact hr x hx
 ptrs:=by
  show ((g.es++[e]).map (·.p)).Nodup;rw [xU,List.nodup_append];refine ⟨ok.ptrs,by simp,fun a ha b hb=>?_⟩;obtain ⟨x,hx,rfl⟩:=List.mem_map.1 ha;simp only [yC,yD,xI] at hb;subst hb;exact hpp x hx
 fs:=by
  show g.fs=((g.es++[e]).filter fun e=>e.part=2).map (·.p);rw [List.filter_append,ok.fs];simp [hp]
 ns:=by
  show g.ns++[e.p]=((g.es++[e]).filter fun e=>e.part=4).map (·.p);rw [List.filter_append,ok.ns];simp [hp]
 cols:=ok.cols
 ixc x hx:=by
  obtain ⟨j,hj⟩:=List.mem_iff_getElem?.1 hx;have hjl:j<g.ix.length:=by have h2:=(List.getElem?_eq_some_iff.1 hj).1;rw [← hix.len];exact h2
  obtain ⟨x',h1,_,_,h4,_⟩:=hix.at_ j _ (xD hjl);have:x'=x:=xH (h1.symm.trans hj);subst this;rw [h4];exact ok.ixc _ (List.getElem_mem hjl)
 ixk:=by
  have e1:ix.map (fun x=>x.col.l)=g.ix.map fun x=>x.col.l:=by
   apply List.ext_getElem?;intro j;simp only [xG];cases hx:g.ix[j]? with
   | none=>
    have:ix[j]?=none:=by
     rw [List.getElem?_eq_none_iff] at hx ⊢;rw [hix.len];exact hx
    rw [this]
   | some x=>
    obtain ⟨x',h1,_,_,h4,_⟩:=hix.at_ j x hx;rw [h1];simp [h4]
  show (ix.map fun x=>x.col.l).Nodup;rw [e1];exact ok.ixk
 ix x hx:=by
  obtain ⟨j,hj⟩:=List.mem_iff_getElem?.1 hx;have hjl:j<g.ix.length:=by have h2:=(List.getElem?_eq_some_iff.1 hj).1;rw [← hix.len];exact h2
  obtain ⟨x',h1,h2,h3,h4,h5,_⟩:=hix.at_ j _ (xD hjl);have:x'=x:=xH (h1.symm.trans hj);subst this;obtain ⟨a,c,hgs⟩:=h5 (hall j hjl);have hok:=ok.ix _ (List.getElem_mem hjl);refine ⟨by rw [hgs];exact gadd_nodup _ _ _ _ hok.keys,fun k=>?_⟩;rw [hgs,psOf_gadd,h4];show List.Perm _ (((g.es++[e]).filter fun e=>ixKey (g.ix[j]).col e=k).map (·.p));rw [List.filter_append,xU];refine List.Perm.append (hok.ps k) ?_
  by_cases hk:k=ixKey (g.ix[j]).col e
  ·simp [hk]
  ·simp [hk,Ne.symm hk]
 coll:=ok.coll
 wl:=ok.wl
 rl x hx:=by
  rcases List.mem_append.1 hx with h | h
  ·exact ok.rl x h
  ·simp only [xI] at h;subst h;exact hl2
 el:=by show (g.es++[e]).length≤_;rw [xL,xQ];omega
theorem ents_nodup {es:List Ent}(h:(es.flatMap entA).Pairwise Disj):(es.map (·.p)).Nodup:=by
 induction es with
 | nil=>simp
 | cons e es ih=>
  rw [List.flatMap_cons] at h;obtain ⟨h1,h2,h3⟩:=List.pairwise_append.1 h;rw [yC,List.nodup_cons];refine ⟨fun hm=>?_,ih h2⟩;obtain ⟨x,hx,hxp⟩:=List.mem_map.1 hm;have hd:=h3 _ yH (oQ x.p (entC x) 184) (List.mem_flatMap.2 ⟨x,hx,.head _⟩);exact hd e.p rfl hxp.symm
theorem tail_nodup {w0 ws w:World}{M I:Nat→Prop}{X:List Hw.Item}{es:List Ent}{cols:List Col}{ix:List Idx}(h:Sat w0 M I ws (X++tailA es cols ix) w):(es.map (·.p)).Nodup:=
 ents_nodup (List.pairwise_append.1 (List.pairwise_append.1 h.disj).2.1).1
theorem ixM_get {ix:List Idx}{i:Nat}{q:ByteArray × Value}(h:(ixM ix)[i]?=some q):∃ x,ix[i]?=some x∧q=(keyB x.col.l,ptr x.p):=by
 simp only [ixM,xG] at h;obtain ⟨x,h1,h2⟩:=Option.map_eq_some_iff.1 h;exact ⟨x,h1,h2.symm⟩
theorem ixM_length (ix:List Idx):(ixM ix).length=ix.length:=by simp [ixM]
theorem perm_add5 {A B C D x y:Hw.Item}{T:List Hw.Item}:(A::B::C::D::x::y::T).Perm (D::A::x::y::B::C::T):=by
 refine (perm3 (d:=D) (a:=A) (b:=B) (c:=C)).symm.trans (List.Perm.cons _ (List.Perm.cons _ ?_));exact Jmj (A:=[x,y]) (B:=[B,C]) (C:=T)
theorem add_calls (g:RelG)(ok:RelOK g)(l:List Int)(a:Option Addr)(m c:Nat)(hi:i64s l)(hm:m≤1099511627776)(hlen:g.es.length<1099511627776)(w:World)(hr:RI w a m l)(hne:∀ b,a=some b→0<m→¬ DD (relA g) b.block)(hA:Holds (relA g) w):
 Calls Tryz.prog 94 #[ptr g.r,.slice a m c] w fun e w'=>e=.returned (.tuple #[.bool (addV g.width (rp g) l),.int .i64 (addE g.width l)])∧∃ g',rp g'=addRP g.width (rp g) l∧RelOK g'∧RelLe g g'∧Turns (relA g) (relA g') w w':=by
 refine Jdt hA (args:=[ptr g.r,.slice a m c]) Tryz.func94 rfl Tryz.ntmps94 rfl rfl ?_;refine Csr (Za rfl (Za rfl (Nn (Cs (Csr (Zm rfl (Zv (OV.ae rfl T.u51) (Zm rfl (Zv (OV.ak rfl) (Zv (OV.f0 0 rfl T.u169 rfl) (Zv (OV.ah rfl T.u3 rfl (fun _ hw=>Jbn hw yH rfl)) (Zv (OV.iu rfl rfl) (Nn ?_)))))))))))));refine Cc rfl (fun c16=>?_) (fun c16=>?_)
 ·refine Csr (Za rfl (Za rfl (Nn (WC.az ?_))));refine Xr ?_;have hnw:¬ l.length=g.width:=by have:=hr.1;intro h;apply c16;omega
  exact WX.ret2 rfl rfl rfl rfl (fun w' hw=>⟨by rw [addV,addE,if_neg hnw,xP (fun h=>hnw h.1)],g,by rw [addRP,if_neg (fun h=>hnw h.1)],ok,RelLe.refl g,hw.turned⟩)
 refine Ck (Xn (Csr (Zm rfl (WL.au (by kernel_rfl) rfl rfl (fun w' hw=>Jj9 l a m c hi hm w' (hr.satA hne hw)) ?_))));refine Za rfl (Nn (Cs (Csr (Zm rfl (Zv (OV.ak rfl) (Zv (OV.f0 1 rfl T.u169 rfl) (Zv (OV.ah rfl T.u157 rfl (fun _ hw=>Jbn hw yH rfl)) (Zm rfl (Zv ((OV.lookup (KeyLaw.str T.u9) T.u157 (by kernel_rfl) rfl rfl (fun _ hw=>Je7 yI _ hw)).cast (rowsM_got g.es l)) (Zv (OV.neqPN T.u181 rfl rfl) (Nn ?_)))))))))));refine Cc rfl (fun c25=>?_) (fun c25=>?_)
 ·refine Csr (Za rfl (Za rfl (Nn (WC.az ?_))));refine Xr ?_;have hwd:l.length=g.width:=by have:=hr.1;omega
  have hin:l∈(rp g).map (·.1):=by
   rw [mem_rp];cases hf:g.es.find? fun e=>e.row=l with
   | none=>rw [hf] at c25;simp at c25
   | some e=>exact ⟨e,List.mem_of_find?_eq_some hf,by simpa using List.find?_some hf⟩
  exact WX.ret2 rfl rfl rfl rfl (fun w' hw=>⟨by rw [addV,addE,if_pos hwd,xP (fun h=>h.2 hin)],g,by rw [addRP,if_neg (fun h=>h.2 hin)],ok,RelLe.refl g,hw.turned⟩)
 refine Ck (Xn (Csr (Zm rfl (WL.o4 (ι:=Option Addr × Nat) (vv:=fun q=>.slice q.1 l.length q.2) (pp:=fun _=>True) (it:=fun q=>row 3 1 q.1 l.length q.2 (ints l)) (by kernel_rfl) rfl rfl (fun w' hw=>(clone_calls l a m c hm w' (hr.satA hne hw)).mono (fun en w'' ⟨a',c',q1,q2,q3⟩=>⟨(a',c'),q1,trivial,q2,q3⟩)) ?_))));rintro ⟨a27,c27⟩ _;refine Zv (OV.ao (xs:=[(0,.tmp 27),(1,.const (.int .i64 4))]) (pl:=[(0,1),(1,1)]) (cs:=[.slice a27 l.length c27,.int .i64 4]) T.u184 T.zr184 (by kernel_rfl) rfl (Jal (us:=[_]) rfl rfl (by first | decide | simp) (Jal (us:=[_]) rfl rfl (by first | decide | simp) rfl))) (WL.box rfl rfl rfl ?_);intro b29;refine Za rfl (Nn (Csr (Zm rfl (Zv (OV.ak rfl) (Zv (OV.f0 1 rfl T.u169 rfl) (Zv (OV.ah rfl T.u157 rfl (fun _ hw=>Jbn hw yJ rfl)) (Zm rfl (Zm rfl ?_))))))));refine WL.focus perm3 (WL.mapUpdate (KeyLaw.str T.u9) T.u157 rfl rfl rfl ?_);refine Nn (Csr (Zm rfl (Zm rfl (Zv (OV.ak rfl) (Zv (OV.f0 3 rfl T.u169 rfl) (Zv (OV.ah rfl T.u158 rfl (fun _ hw=>Jbn hw yK rfl)) (Zm rfl (WL.br T.u158 T.z181 T.zr181 rfl rfl rfl ?_))))))));intro b42;refine WL.focus perm7 (WL.append (news:=[ptr b29]) rfl rfl T.apP (fun _ _=>Jeg yI rfl) (by simp [Value.oneCell',ptr]) ⟨by have:=Jpg ok;omega,by unfold maxLen;have:=Jpg ok;omega⟩ rfl ?_);intro a43 c43;refine Zv (OV.ak rfl) (Zv (OV.f0 3 rfl T.u169 rfl) ?_);refine WL.focus perm5 (WL.bw (o:=3) rfl rfl rfl T.z158 (by rw [Jfv (Jbz _)];omega) ?_);rw [hdC_set3];refine Nn (Cs (Hq [9] (m:=10) rfl ?_));refine Hf 0 rfl (OV.aw rfl) (Hf 1 rfl (OV.ak rfl) (Hf 2 rfl (OV.f0 4 rfl T.u169 rfl) (Hf 3 rfl (OV.ey (i:=4) rfl rfl T.u159 T.z3 (by omega)) ?_)));refine Ht 4 rfl (OV.ah (v:=.int .i64 (cnt g.es 4:Int)) rfl T.u3 rfl (fun _ hw=>Jbn hw yH (by rw [List.getElem?_toArray];exact Jos (q:=4) (Jff (by decide))))) ?_;have hc4:=Jpl g.es 4;refine Hf 5 rfl (OV.fp rfl rfl (by omega)) (Hf 6 rfl (OV.ak rfl) (Hf 7 rfl (OV.f0 4 rfl T.u169 rfl) (Hf 8 rfl (OV.ey (i:=4) rfl rfl T.u159 T.z3 (by omega)) (Ho 9 rfl (fl':=true) rfl ?_))));refine WL.bw (o:=4+4) rfl rfl rfl T.z3 (by rw [Jfv (Jbz _)];omega) ?_;rw [Joq (by rw [Jbz];decide),counts_snoc g.es (Ent.mk b29 a27 c27 l 4) rfl];refine Hc (fun h=>by cases h) ?_;refine He (Xn (Cs (Csr (Zm rfl (Zv (OV.ak rfl) (Zv (OV.f0 12 rfl T.u169 rfl) ?_))))));refine WL.val (OV.ah rfl T.u160 rfl (fun _ hw=>Jbn hw yH (by rw [List.getElem?_toArray];exact Jpj (Jbz _)))) rfl ?_;refine WL.range T.u160 rfl (fun _ hw=>Je7 (kv:=ixM g.ix) yN _ hw) rfl ?_;intro it59;refine Nn (Cb ?_)
 have hfresh:∀ x∈g.es,x.row≠l:=by
  intro x hx hh;have:(g.es.find? fun e=>e.row=l)=none:=by simpa using c25
  rw [List.find?_eq_none] at this;exact this x hx (by simpa using hh)
 refine WC.j1 (fun (ix':List Idx) (vis:List Nat)=>[(7,ptr b29),(59,yZ it59)])
   (fun ix' vis w'=>Ixs (Ent.mk b29 a27 c27 l 4) g.ix vis ix'∧SatA w (relA g) (own it59 (iterK g.ib (ixM g.ix).length vis)::hdA g.r (hdC g.width g.mb (fslice g) (.slice a43 (g.ns.length+1) c43) (counts (g.es++[(Ent.mk b29 a27 c27 l 4)])) g.ib)::own g.mb (mapK Value.string (rowsM (g.es++[(Ent.mk b29 a27 c27 l 4)])))::own g.ib (mapK Value.string (ixM g.ix))::psA g.fa g.fc g.fs::row 181 1 a43 (g.ns.length+1) c43 (ptrs (g.ns++[b29]))::tailA (g.es++[(Ent.mk b29 a27 c27 l 4)]) g.cols ix') w')
   (fun _ vis=>unseen (ixM g.ix).length vis) g.ix [] Y2 (fun w' hw=>⟨Ixs.start _ _,?_⟩) ?_
 ·have h1:=(hw.perm perm3).drop;have h2:=rowsM_snoc (es:=g.es) (e:=(Ent.mk b29 a27 c27 l 4)) hfresh;rw [← h2];have h3:ptrs g.ns++[ptr b29]=ptrs (g.ns++[b29]):=by simp [ptrs]
  rw [h3] at h1;refine h1.perm (List.Perm.cons _ (List.Perm.cons _ ?_));have ht:=Jm8 g.es [] (Ent.mk b29 a27 c27 l 4) g.cols g.ix;rw [xZ] at ht;exact (List.Perm.append_left [_,_,_,_] ht.symm).trans perm_add5
 intro ix' vis;refine WC.pure (fun hix=>?_);refine Csr ?_;refine WL.next (enc:=Value.string) (kv:=ixM g.ix) rfl rfl (fun _ hw=>Je7 yK _ hw) ?_ ?_
 ·intro hall;refine Zv (OV.extract rfl rfl) (Nn (Cs (WC.bu rfl ?_)));refine Ce (Xe (Xe (Xh (Xn (Csr (Za rfl (Za rfl (Nn (WC.az ?_)))))))));have hwd:l.length=g.width:=by have:=hr.1;omega
  have hnin:l∉(rp g).map (·.1):=by
   rw [mem_rp];rintro ⟨e,he,hh⟩;exact hfresh e he hh
  refine WX.ret2 rfl rfl rfl rfl (fun w' hw=>⟨by rw [addV,addE,if_pos hwd,xO ⟨hwd,hnin⟩],addG g (Ent.mk b29 a27 c27 l 4) a43 c43 ix',?_,?_,?_,?_⟩)
  ·rw [addRP,if_pos ⟨hwd,hnin⟩];simp [rp,addG]
  ·have hnd:=tail_nodup (X:=[own it59 (iterK g.ib (ixM g.ix).length vis),hdA g.r (hdC g.width g.mb (fslice g) (.slice a43 (g.ns.length+1) c43) (counts (g.es++[(Ent.mk b29 a27 c27 l 4)])) g.ib),own g.mb (mapK Value.string (rowsM (g.es++[(Ent.mk b29 a27 c27 l 4)]))),own g.ib (mapK Value.string (ixM g.ix)),psA g.fa g.fc g.fs,row 181 1 a43 (g.ns.length+1) c43 (ptrs (g.ns++[b29]))]) hw;refine addG_ok ok hwd hi rfl hfresh ?_ hlen (show l.length≤1099511627776 by have:=hr.1;omega) hix (by rw [ixM_length] at hall;exact hall);intro x hx hh;rw [xU] at hnd;exact (List.nodup_append.1 hnd).2.2 _ (List.mem_map.2 ⟨x,hx,rfl⟩) _ yH hh
  ·exact ⟨rfl,rfl,fun e he=>⟨e,xA _ he,rfl,rfl,rfl,rfl⟩,fun _ h=>h⟩
  ·have h1:=hw.drop;have h2:=hix.ixM
   have h3:relA (addG g (Ent.mk b29 a27 c27 l 4) a43 c43 ix')=hdA g.r (hdC g.width g.mb (fslice g) (.slice a43 (g.ns.length+1) c43) (counts (g.es++[(Ent.mk b29 a27 c27 l 4)])) g.ib)::own g.mb (mapK Value.string (rowsM (g.es++[(Ent.mk b29 a27 c27 l 4)])))::own g.ib (mapK Value.string (ixM ix'))::psA g.fa g.fc g.fs::psA a43 c43 (g.ns++[b29])::tailA (g.es++[(Ent.mk b29 a27 c27 l 4)]) g.cols ix':=by
    unfold relA addG fslice nslice;simp
   rw [h3,h2]
   have h4:psA a43 c43 (g.ns++[b29])=row 181 1 a43 (g.ns.length+1) c43 (ptrs (g.ns++[b29])):=by
    show row 181 1 a43 (g.ns++[b29]).length c43 _=_;rw [xL,xQ]
   rw [h4];exact h1.turned
 intro i q hi2 hv;obtain ⟨x0,hx0,rfl⟩:=ixM_get hi2;obtain ⟨x',hx1,hxp,hxm,hxc,_,hxg⟩:=hix.at_ i x0 hx0;obtain ⟨m1,m2,rfl,hm1⟩:=Jlv hx1;have hx0m:=xC hx0;have hcm:=ok.ixc x0 hx0m;rw [← hxc] at hcm;obtain ⟨k1,k2,hk⟩:=Jj5 hcm;have hcl:=ok.coll _ hcm;have hml:=hr.1;have hcw:∀ k∈x'.col.l,0≤k∧k<(l.length:Int):=fun k hkk=>by have:=ok.cols _ hcm k hkk;omega
 have hps:(psOf x'.gs (ixKey x'.col (Ent.mk b29 a27 c27 l 4))).length≤1099511627776:=by
  rw [hxg hv];have h1:=((ok.ix x0 hx0m).ps (ixKey x'.col (Ent.mk b29 a27 c27 l 4))).length_eq;rw [xE] at h1;have h2:=List.length_filter_le (fun e=>decide (ixKey x0.col e=ixKey x'.col (Ent.mk b29 a27 c27 l 4))) g.es;omega
 refine Zv (OV.extract rfl rfl) (Nn (Cs (WC.co rfl ?_)));refine Ck (Xn (Cb (Csr (Zv (OV.entry (enc:=Value.string) (kv:=ixM g.ix) (i:=i) rfl (fun _ hw=>hw.it _ yH) (fun _ hw=>Je7 yK _ hw) hi2) (Zv (OV.extract rfl rfl) (Za rfl (Nn (Cr (Zm rfl (Zm rfl ?_))))))))));refine WL.focus (ow':=(idxA x'++(entA (Ent.mk b29 a27 c27 l 4)++colA x'.col))++([own it59 (iterK g.ib (ixM g.ix).length (vis++[i])),hdA g.r (hdC g.width g.mb (fslice g) (.slice a43 (g.ns.length+1) c43) (counts (g.es++[(Ent.mk b29 a27 c27 l 4)])) g.ib),own g.mb (mapK Value.string (rowsM (g.es++[(Ent.mk b29 a27 c27 l 4)]))),own g.ib (mapK Value.string (ixM g.ix)),psA g.fa g.fc g.fs,row 181 1 a43 (g.ns.length+1) c43 (ptrs (g.ns++[b29]))]++tailA g.es (k1++k2) (m1++m2))) (by rw [hk];exact perm_deep (X:=[own it59 (iterK g.ib (ixM g.ix).length (vis++[i])),hdA g.r (hdC g.width g.mb (fslice g) (.slice a43 (g.ns.length+1) c43) (counts (g.es++[(Ent.mk b29 a27 c27 l 4)])) g.ib),own g.mb (mapK Value.string (rowsM (g.es++[(Ent.mk b29 a27 c27 l 4)]))),own g.ib (mapK Value.string (ixM g.ix)),psA g.fa g.fc g.fs,row 181 1 a43 (g.ns.length+1) c43 (ptrs (g.ns++[b29]))]) (es:=g.es) (e:=(Ent.mk b29 a27 c27 l 4))) (WL.dl (ι:=Option Addr × Nat) (vv:=fun _=>.tuple #[]) (pp:=fun _=>True) (idxA x'++(entA (Ent.mk b29 a27 c27 l 4)++colA x'.col)) (AA:=fun q=>idxA { x' with gs:=gadd x'.gs (ixKey x'.col (Ent.mk b29 a27 c27 l 4)) b29 q.1 q.2 }++(entA (Ent.mk b29 a27 c27 l 4)++colA x'.col)) rfl (by kernel_rfl) (show _=some [ptr x'.p,ptr b29] by rw [hxp];rfl) rfl (fun w'' hw'' hH=>(idxAdd_calls x' (Ent.mk b29 a27 c27 l 4) hcw hi (show l.length≤1099511627776 by omega) hcl hps w'' hH).mono (fun en w3 ⟨q1,a',c',q2⟩=>⟨(a',c'),q1,trivial,q2⟩)) ?_);rintro ⟨a66,c66⟩ _;refine Nl (Xb ?_)
 exact WX.er (m1++{ x' with gs:=gadd x'.gs (ixKey x'.col (Ent.mk b29 a27 c27 l 4)) b29 a66 c66 }::m2) (vis++[i]) Y2 (fun w' hw=>⟨by rw [← hm1] at hv ⊢;exact hix.step hv,by
  refine hw.perm ?_;rw [hk];exact (perm_deep (X:=[own it59 (iterK g.ib (ixM g.ix).length (vis++[i])),hdA g.r (hdC g.width g.mb (fslice g) (.slice a43 (g.ns.length+1) c43) (counts (g.es++[(Ent.mk b29 a27 c27 l 4)])) g.ib),own g.mb (mapK Value.string (rowsM (g.es++[(Ent.mk b29 a27 c27 l 4)]))),own g.ib (mapK Value.string (ixM g.ix)),psA g.fa g.fc g.fs,row 181 1 a43 (g.ns.length+1) c43 (ptrs (g.ns++[b29]))]) (es:=g.es) (e:=(Ent.mk b29 a27 c27 l 4)) (x:={ x' with gs:=gadd x'.gs (ixKey x'.col (Ent.mk b29 a27 c27 l 4)) b29 a66 c66 })).symm⟩) (Ji8 (List.getElem?_eq_some_iff.1 hi2).1 hv)
end Go.Proofs.YtgebaodagaecmaaGreatDoor
namespace Go.Proofs
set_option linter.unusedSimpArgs false
set_option linter.unusedVariables false
open Go Go.Shelf
set_option maxRecDepth 100000
def Tryz.sortF_ren:Go.Shelf.Ren:=⟨fun | 6=>136 | 15=>91 | 14=>168 | 28=>128 | 29=>129 | 20=>178 | 21=>179 | 22=>180 | 23=>181 | 24=>182 | 25=>183 | 26=>184 | 27=>185 | 46=>213 | 47=>160 | 48=>161 | 49=>214 | 50=>215 | 57=>233 | n=>n,fun | 22=>109 | 24=>51 | 25=>218 | 3=>3 | 39=>151 | 0=>0 | 53=>163 | 55=>205 | 4=>4 | 46=>198 | 45=>197 | 50=>179 | 5=>5 | 9=>9 | 66=>235 | 70=>239 | 76=>247 | 77=>248 | n=>n,fun | n=>n⟩
theorem Tryz.sortF:Go.Proofs.SlLaysF.n6 Tryz.prog Tryz.sortF_ren:={
 mixed:=by kernel_rfl
 f6:=⟨Tryz.f136.name,by decide,Tryz.func136.trans (congrArg some (by kernel_rfl))⟩
 f14:=⟨Tryz.f168.name,by decide,Tryz.func168.trans (congrArg some (by kernel_rfl))⟩
 f15:=Tryz.func91.trans (congrArg some (by kernel_rfl))
 f20:=⟨Tryz.f178.name,by decide,Tryz.func178.trans (congrArg some (by kernel_rfl))⟩
 f21:=⟨Tryz.f179.name,by decide,Tryz.func179.trans (congrArg some (by kernel_rfl))⟩
 f22:=⟨Tryz.f180.name,by decide,Tryz.func180.trans (congrArg some (by kernel_rfl))⟩
 f23:=⟨Tryz.f181.name,by decide,Tryz.func181.trans (congrArg some (by kernel_rfl))⟩
 f24:=⟨Tryz.f182.name,by decide,Tryz.func182.trans (congrArg some (by kernel_rfl))⟩
 f25:=⟨Tryz.f183.name,by decide,Tryz.func183.trans (congrArg some (by kernel_rfl))⟩
 f26:=⟨Tryz.f184.name,by decide,Tryz.func184.trans (congrArg some (by kernel_rfl))⟩
 f27:=⟨Tryz.f185.name,by decide,Tryz.func185.trans (congrArg some (by kernel_rfl))⟩
 f28:=Tryz.func128.trans (congrArg some (by kernel_rfl))
 f29:=Tryz.func129.trans (congrArg some (by kernel_rfl))
 f46:=⟨Tryz.f213.name,by decide,Tryz.func213.trans (congrArg some (by kernel_rfl))⟩
 f47:=Tryz.func160.trans (congrArg some (by kernel_rfl))
 f48:=Tryz.func161.trans (congrArg some (by kernel_rfl))
 f49:=⟨Tryz.f214.name,by decide,Tryz.func214.trans (congrArg some (by kernel_rfl))⟩
 f50:=⟨Tryz.f215.name,by decide,Tryz.func215.trans (congrArg some (by kernel_rfl))⟩
 f57:=⟨Tryz.f233.name,by decide,Tryz.func233.trans (congrArg some (by kernel_rfl))⟩
 t0:=Tryz.underlying0
 a0:=Tryz.isAgg0
 z0:=Tryz.sizeOf0
 v0:=Tryz.zeroValue0
 t3:=Tryz.underlying3
 a3:=Tryz.isAgg3
 z3:=Tryz.sizeOf3
 v3:=Tryz.zeroValue3
 t4:=Tryz.underlying4
 a4:=Tryz.isAgg4
 z4:=Tryz.sizeOf4
 v4:=Tryz.zeroValue4
 t5:=Tryz.underlying5
 a5:=Tryz.isAgg5
 z5:=Tryz.sizeOf5
 v5:=Tryz.zeroValue5
 t9:=Tryz.underlying9
 a9:=Tryz.isAgg9
 z9:=Tryz.sizeOf9
 v9:=Tryz.zeroValue9
 t22:=Tryz.underlying109
 a22:=Tryz.isAgg109
 z22:=Tryz.sizeOf109
 v22:=Tryz.zeroValue109
 a24:=Tryz.isAgg51
 z24:=Tryz.sizeOf51
 t25:=Tryz.underlying218
 a25:=Tryz.isAgg218
 z25:=Tryz.sizeOf218
 v25:=Tryz.zeroValue218
 t39:=Tryz.underlying151
 a39:=Tryz.isAgg151
 z39:=Tryz.sizeOf151
 v39:=Tryz.zeroValue151
 t45:=Tryz.underlying197
 a45:=Tryz.isAgg197
 z45:=Tryz.sizeOf197
 v45:=Tryz.zeroValue197
 t46:=Tryz.underlying198
 a46:=Tryz.isAgg198
 z46:=Tryz.sizeOf198
 v46:=Tryz.zeroValue198
 t50:=Tryz.underlying179
 a50:=Tryz.isAgg179
 z50:=Tryz.sizeOf179
 v50:=Tryz.zeroValue179
 t53:=Tryz.underlying163
 a53:=Tryz.isAgg163
 z53:=Tryz.sizeOf163
 v53:=Tryz.zeroValue163
 t55:=Tryz.underlying205
 a55:=Tryz.isAgg205
 z55:=Tryz.sizeOf205
 v55:=Tryz.zeroValue205
 t66:=Tryz.underlying235
 a66:=Tryz.isAgg235
 z66:=Tryz.sizeOf235
 v66:=Tryz.zeroValue235
 t70:=Tryz.underlying239
 a70:=Tryz.isAgg239
 z70:=Tryz.sizeOf239
 v70:=Tryz.zeroValue239
 t76:=Tryz.underlying247
 a76:=Tryz.isAgg247
 z76:=Tryz.sizeOf247
 v76:=Tryz.zeroValue247
 t77:=Tryz.underlying248
 a77:=Tryz.isAgg248
 z77:=Tryz.sizeOf248
 v77:=Tryz.zeroValue248 }
def Tryz.sortI_ren:Go.Shelf.Ren:=⟨fun | 5=>165 | 8=>91 | 7=>175 | 19=>128 | 20=>129 | 10=>196 | 11=>197 | 12=>198 | 13=>199 | 14=>200 | 15=>201 | 16=>202 | 17=>203 | 18=>204 | 30=>223 | 31=>160 | 32=>161 | 33=>224 | 34=>225 | 35=>107 | 40=>239 | n=>n,fun | 23=>51 | 25=>3 | 3=>3 | 32=>151 | 22=>51 | 0=>0 | 44=>163 | 46=>205 | 4=>4 | 36=>198 | 35=>197 | 41=>179 | 5=>5 | 9=>9 | 53=>235 | 57=>239 | 63=>247 | 64=>248 | n=>n,fun | n=>n⟩
theorem Tryz.sortI:Go.Proofs.SlLaysM.n5 Tryz.prog Tryz.sortI_ren:={
 mixed:=by kernel_rfl
 f5:=⟨Tryz.f165.name,by decide,Tryz.func165.trans (congrArg some (by kernel_rfl))⟩
 f7:=⟨Tryz.f175.name,by decide,Tryz.func175.trans (congrArg some (by kernel_rfl))⟩
 f8:=Tryz.func91.trans (congrArg some (by kernel_rfl))
 f10:=⟨Tryz.f196.name,by decide,Tryz.func196.trans (congrArg some (by kernel_rfl))⟩
 f11:=⟨Tryz.f197.name,by decide,Tryz.func197.trans (congrArg some (by kernel_rfl))⟩
 f12:=⟨Tryz.f198.name,by decide,Tryz.func198.trans (congrArg some (by kernel_rfl))⟩
 f13:=⟨Tryz.f199.name,by decide,Tryz.func199.trans (congrArg some (by kernel_rfl))⟩
 f14:=⟨Tryz.f200.name,by decide,Tryz.func200.trans (congrArg some (by kernel_rfl))⟩
 f15:=⟨Tryz.f201.name,by decide,Tryz.func201.trans (congrArg some (by kernel_rfl))⟩
 f16:=⟨Tryz.f202.name,by decide,Tryz.func202.trans (congrArg some (by kernel_rfl))⟩
 f17:=⟨Tryz.f203.name,by decide,Tryz.func203.trans (congrArg some (by kernel_rfl))⟩
 f18:=⟨Tryz.f204.name,by decide,Tryz.func204.trans (congrArg some (by kernel_rfl))⟩
 f19:=Tryz.func128.trans (congrArg some (by kernel_rfl))
 f20:=Tryz.func129.trans (congrArg some (by kernel_rfl))
 f30:=⟨Tryz.f223.name,by decide,Tryz.func223.trans (congrArg some (by kernel_rfl))⟩
 f31:=Tryz.func160.trans (congrArg some (by kernel_rfl))
 f32:=Tryz.func161.trans (congrArg some (by kernel_rfl))
 f33:=⟨Tryz.f224.name,by decide,Tryz.func224.trans (congrArg some (by kernel_rfl))⟩
 f34:=⟨Tryz.f225.name,by decide,Tryz.func225.trans (congrArg some (by kernel_rfl))⟩
 f35:=⟨Tryz.f107.name,by decide,Tryz.func107.trans (congrArg some (by kernel_rfl))⟩
 f40:=⟨Tryz.f239.name,by decide,Tryz.func239.trans (congrArg some (by kernel_rfl))⟩
 t0:=Tryz.underlying0
 a0:=Tryz.isAgg0
 z0:=Tryz.sizeOf0
 v0:=Tryz.zeroValue0
 t3:=Tryz.underlying3
 a3:=Tryz.isAgg3
 z3:=Tryz.sizeOf3
 v3:=Tryz.zeroValue3
 t4:=Tryz.underlying4
 a4:=Tryz.isAgg4
 z4:=Tryz.sizeOf4
 v4:=Tryz.zeroValue4
 t5:=Tryz.underlying5
 a5:=Tryz.isAgg5
 z5:=Tryz.sizeOf5
 v5:=Tryz.zeroValue5
 t9:=Tryz.underlying9
 a9:=Tryz.isAgg9
 z9:=Tryz.sizeOf9
 v9:=Tryz.zeroValue9
 t22:=Tryz.underlying51
 a22:=Tryz.isAgg51
 z22:=Tryz.sizeOf51
 v22:=Tryz.zeroValue51
 t23:=Tryz.underlying51
 a23:=Tryz.isAgg51
 z23:=Tryz.sizeOf51
 v23:=Tryz.zeroValue51
 t25:=Tryz.underlying3
 a25:=Tryz.isAgg3
 z25:=Tryz.sizeOf3
 v25:=Tryz.zeroValue3
 t32:=Tryz.underlying151
 a32:=Tryz.isAgg151
 z32:=Tryz.sizeOf151
 v32:=Tryz.zeroValue151
 t35:=Tryz.underlying197
 a35:=Tryz.isAgg197
 z35:=Tryz.sizeOf197
 v35:=Tryz.zeroValue197
 t36:=Tryz.underlying198
 a36:=Tryz.isAgg198
 z36:=Tryz.sizeOf198
 v36:=Tryz.zeroValue198
 t41:=Tryz.underlying179
 a41:=Tryz.isAgg179
 z41:=Tryz.sizeOf179
 v41:=Tryz.zeroValue179
 t44:=Tryz.underlying163
 a44:=Tryz.isAgg163
 z44:=Tryz.sizeOf163
 v44:=Tryz.zeroValue163
 t46:=Tryz.underlying205
 a46:=Tryz.isAgg205
 z46:=Tryz.sizeOf205
 v46:=Tryz.zeroValue205
 t53:=Tryz.underlying235
 a53:=Tryz.isAgg235
 z53:=Tryz.sizeOf235
 v53:=Tryz.zeroValue235
 t57:=Tryz.underlying239
 a57:=Tryz.isAgg239
 z57:=Tryz.sizeOf239
 v57:=Tryz.zeroValue239
 t63:=Tryz.underlying247
 a63:=Tryz.isAgg247
 z63:=Tryz.sizeOf247
 v63:=Tryz.zeroValue247
 t64:=Tryz.underlying248
 a64:=Tryz.isAgg248
 z64:=Tryz.sizeOf248
 v64:=Tryz.zeroValue248 }
end Go.Proofs
set_option maxRecDepth 10000
namespace Go.Proofs.YtgebaodagaecmaaGreatDoor
open Go Go.Hw
set_option linter.unusedSimpArgs false
set_option linter.unusedVariables false
def good (row:List Int)(p:Int × Int):Prop:=0≤p.1∧p.1<row.length∧row.getD p.1.toNat 0=p.2
def fitsL (row cols key:List Int):Prop:=cols.length=key.length∧∀ p∈cols.zip key,good row p
def lk (m:List (Int × Int))(c:Int):Option Int:=(m.find? fun p=>p.1=c).map (·.2)
def kvI (m:List (Int × Int)):List (Int × Value):=m.map fun p=>(p.1,Value.int .i64 p.2)
theorem spot_kvI (m:List (Int × Int))(c:Int):∀ i,(spot (kvI m) c i).map (·.2)=(lk m c).map (Value.int .i64):=by
 induction m with
 | nil=>intro i;rfl
 | cons q m ih=>
  intro i;rw [kvI,yC];unfold spot
  by_cases h:c=q.1
  ·rw [if_pos h,lk,List.find?_cons_of_pos (by simp [h])];rfl
  ·rw [if_neg h,lk,List.find?_cons_of_neg (by simpa using Ne.symm h)];exact ih (i+1)
theorem kvI_got (m:List (Int × Int))(c:Int):(got (kvI m) c).getD (.int .i64 0)=.int .i64 ((lk m c).getD 0):=by
 rw [got,spot_kvI];cases lk m c <;> rfl
theorem kvI_some (m:List (Int × Int))(c:Int):(got (kvI m) c).isSome=(lk m c).isSome:=by
 rw [got,spot_kvI];cases lk m c <;> rfl
theorem kvI_ups {m:List (Int × Int)}{c v:Int}(h:lk m c=none):ups (kvI m) c (.int .i64 v)=kvI (m++[(c,v)]):=by
 rw [Jkf]
 ·simp [kvI]
 ·intro q hq;obtain ⟨p,hp,rfl⟩:=List.mem_map.1 hq;intro hh;rw [lk,Option.map_eq_none_iff,List.find?_eq_none] at h;exact h p hp (by simpa using hh)
theorem lk_mem {m:List (Int × Int)}{c v:Int}(h:lk m c=some v):(c,v)∈m:=by
 obtain ⟨p,hp,rfl⟩:=Option.map_eq_some_iff.1 h;have h1:=List.mem_of_find?_eq_some hp;have h2:=List.find?_some hp;simp only [decide_eq_true_eq] at h2;rw [← h2];exact h1
theorem Jl8 {m:List (Int × Int)}(hn:(m.map (·.1)).Nodup){p:Int × Int}(h:p∈m):lk m p.1=some p.2:=by
 induction m with
 | nil=>cases h
 | cons q m ih=>
  rw [yC,List.nodup_cons] at hn;rcases List.mem_cons.1 h with rfl | h
  ·simp [lk]
  ·have hne:¬ q.1=p.1:=fun e=>hn.1 (by rw [e];exact List.mem_map.2 ⟨p,h,rfl⟩)
   rw [lk,List.find?_cons_of_neg (by simpa using hne)];exact ih hn.2 h
structure QI (width:Nat) (ps:List (Int × Int)) (m:List (Int × Int)):Prop where
 nd:(m.map (·.1)).Nodup
 ok:∀ p∈m,0≤p.1∧p.1<width
 sub:∀ p∈m,p∈ps
 fits:∀ row:List Int,(∀ p∈m,good row p)→∀ p∈ps,good row p
theorem QI.nil (width:Nat):QI width [] []:=⟨by simp,by simp,by simp,by simp⟩
theorem QI.same {width:Nat}{ps m:List (Int × Int)}{c v:Int}(h:QI width ps m)(hl:lk m c=some v):QI width (ps++[(c,v)]) m:=
 ⟨h.nd,h.ok,fun p hp=>xA _ (h.sub p hp),fun row hr p hp=>by
  rcases List.mem_append.1 hp with hp | hp
  ·exact h.fits row hr p hp
  ·simp only [xI] at hp;subst hp;exact hr _ (lk_mem hl)⟩
theorem QI.more {width:Nat}{ps m:List (Int × Int)}{c v:Int}(h:QI width ps m)(hl:lk m c=none)(h0:0≤c∧c<width):QI width (ps++[(c,v)]) (m++[(c,v)]) where
 nd:=by
  rw [xU,List.nodup_append];refine ⟨h.nd,by simp,fun a ha b hb=>?_⟩;obtain ⟨p,hp,rfl⟩:=List.mem_map.1 ha;simp only [yC,yD,xI] at hb;subst hb;rw [lk,Option.map_eq_none_iff,List.find?_eq_none] at hl;exact fun e=>hl p hp (by simpa using e)
 ok p hp:=by
  rcases List.mem_append.1 hp with hp | hp
  ·exact h.ok p hp
  ·simp only [xI] at hp;subst hp;exact h0
 sub p hp:=by
  rcases List.mem_append.1 hp with hp | hp
  ·exact xA _ (h.sub p hp)
  ·exact xB _ hp
 fits row hr p hp:=by
  rcases List.mem_append.1 hp with hp | hp
  ·exact h.fits row (fun q hq=>hr q (xA _ hq)) p hp
  ·exact hr p (xB _ hp)
theorem QI.clash {width:Nat}{ps m:List (Int × Int)}{c v n:Int}(h:QI width ps m)(hl:lk m c=some n)(hne:n≠v)(row:List Int):¬ ∀ p∈ps++[(c,v)],good row p:=by
 intro hh;have h1:=hh (c,n) (xA _ (h.sub _ (lk_mem hl)));have h2:=hh (c,v) (xB _ yH);exact hne (h1.2.2.symm.trans h2.2.2)
def srt (l:List Int):List Int:=l.mergeSort fun x y=>decide (x≤y)
structure QR (width:Nat) (cols key:List Int) (ls ks:List Int) (b:Bool):Prop where
 no:b=false→∀ row:List Int,row.length=width→¬ fitsL row cols key
 len:ks.length=ls.length
 ok:∀ c∈ls,0≤c∧c<width
 nd:ls.Nodup
 le:ls.length≤cols.length
 i64:i64s ls∧i64s ks
 yes:b=true→∀ row:List Int,row.length=width→(pickL row ls=ks↔fitsL row cols key)
theorem Jgk {a b:List Int}{i:Nat}(ha:i<a.length)(hb:i<b.length):(a.zip b).take (i+1)=(a.zip b).take i++[(a.getD i 0,b.getD i 0)]:=by
 have h:i<(a.zip b).length:=by simp;omega
 rw [List.take_add_one,xD h,List.getElem_zip];simp [ha,hb]
theorem QR.bad {width:Nat}{cols key:List Int}(h:∀ row:List Int,row.length=width→¬ fitsL row cols key):QR width cols key [] [] false:=
 ⟨fun _=>h,rfl,by simp,by simp,by simp,⟨by simp [i64s],by simp [i64s]⟩,fun hh=>by cases hh⟩
theorem fits_take {row cols key:List Int}(h:fitsL row cols key)(i:Nat):∀ p∈(cols.zip key).take i,good row p:=fun p hp=>h.2 p (List.mem_of_mem_take hp)
theorem QR.good {width:Nat}{cols key:List Int}{m:List (Int × Int)}(hl:cols.length=key.length)(hq:QI width (cols.zip key) m)(hc:i64s cols)(hk:i64s key)(hle:m.length≤cols.length):QR width cols key (srt (m.map (·.1))) ((srt (m.map (·.1))).map fun c=>(lk m c).getD 0) true:=by
 have hperm:(srt (m.map (·.1))).Perm (m.map (·.1)):=List.mergeSort_perm _ _;have hmem:∀ c,c∈srt (m.map (·.1))↔∃ p∈m,p.1=c:=fun c=>by rw [hperm.mem_iff];simp
 refine ⟨fun h=>(by cases h),by simp,fun c hc=>?_,hperm.nodup_iff.2 hq.nd,by rw [hperm.length_eq];simpa using hle,⟨fun n hn=>?_,fun n hn=>?_⟩,fun _ row hrow=>?_⟩
 ·obtain ⟨p,hp,rfl⟩:=(hmem c).1 hc;exact hq.ok p hp
 ·obtain ⟨p,hp,rfl⟩:=(hmem n).1 hn;exact hc _ (List.of_mem_zip (hq.sub p hp)).1
 ·obtain ⟨c,hcc,rfl⟩:=List.mem_map.1 hn;obtain ⟨p,hp,rfl⟩:=(hmem c).1 hcc;rw [Jl8 hq.nd hp];exact hk _ (List.of_mem_zip (hq.sub p hp)).2
 ·unfold pickL;constructor
  ·intro h;refine ⟨hl,fun p hp=>hq.fits row (fun q hqm=>?_) p hp⟩;have h1:=hq.ok q hqm;refine ⟨h1.1,by omega,?_⟩;have h2:=List.map_inj_left.1 h q.1 ((hmem q.1).2 ⟨q,hqm,rfl⟩);rw [h2,Jl8 hq.nd hqm];rfl
  ·intro h;apply List.map_congr_left;intro c hcc;obtain ⟨p,hp,rfl⟩:=(hmem c).1 hcc;have h1:=h.2 p (hq.sub p hp);rw [Jl8 hq.nd hp];exact h1.2.2
theorem _root_.Go.Hw.Sat.turned0 {w w' ws:World}{I:Nat→Prop}{A':List Hw.Item}(h:Sat w (fun _=>False) I ws A' w'):Turns [] A' w w':=
 ⟨h.fr.mono (fun _ f=>f.elim),h.it,fun i hi b hb=>⟨(h.lt i hi b hb).1,by
  rcases (h.lt i hi b hb).2.2 with hf | hf
  ·exact hf.elim
  ·exact .inr hf⟩,h.disj⟩
theorem _root_.Go.Hw.Sat.nils {w0 ws w:World}{M I:Nat→Prop}{ow:List Hw.Item}(h:Sat w0 M I ws ow w):Sat w0 M I ws [row 3 1 none 0 0 (ints []),row 3 1 none 0 0 (ints [])] w:=
 Sat.rowNil 3 1 (Sat.rowNil 3 1 (Sat.part (List.nil_sublist _) h))
theorem isSome_lk {m:List (Int × Int)}{c:Int}(h:(lk m c).isSome=true):lk m c=some ((lk m c).getD 0):=by
 cases hl:lk m c with
 | some v=>rfl
 | none=>rw [hl] at h;cases h
theorem fits_at {row cols key:List Int}{i:Nat}(hc:i<cols.length)(h:fitsL row cols key):good row (cols.getD i 0,key.getD i 0):=by
 have hk:i<key.length:=by have:=h.1;omega
 refine h.2 _ (List.mem_iff_getElem.2 ⟨i,by simp;omega,?_⟩);simp [hc,hk]
def ksOf (m:List (Int × Int)):List Int:=m.map (·.1)
theorem srt_length (l:List Int):(srt l).length=l.length:=List.length_mergeSort _
theorem question_calls (g:RelG)(ok:RelOK g)(cols key:List Int)(a1:Option Addr)(m1 c1:Nat)(a2:Option Addr)(m2 c2:Nat)(hc:i64s cols)(hk:i64s key)(hm1:m1≤1099511627776)(hm2:m2≤1099511627776)(w:World)(hr1:RI w a1 m1 cols)(hr2:RI w a2 m2 key)(hA:Holds (relA g) w):
 Calls Tryz.prog 132 #[.pointer (some ⟨g.r,0,none⟩),.slice a1 m1 c1,.slice a2 m2 c2] w fun e w'=>∃ la lc ka kc ls ks b,e=.returned (.tuple #[.slice la ls.length lc,.slice ka ks.length kc,.bool b])∧QR g.width cols key ls ks b∧Turns [] [row 3 1 la ls.length lc (ints ls),row 3 1 ka ks.length kc (ints ks)] w w':=by
 refine Jbo (args:=[.pointer (some ⟨g.r,0,none⟩),.slice a1 m1 c1,.slice a2 m2 c2]) (fun _=>False) Tryz.func132 rfl Tryz.ntmps132 rfl rfl ?_;refine Csr (Za rfl (Za rfl (Za rfl (Nn (Cs (Csr (Zm rfl (Zv (OV.ae rfl T.u51) (Zm rfl (Zv (OV.ae rfl T.u51) (Zv (OV.iu rfl rfl) (Nn ?_))))))))))));refine Cc rfl (fun c22=>?_) (fun c22=>?_)
 ·refine Csr (Za rfl (Za rfl (Za rfl (Nn (WC.az ?_)))));refine Xr ?_;exact WX.oz rfl rfl rfl rfl rfl (fun w' hw=>⟨none,0,none,0,[],[],false,rfl,QR.bad (fun rr hrow hh=>c22 (by have:=hh.1;have:=hr1.1;have:=hr2.1;omega)),(Hw.Sat.turned0 (Hw.Sat.nils hw))⟩)
 refine Ck (Xn (Csr (WL.makeMap (Value.int .i64) rfl ?_)));intro m23;refine Za rfl (Nn (Csr (Za rfl (Nn (Cs (Csr (Zm rfl (Zv (OV.ae rfl T.u51) (Zm rfl (Nn (Cb ?_)))))))))));have hml:=hr1.1;have hml2:=hr2.1
 refine WC.dd (fun (i:Nat) (m:List (Int × Int)) (la:Option Addr) (lc:Nat)=>[(0,yZ g.r),(2,.slice a2 m2 c2),(9,.map (some m23)),(10,.slice la (ksOf m).length lc),(24,.slice a1 m1 c1),(25,.int .i64 (m1:Int)),(26,.int .i64 (i:Int))])
   (fun i m la lc w'=>(i≤m1∧(ksOf m).length≤i∧QI g.width ((cols.zip key).take i) m)∧Sat w (fun _=>False) (fun b=>b<w.heap.size) w [row 3 1 la (ksOf m).length lc (ints (ksOf m)),own m23 (mapK (Value.int .i64) (kvI m))] w')
   (fun i _ _ _=>m1 - i) 0 [] none 0 Y7 (fun w' hw=>⟨⟨by omega,by simp [ksOf],by simpa using QI.nil g.width⟩,hw.rowNil 3 1⟩) ?_
 intro i m la lc;refine WC.pure (fun hi=>?_);obtain ⟨hi,hmi,hq⟩:=hi;refine Csr (Zv (OV.cq rfl rfl) (Nn (Cs ?_)));refine Cc rfl (fun c27=>?_) (fun c27=>?_)
 ·refine Ck (Xn (Cs (Cb (Csr (Zm rfl ?_)))));have hil:i<cols.length:=by have:=hr1.1;omega
  have hik:i<key.length:=by have:=hr2.1;have:=hr1.1;omega
  obtain ⟨q1,rfl⟩:∃ q,a1=some q:=by
   cases a1 with
   | none=>have:=hr1.2.1 rfl;omega
   | some q=>exact ⟨q,rfl⟩
  obtain ⟨q2,rfl⟩:∃ q,a2=some q:=by
   cases a2 with
   | none=>have:=hr2.2.1 rfl;omega
   | some q=>exact ⟨q,rfl⟩
  refine Zv (OV.cd (i:=i) rfl rfl T.u51 T.z3 (by omega)) (Zv (OV.ah (v:=.int .i64 (cols.getD i 0)) rfl T.u3 rfl (fun _ hw=>(hr1.sat hw).cell hil)) (Za rfl (Za rfl (Nn (Cs (Csr (Zm rfl (Zv (OV.cq rfl rfl) (Zm rfl ?_)))))))));refine Zp (t:=33) rfl (fun g33=>?_) (fun g33=>?_)
  ·refine yX (yX (yX (yX (yX (yX (Zv (OV.am rfl rfl) (Nn (WC.co rfl ?_))))))));refine Csr (Za rfl (Za rfl (Za rfl (Nn (WC.az ?_)))));refine Xr (Xq (Xr (Xr (Xq (Xr ?_)))));exact WX.oz rfl rfl rfl rfl rfl (fun w' hw=>⟨none,0,none,0,[],[],false,rfl,QR.bad (fun rr hrow hh=>absurd (fits_at hil hh).1 (by omega)),(Hw.Sat.turned0 (Hw.Sat.nils hw))⟩)
  refine yY (Zm rfl (yY (Zm rfl (yY (Zv (OV.ak rfl) (yY (Zv (OV.f0 0 rfl T.u169 rfl) (yY (Zv (OV.ah (v:=.int .i64 (g.width:Int)) rfl T.u3 rfl (fun _ hw=>snapL hw (Jax (relA_hd hA) (o:=0) rfl).1)) (yY (Zv (OV.jy rfl rfl) (Zv (OV.aj rfl rfl) (Nn ?_)))))))))))));refine Cc rfl (fun c40=>?_) (fun c40=>?_)
  ·refine Csr (Za rfl (Za rfl (Za rfl (Nn (WC.az ?_)))));refine Xr (Xq (Xr (Xr (Xq (Xr ?_)))));exact WX.oz rfl rfl rfl rfl rfl (fun w' hw=>⟨none,0,none,0,[],[],false,rfl,QR.bad (fun rr hrow hh=>absurd (fits_at hil hh).2.1 (by omega)),(Hw.Sat.turned0 (Hw.Sat.nils hw))⟩)
  refine Ck (Xn (Csr (Zm rfl (Zm rfl (Zv ((OV.f3 (enc:=Value.int .i64) (kv:=kvI m) (a:=cols.getD i 0) (KeyLaw.int T.u3) T.u81 (by kernel_rfl) rfl rfl (fun _ hw=>Je7 yI _ hw)).cast (by rw [kvI_got,kvI_some])) (Zm rfl (Zv (OV.extract rfl rfl) (Zv (OV.extract rfl rfl) (Za rfl (Za rfl (Nn (Cs (Csr (Zm rfl (Zm rfl ?_)))))))))))))));refine Zp (t:=48) rfl (fun g48=>?_) (fun g48=>?_)
  ·refine yY (Zm rfl (yY (Zm rfl (yY (Zm rfl (yY (Zv (OV.cd (i:=i) rfl rfl T.u51 T.z3 (by omega)) (yY (Zv (OV.ah (v:=.int .i64 (key.getD i 0)) rfl T.u3 rfl (fun _ hw=>(hr2.sat hw).cell hik)) (yY (Zv (OV.iu rfl rfl) (Zv (OV.am rfl rfl) (Nn ?_)))))))))))));refine Cc rfl (fun c55=>?_) (fun c55=>?_)
   ·refine Csr (Za rfl (Za rfl (Za rfl (Nn (WC.az ?_)))));refine Xr (Xq (Xr (Xr (Xq (Xr ?_)))));have hl1:=isSome_lk g48;exact WX.oz rfl rfl rfl rfl rfl (fun w' hw=>⟨none,0,none,0,[],[],false,rfl,QR.bad (fun rr hrow hh=>hq.clash (v:=key.getD i 0) hl1 (by simpa using c55) rr (by rw [← Jgk hil hik];exact fits_take hh (i+1))),(Hw.Sat.turned0 (Hw.Sat.nils hw))⟩)
   refine Ck (Xn (Cs ?_))
   skip
   refine Cr (Zm rfl (Zv (OV.not rfl) (Nn (WC.bu (show _=some (Value.bool false) from by rw [g48];rfl) ?_))));refine Ck (Xb (Xn (Cr (Zv (OV.fp rfl rfl (by omega)) (Zm rfl (Nl ?_))))));have hl1:=isSome_lk g48;have hv:(lk m (cols.getD i 0)).getD 0=key.getD i 0:=by simpa using c55
   rw [hv] at hl1;exact WX.cg (i+1) m la lc Y7 (fun w' hw=>⟨⟨by omega,by omega,by rw [Jgk hil hik];exact hq.same hl1⟩,hw⟩) (by show m1 - (i+1)<m1 - i;omega)
  refine yX (yX (yX (yX (yX (yX (Zv (OV.aj rfl rfl) (Nn (WC.bu rfl ?_))))))));refine Ck (Xn (Cs ?_));have hln:lk m (cols.getD i 0)=none:=by simpa using g48
  refine Cr (Zm rfl (Zv (OV.not rfl) (Nn (WC.co (show _=some (Value.bool true) from by rw [g48];rfl) ?_))));refine Csr (Zm rfl (Zm rfl (Zm rfl (Zm rfl (Zv (OV.cd (i:=i) rfl rfl T.u51 T.z3 (by omega)) (Zv (OV.ah (v:=.int .i64 (key.getD i 0)) rfl T.u3 rfl (fun _ hw=>(hr2.sat hw).cell hik)) ?_))))));refine WL.focus perm1 (WL.mapUpdate (enc:=Value.int .i64) (kv:=kvI m) (a:=cols.getD i 0) (KeyLaw.int T.u3) T.u81 rfl rfl rfl ?_);rw [kvI_ups hln];refine Nn (Cr (Zm rfl (Zm rfl (WL.br T.u51 T.z3 T.zr3 rfl rfl rfl ?_))));intro b66;refine WL.focus perm2 (WL.append (news:=ints [cols.getD i 0]) rfl rfl T.apI (fun _ _=>Jeg yI rfl) (Jes _) ⟨by omega,by unfold maxLen;omega⟩ rfl ?_);intro a67 c67;refine Za rfl (Nl (Xb (Xn (Cr (Zv (OV.fp rfl rfl (by omega)) (Zm rfl (Nl ?_)))))));have hk1:(ksOf m).length+1=(ksOf (m++[(cols.getD i 0,key.getD i 0)])).length:=by simp [ksOf]
  have hk2:ints (ksOf m)++ints [cols.getD i 0]=ints (ksOf (m++[(cols.getD i 0,key.getD i 0)])):=by simp [ksOf,ints]
  exact WX.cg (i+1) (m++[(cols.getD i 0,key.getD i 0)]) a67 c67 ⟨rfl,rfl,rfl,by rw [← hk1];rfl,rfl,rfl,rfl,trivial⟩ (fun w' hw=>⟨⟨by omega,by omega,by rw [Jgk hil hik];exact hq.more hln ⟨by omega,by omega⟩⟩,by
   rw [← hk1,← hk2];exact (hw.perm perm1).drop⟩) (by show m1 - (i+1)<m1 - i;omega)
 refine Ce (Xe (Xe (Xh (Xn (Csr (Zm rfl (WL.fo (ι:=Unit) (vv:=fun _=>.tuple #[]) (pp:=fun _=>True) (jj:=fun _=>row 3 1 la (ksOf m).length lc (ints (srt (ksOf m)))) (by kernel_rfl) rfl rfl (fun w' hw' hH=>(sortInts_calls Tryz.sortI la (ksOf m) w' hH (by omega)).mono (fun e w'' ⟨h1,h2⟩=>⟨(),h1,trivial,h2⟩)) ?_)))))));rintro _ _;rw [← srt_length (ksOf m)];refine Nn (Csr (Za rfl (Nn (Cs (Csr (Zm rfl (Zv (OV.ae rfl T.u51) (Zm rfl (Nn (Cb ?_))))))))));have hmm:i=cols.length:=by omega
 subst hmm;have hll:(srt (ksOf m)).length=(ksOf m).length:=srt_length _;obtain ⟨ls,hls⟩:∃ ls,ls=srt (ksOf m):=⟨_,rfl⟩
 rw [← hls] at hll ⊢;refine WC.weak (S':=fun w'=>(la=none→ls.length=0)∧Sat w (fun _=>False) (fun b=>b<w.heap.size) w [row 3 1 la ls.length lc (ints ls),own m23 (mapK (Value.int .i64) (kvI m))] w') (fun w' hw=>⟨(RI.of_row hw yH).2.1,hw⟩) ?_;refine WC.pure (fun hla=>?_)
 refine WC.ic (fun (j:Nat) (ka:Option Addr) (kc:Nat)=>[(9,.map (some m23)),(10,.slice la ls.length lc),(15,.slice ka j kc),(71,.slice la ls.length lc),(72,.int .i64 (ls.length:Int)),(73,.int .i64 (j:Int))])
   (fun j ka kc w'=>j≤ls.length∧Sat w (fun _=>False) (fun b=>b<w.heap.size) w [row 3 1 ka j kc (ints ((ls.take j).map fun c=>(lk m c).getD 0)),row 3 1 la ls.length lc (ints ls),own m23 (mapK (Value.int .i64) (kvI m))] w')
   (fun j _ _=>ls.length - j) 0 none 0 Y6 (fun w' hw=>⟨by omega,hw.rowNil 3 1⟩) ?_
 intro j ka kc;refine WC.pure (fun hj=>?_);refine Csr (Zv (OV.cq rfl rfl) (Nn (Cs ?_)));refine Cc rfl (fun c74=>?_) (fun c74=>?_)
 ·refine Ck (Xn (Cs (Cb (Csr ?_))));have hjl:j<ls.length:=by omega
  obtain ⟨q3,rfl⟩:∃ q,la=some q:=by
   cases la with
   | none=>exact absurd (hla rfl) (by omega)
   | some q=>exact ⟨q,rfl⟩
  refine Zv (OV.cd (i:=j) rfl rfl T.u51 T.z3 (by omega)) (Zv (OV.ah (v:=.int .i64 (ls.getD j 0)) rfl T.u3 rfl (fun _ hw=>(RI.of_row hw yI).cell hjl)) (Za rfl (Nn (Cr (Zm rfl (Zm rfl (Zm rfl (Zv ((OV.lookup (enc:=Value.int .i64) (kv:=kvI m) (a:=ls.getD j 0) (KeyLaw.int T.u3) T.u81 (by kernel_rfl) rfl rfl (fun _ hw=>Je7 yJ _ hw)).cast (kvI_got m _)) (WL.br T.u51 T.z3 T.zr3 rfl rfl rfl ?_)))))))));intro b81;refine WL.focus perm1 (WL.append (news:=ints [((lk m (ls.getD j 0)).getD 0)]) rfl rfl T.apI (fun _ _=>Jeg yI rfl) (Jes _) ⟨by omega,by unfold maxLen;omega⟩ rfl ?_);intro a82 c82;refine Za rfl (Nl (Xb (Xn (Cr (Zv (OV.fp rfl rfl (by omega)) (Zm rfl (Nl ?_)))))));have e:((ls.take j).map fun c=>(lk m c).getD 0)++[((lk m (ls.getD j 0)).getD 0)]=(ls.take (j+1)).map fun c=>(lk m c).getD 0:=by rw [Jj4 hjl,xU,List.map_singleton]
  exact WX.eo (j+1) a82 c82 Y6 (fun w' hw=>⟨by omega,by
   rw [← e,ints_append];exact (hw.perm perm1).drop⟩) (by show ls.length - (j+1)<ls.length - j;omega)
 refine Ce (Xe (Xe (Xh (Xn (Csr (Zm rfl (Zm rfl (Za rfl (Za rfl (Za rfl (Nn (WC.az ?_))))))))))));have hjl:j=ls.length:=by omega
 subst hjl;rw [List.take_length];have hcl:cols.length=key.length:=by omega
 have hqq:QI g.width (cols.zip key) m:=by rwa [xK (by rw [List.length_zip];exact Nat.min_le_left _ _)] at hq
 refine WX.oz rfl rfl rfl rfl rfl (fun w' hw=>⟨la,lc,ka,kc,ls,ls.map fun c=>(lk m c).getD 0,true,by rw [xE],?_,?_⟩)
 ·rw [hls];exact QR.good hcl hqq hc hk (by simpa [ksOf] using hmi)
 ·show Turns [] [row 3 1 la ls.length lc (ints ls),row 3 1 ka (ls.map fun c=>(lk m c).getD 0).length kc (ints (ls.map fun c=>(lk m c).getD 0))] w w';rw [xE];exact Hw.Sat.turned0 ((Hw.Sat.part (List.Sublist.cons_cons _ (List.Sublist.cons_cons _ (List.nil_sublist _))) hw).perm (List.Perm.swap _ _ _))
theorem rowsM_get {es:List Ent}{i:Nat}{q:ByteArray × Value}(h:(rowsM es)[i]?=some q):∃ e,es[i]?=some e∧q=(keyB e.row,ptr e.p):=by
 simp only [rowsM,xG] at h;obtain ⟨x,h1,h2⟩:=Option.map_eq_some_iff.1 h;exact ⟨x,h1,h2.symm⟩
theorem rowsM_length (es:List Ent):(rowsM es).length=es.length:=by simp [rowsM]
theorem spot_ix {ix:List Idx}{l:List Int}:∀ i,(spot (ixM ix) (keyB l) i).map (·.2)=(ix.find? fun x=>x.col.l=l).map fun x=>ptr x.p:=by
 induction ix with
 | nil=>intro i;rfl
 | cons x ix ih=>
  intro i;rw [ixM,yC];unfold spot
  by_cases h:x.col.l=l
  ·rw [if_pos (by rw [h])];simp [h]
  ·rw [if_neg (fun h2=>h (Jky h2).symm)];rw [List.find?_cons_of_neg (by simpa using h)];exact ih (i+1)
theorem ixM_got (ix:List Idx)(l:List Int):(got (ixM ix) (keyB l)).getD (.pointer none)=.pointer ((ix.find? fun x=>x.col.l=l).map fun x=>⟨x.p,0,none⟩):=by
 rw [got,spot_ix];cases ix.find? fun x=>x.col.l=l <;> rfl
theorem ixM_snoc {ix:List Idx}{x:Idx}(h:∀ y∈ix,y.col.l≠x.col.l):ups (ixM ix) (keyB x.col.l) (ptr x.p)=ixM (ix++[x]):=by
 rw [Jkf]
 ·simp [ixM]
 ·intro q hq;obtain ⟨y,hy,rfl⟩:=List.mem_map.1 hq;exact fun hh=>h y hy (Jky hh)
structure Vis (es:List Ent) (col:Col) (vis:List Nat) (V:List Ent) (gs:List Grp):Prop where
 nd:vis.Nodup
 at_:vis.map (fun i=>es[i]?)=V.map some
 keys:(gs.map (·.k)).Nodup
 ps:∀ k,psOf gs k=(V.filter fun e=>ixKey col e=k).map (·.p)
theorem Vis.start (es:List Ent)(col:Col):Vis es col [] [] []:=⟨by simp,by simp,by simp,fun k=>rfl⟩
theorem Vis.step {es:List Ent}{col:Col}{vis:List Nat}{V:List Ent}{gs:List Grp}(h:Vis es col vis V gs){i:Nat}{e:Ent}(hi:es[i]?=some e)(hv:i∉vis)(a:Option Addr)(c:Nat):Vis es col (vis++[i]) (V++[e]) (gadd gs (ixKey col e) e.p a c):=by
 refine ⟨?_,by simp [h.at_,hi],gadd_nodup _ _ _ _ h.keys,fun k=>?_⟩
 ·rw [List.nodup_append];exact ⟨h.nd,by simp,fun a ha b hb=>by simp only [xI] at hb;subst hb;exact fun e=>hv (e ▸ ha)⟩
 ·rw [psOf_gadd,h.ps,List.filter_append,xU];congr 1
  by_cases hk:ixKey col e=k
  ·simp [hk]
  ·simp [hk,Ne.symm hk]
theorem Vis.len {es:List Ent}{col:Col}{vis:List Nat}{V:List Ent}{gs:List Grp}(h:Vis es col vis V gs)(k:ByteArray):(psOf gs k).length≤es.length:=by
 have h1:vis.length≤(List.range es.length).length:=by
  refine List.Nodup.length_le_of_subset h.nd (fun i hi=>?_);rw [List.mem_range];have h2:es[i]?∈V.map some:=by rw [← h.at_];exact List.mem_map.2 ⟨i,hi,rfl⟩
  obtain ⟨x,_,hx⟩:=List.mem_map.1 h2;exact (List.getElem?_eq_some_iff.1 hx.symm).1
 have h2:V.length=vis.length:=by have:=congrArg List.length h.at_;simpa using this.symm
 have h3:=List.length_filter_le (fun e=>decide (ixKey col e=k)) V;rw [h.ps,xE];rw [List.length_range] at h1;omega
theorem Vis.all {es:List Ent}{col:Col}{vis:List Nat}{V:List Ent}{gs:List Grp}(h:Vis es col vis V gs)(ha:∀ i,i<es.length→i∈vis):V.Perm es:=by
 have h1:vis.Perm (List.range es.length):=by
  rw [List.perm_ext_iff_of_nodup h.nd List.nodup_range];intro i;rw [List.mem_range];refine ⟨fun hi=>?_,ha i⟩;have h2:es[i]?∈V.map some:=by rw [← h.at_];exact List.mem_map.2 ⟨i,hi,rfl⟩
  obtain ⟨x,_,hx⟩:=List.mem_map.1 h2;exact (List.getElem?_eq_some_iff.1 hx.symm).1
 have h2:=h1.map fun i=>es[i]?
 rw [h.at_] at h2
 have h3:(List.range es.length).map (fun i=>es[i]?)=es.map some:=by
  apply List.ext_getElem?;intro i
  by_cases hi:i<es.length
  ·simp [hi]
  ·rw [xV (by simp;omega),xV (by simp;omega)]
 rw [h3] at h2;have h4:=h2.filterMap id
 simpa [List.filterMap_map] using h4
theorem Vis.ok {es:List Ent}{col:Col}{vis:List Nat}{V:List Ent}{gs:List Grp}(h:Vis es col vis V gs)(ha:∀ i,i<es.length→i∈vis)(p mb:Nat):IdxOK es ⟨p,mb,col,gs⟩:=
 ⟨h.keys,fun k=>by rw [show psOf gs k=_ from h.ps k];exact ((h.all ha).filter _).map _⟩
def ixG (g:RelG)(x:Idx):RelG:={ g with ix:=g.ix++[x] }
theorem ixG_ok {g:RelG}(ok:RelOK g){x:Idx}(hc:x.col∈g.cols)(hx:IdxOK g.es x)(hn:∀ y∈g.ix,y.col.l≠x.col.l):RelOK (ixG g x) where
 wid:=ok.wid
 i64:=ok.i64
 part:=ok.part
 rows:=ok.rows
 ptrs:=ok.ptrs
 fs:=ok.fs
 ns:=ok.ns
 cols:=ok.cols
 ixc y hy:=by
  rcases List.mem_append.1 hy with h | h
  ·exact ok.ixc y h
  ·simp only [xI] at h;subst h;exact hc
 ixk:=by
  show ((g.ix++[x]).map fun x=>x.col.l).Nodup;rw [xU,List.nodup_append];refine ⟨ok.ixk,by simp,fun a ha b hb=>?_⟩;obtain ⟨y,hy,rfl⟩:=List.mem_map.1 ha;simp only [yC,yD,xI] at hb;subst hb;exact hn y hy
 ix y hy:=by
  rcases List.mem_append.1 hy with h | h
  ·exact ok.ix y h
  ·simp only [xI] at h;subst h;exact hx
 coll:=ok.coll
 wl:=ok.wl
 rl:=ok.rl
 el:=ok.el
theorem ixG_le (g:RelG)(x:Idx):RelLe g (ixG g x):=⟨rfl,rfl,fun e he=>⟨e,he,rfl,rfl,rfl,rfl⟩,fun _ h=>h⟩
theorem tail_new {X:List Hw.Item}{es:List Ent}{cols:List Col}{ix:List Idx}{x:Idx}:(X++tailA es cols (ix++[x])).Perm (idxA x++(X++tailA es cols ix)):=by
 have h:=Jm7 es cols ix [] x;rw [xZ] at h;exact (List.Perm.append_left X h.symm).trans Jmj
theorem perm_deep2 {X:List Hw.Item}{e1 e2:List Ent}{e:Ent}{k1 k2:List Col}{c:Col}{m1 m2:List Idx}{x:Idx}:
  ((idxA x++(entA e++colA c))++(X++tailA (e1++e2) (k1++k2) (m1++m2))).Perm (X++tailA (e1++e::e2) (k1++c::k2) (m1++x::m2)):=by
 have h1:(idxA x++(entA e++(colA c++tailA (e1++e2) (k1++k2) (m1++m2)))).Perm (tailA (e1++e::e2) (k1++c::k2) (m1++x::m2)):=by
  refine List.Perm.trans ?_ (Jm7 _ _ m1 m2 x);refine List.Perm.append_left _ ?_;refine List.Perm.trans (List.Perm.append_left _ ?_) (Jm8 e1 e2 e _ _);exact Jm9 _ k1 k2 c _
 refine List.Perm.trans ?_ (List.Perm.append_left _ h1);have e2:idxA x++(entA e++(colA c++tailA (e1++e2) (k1++k2) (m1++m2)))=(idxA x++(entA e++colA c))++tailA (e1++e2) (k1++k2) (m1++m2):=by simp
 rw [e2];exact Jmj
theorem perm_deep3 {X:List Hw.Item}{es e1 e2:List Ent}{e:Ent}{cols k1 k2:List Col}{c:Col}{m1 m2:List Idx}{x:Idx}(he:es=e1++e::e2)(hk:cols=k1++c::k2):
  ((idxA x++(entA e++colA c))++(X++tailA (e1++e2) (k1++k2) (m1++m2))).Perm (X++tailA es cols (m1++x::m2)):=by
 subst he hk;exact perm_deep2
theorem col_i64 {g:RelG}(ok:RelOK g){c:Col}(h:c∈g.cols):i64s c.l:=fun n hn=>by
 have h1:=ok.cols c h n hn;have h2:=ok.wl;constructor <;> omega
theorem Jou {g:RelG}(ok:RelOK g){c:Col}(h:c∈g.cols):c.l.length≤1099511627776:=ok.coll c h
theorem index_calls (g:RelG)(ok:RelOK g)(col:Col)(hcol:col∈g.cols)(w:World)(hA:Holds (relA g) w):
 Calls Tryz.prog 134 #[ptr g.r,.slice col.a col.l.length col.c] w fun e w'=>∃ g' x,e=.returned (ptr x.p)∧x∈g'.ix∧x.col.l=col.l∧RelOK g'∧RelLe g g'∧g'.es=g.es∧g'.cols=g.cols∧Turns (relA g) (relA g') w w':=by
 refine Jdt hA (args:=[ptr g.r,.slice col.a col.l.length col.c]) Tryz.func134 rfl Tryz.ntmps134 rfl rfl ?_;refine Csr (Za rfl (Nn (Csr (Zm rfl (Zv (OV.ak rfl) (Zv (OV.f0 13 rfl T.u169 rfl) (WL.fo (ι:=Unit) (vv:=fun _=>.tuple #[]) (pp:=fun _=>True) (jj:=fun _=>hdA g.r ((hdC g.width g.mb (fslice g) (nslice g) (counts g.es) g.ib).set 13 (.int .i32 1))) (by kernel_rfl) rfl rfl (fun w' hw' hH=>(lock_calls 169 g.r 13 (hdC g.width g.mb (fslice g) (nslice g) (counts g.es) g.ib) (Jor (Jbz _)) w' hH).mono (fun e w' ⟨h1,h2⟩=>⟨(),h1,trivial,h2⟩)) ?_)))))));rintro _ _;refine Nn (Csr (Zm rfl (Zv (OV.ak rfl) (Zv (OV.f0 13 rfl T.u169 rfl) (WL.defer rfl rfl ?_)))));refine Nn (Csr (Zm rfl (WL.au (by kernel_rfl) rfl rfl (fun w' hw=>Jj9 col.l col.a col.l.length col.c (col_i64 ok hcol) (Jou ok hcol) w' (RI.of_row hw (yV (.tail _ (yV (.tail _ (yV (mem_col hcol)))))))) ?_)));refine Za rfl (Nn (Csr (Zm rfl (Zv (OV.ak rfl) (Zv (OV.f0 12 rfl T.u169 rfl) ?_)))));refine WL.val (OV.ah (v:=.map (some g.ib)) rfl T.u160 rfl (fun _ hw=>Jbn hw yH (by rw [List.getElem?_toArray,List.getElem?_set_ne (by decide)];exact Jpj (Jbz _)))) rfl ?_;refine Zm rfl (Zv ((OV.lookup (KeyLaw.str T.u9) T.u160 (by kernel_rfl) rfl rfl (fun _ hw=>Je7 yJ _ hw)).cast (ixM_got g.ix col.l)) (Za rfl (Nn (Cs (Csr (Zm rfl (Zv (OV.lp T.u208 rfl rfl) (Nn ?_))))))));refine Cc rfl (fun c25=>?_) (fun c25=>?_)
 ·refine Csr (Zm rfl (WL.makeMap (Value.string) rfl ?_));intro m27;refine Zv (OV.ao (xs:=[(0,.tmp 26),(1,.tmp 27)]) (pl:=[(0,1),(1,1)]) (cs:=[.slice col.a col.l.length col.c,.map (some m27)]) T.u215 T.zr215 (by kernel_rfl) rfl (Jal (us:=[_]) rfl rfl (by first | decide | simp) (Jal (us:=[_]) rfl rfl (by first | decide | simp) rfl))) (WL.box rfl rfl rfl ?_);intro b29;refine Za rfl (Nn (Cs (Csr (Zm rfl (Zv (OV.ak rfl) (Zv (OV.f0 1 rfl T.u169 rfl) (Zv (OV.ah (v:=.map (some g.mb)) rfl T.u157 rfl (fun _ hw=>Jbn hw yJ rfl)) (WL.range T.u157 rfl (fun _ hw=>Je7 (kv:=rowsM g.es) yK _ hw) rfl ?_))))))));intro it34;refine Nn (Cb ?_)
  refine WC.ic (fun (gs:List Grp) (vis:List Nat) (V:List Ent)=>[(0,ptr g.r),(5,.string (keyB col.l)),(6,ptr b29),(34,yZ it34)])
    (fun gs vis V w'=>Vis g.es col vis V gs∧SatA w (relA g) ([own it34 (iterK g.mb (rowsM g.es).length vis),hdA g.r ((hdC g.width g.mb (fslice g) (nslice g) (counts g.es) g.ib).set 13 (.int .i32 1)),own g.mb (mapK Value.string (rowsM g.es)),own g.ib (mapK Value.string (ixM g.ix)),psA g.fa g.fc g.fs,psA g.na g.nc g.ns]++tailA g.es g.cols (g.ix++[(Idx.mk b29 m27 col gs)])) w')
    (fun _ vis _=>unseen (rowsM g.es).length vis) [] [] [] Y4 (fun w' hw=>⟨Vis.start _ _,?_⟩) ?_
  ·exact hw.perm (List.Perm.cons _ (tail_new (X:=[_,_,_,_,_]) (x:=Idx.mk b29 m27 col [])))
  intro gs vis V;refine WC.pure (fun hvis=>?_);refine Csr ?_;refine WL.next (enc:=Value.string) (kv:=rowsM g.es) rfl rfl (fun _ hw=>Je7 yJ _ hw) ?_ ?_
  ·intro hall;refine Zv (OV.extract rfl rfl) (Nn (Cs (WC.bu rfl ?_)));refine Ce (Xe (Xe (Xh (Xn (Cr (Zm rfl (Zv (OV.ak rfl) (Zv (OV.f0 12 rfl T.u169 rfl) ?_))))))));refine WL.val (OV.ah (v:=.map (some g.ib)) rfl T.u160 rfl (fun _ hw=>Jbn hw yI (by rw [List.getElem?_toArray,List.getElem?_set_ne (by decide)];exact Jpj (Jbz _)))) rfl ?_;refine Zm rfl (Zm rfl ?_)
   have hnew:∀ y∈g.ix,y.col.l≠col.l:=by
    intro y hy hh;have:(g.ix.find? fun x=>x.col.l=col.l)=none:=by simpa using c25
    rw [List.find?_eq_none] at this;exact this y hy (by simpa using hh)
   refine WL.focus perm3 (WL.mapUpdate (enc:=Value.string) (kv:=ixM g.ix) (a:=keyB col.l) (v:=ptr b29) (KeyLaw.str T.u9) T.u160 rfl rfl rfl ?_);rw [ixM_snoc (x:=(Idx.mk b29 m27 col gs)) hnew];refine Nn (Csr (Zm rfl (Za rfl (Nn (WC.az ?_)))));rw [rowsM_length] at hall;refine WX.mz rfl (WR.focus perm2 (WR.fn1 (by kernel_rfl) (fun w' hw hH=>unlock_calls 169 g.r 13 ((hdC g.width g.mb (fslice g) (nslice g) (counts g.es) g.ib).set 13 (.int .i32 1)) (Joj (Jor (Jbz _))) w' hH) ?_));rw [List.set_set,set_same (Jor (Jbz _))];refine WR.ret1 rfl rfl (fun w' hw=>⟨ixG g (Idx.mk b29 m27 col gs),(Idx.mk b29 m27 col gs),rfl,xB _ yH,rfl,ixG_ok ok hcol (hvis.ok hall _ _) hnew,ixG_le _ _,rfl,rfl,?_⟩);exact ((hw.perm ((List.Perm.cons _ (List.Perm.cons _ (List.Perm.swap _ _ _))).trans perm2)).drop (i:=own it34 (iterK g.mb (rowsM g.es).length vis))).turned
  intro i q hi2 hv;obtain ⟨e,hie,rfl⟩:=rowsM_get hi2;have he:=xC hie;obtain ⟨e1,e2,he12⟩:=Jj5 he;obtain ⟨k1,k2,hk12⟩:=Jj5 hcol;have hwe:=ok.wid e he;have hel:e.row.length≤1099511627776:=ok.rl e he;have hcw:∀ k∈col.l,0≤k∧k<(e.row.length:Int):=fun k hkk=>by have:=ok.cols _ hcol k hkk;omega
  refine Zv (OV.extract rfl rfl) (Nn (Cs (WC.co rfl ?_)));refine Ck (Xn (Cb (Csr (Zv (OV.entry (enc:=Value.string) (kv:=rowsM g.es) (i:=i) rfl (fun _ hw=>hw.it _ yH) (fun _ hw=>Je7 yJ _ hw) hi2) (Zv (OV.extract rfl rfl) (Za rfl (Nn (Cr (Zm rfl (Zm rfl ?_))))))))));refine WL.focus (ow':=(idxA (Idx.mk b29 m27 col gs)++(entA e++colA col))++([own it34 (iterK g.mb (rowsM g.es).length (vis++[i])),hdA g.r ((hdC g.width g.mb (fslice g) (nslice g) (counts g.es) g.ib).set 13 (.int .i32 1)),own g.mb (mapK Value.string (rowsM g.es)),own g.ib (mapK Value.string (ixM g.ix)),psA g.fa g.fc g.fs,psA g.na g.nc g.ns]++tailA (e1++e2) (k1++k2) (g.ix++[]))) (perm_deep3 he12 hk12) (WL.dl (ι:=Option Addr × Nat) (vv:=fun _=>.tuple #[]) (pp:=fun _=>True) (idxA (Idx.mk b29 m27 col gs)++(entA e++colA col)) (AA:=fun q=>idxA (Idx.mk b29 m27 col (gadd gs (ixKey col e) e.p q.1 q.2))++(entA e++colA col)) rfl (by kernel_rfl) rfl rfl (fun w'' hw'' hH=>(idxAdd_calls (Idx.mk b29 m27 col gs) e hcw (ok.i64 e he) hel (Jou ok hcol) (Nat.le_trans (hvis.len _) ok.el) w'' hH).mono (fun en w3 ⟨q1,a',c',q2⟩=>⟨(a',c'),q1,trivial,q2⟩)) ?_);rintro ⟨a41,c41⟩ _;refine Nl (Xb ?_);exact WX.eo (gadd gs (ixKey col e) e.p a41 c41) (vis++[i]) (V++[e]) Y4 (fun w' hw=>⟨hvis.step hie hv a41 c41,hw.perm (perm_deep3 he12 hk12).symm⟩) (Ji8 (List.getElem?_eq_some_iff.1 hi2).1 hv)
 refine Ck (Xn (Csr (Zm rfl (Za rfl (Nn (WC.az ?_))))))
 obtain ⟨x,hf⟩:∃ x,(g.ix.find? fun x=>x.col.l=col.l)=some x:=by
  cases h:g.ix.find? fun x=>x.col.l=col.l with
  | none=>rw [h] at c25;simp at c25
  | some e=>exact ⟨e,rfl⟩
 have hxm:=List.mem_of_find?_eq_some hf;have hxl:x.col.l=col.l:=by simpa using List.find?_some hf
 simp only [hf,Option.map_some];refine WX.mz rfl (WR.fn1 (by kernel_rfl) (fun w' hw hH=>unlock_calls 169 g.r 13 ((hdC g.width g.mb (fslice g) (nslice g) (counts g.es) g.ib).set 13 (.int .i32 1)) (Joj (Jor (Jbz _))) w' hH) ?_);rw [List.set_set,set_same (Jor (Jbz _))];exact WR.ret1 rfl rfl (fun w' hw=>⟨g,x,rfl,hxm,hxl,ok,RelLe.refl g,rfl,rfl,hw.turned⟩)
structure FB where
 bO:Nat
 bR:Nat
 bL:Nat
 bK:Nat
 bP:Nat
 r:Nat
 parts:Int
 la:Option Addr
 lc:Nat
 ls:List Int
 ka:Option Addr
 kc:Nat
 ks:List Int
 b:Bool
def FB.col (F:FB):Col:=⟨F.la,F.lc,F.ls⟩
abbrev box1 (b:Nat)(T:TypeId)(v:Value):Hw.Item:=oQ b [v] T
def boxA (F:FB):List Hw.Item:=[box1 F.bO 4 (.bool F.b),box1 F.bR 108 (ptr F.r),box1 F.bL 51 (.slice F.la F.ls.length F.lc),box1 F.bK 51 (.slice F.ka F.ks.length F.kc),box1 F.bP 3 (.int .i64 F.parts),row 3 1 F.ka F.ks.length F.kc (ints F.ks)]
def FB.caps (F:FB):List Value:=[ptr F.bO,ptr F.bR,ptr F.bL,ptr F.bK,ptr F.bP]
def FB.fn (F:FB):Value:=.func (.func 133) #[] F.caps.toArray
def colG (g:RelG)(c:Col):RelG:={ g with cols:=g.cols++[c] }
theorem colG_ok {g:RelG}(ok:RelOK g){c:Col}(h1:∀ k∈c.l,0≤k∧k<g.width)(h2:c.l.length≤1099511627776):RelOK (colG g c) where
 wid:=ok.wid
 i64:=ok.i64
 part:=ok.part
 rows:=ok.rows
 ptrs:=ok.ptrs
 fs:=ok.fs
 ns:=ok.ns
 cols x hx:=by
  rcases List.mem_append.1 hx with h | h
  ·exact ok.cols x h
  ·simp only [xI] at h;subst h;exact h1
 ixc x hx:=xA _ (ok.ixc x hx)
 ixk:=ok.ixk
 ix:=ok.ix
 coll x hx:=by
  rcases List.mem_append.1 hx with h | h
  ·exact ok.coll x h
  ·simp only [xI] at h;subst h;exact h2
 wl:=ok.wl
 rl:=ok.rl
 el:=ok.el
theorem colG_le (g:RelG)(c:Col):RelLe g (colG g c):=⟨rfl,rfl,fun e he=>⟨e,he,rfl,rfl,rfl,rfl⟩,fun _ h=>xA _ h⟩
theorem relA_col (g:RelG)(c:Col):(relA (colG g c)).Perm (row 3 1 c.a c.l.length c.c (ints c.l)::relA g):=by
 have h:=Jm9 g.es g.cols [] c g.ix;rw [xZ] at h;have h2:=(List.Perm.append_left [hdA g.r (hdC g.width g.mb (fslice g) (nslice g) (counts g.es) g.ib),own g.mb (mapK Value.string (rowsM g.es)),own g.ib (mapK Value.string (ixM g.ix)),psA g.fa g.fc g.fs,psA g.na g.nc g.ns] h).symm;exact h2.trans (List.perm_middle (l₁:=[_,_,_,_,_]))
theorem find_calls (g:RelG)(ok:RelOK g)(parts:Int)(cols key:List Int)(a1:Option Addr)(m1 c1:Nat)(a2:Option Addr)(m2 c2:Nat)(hc:i64s cols)(hk:i64s key)(hm1:m1≤1099511627776)(hm2:m2≤1099511627776)(w:World)(hr1:RI w a1 m1 cols)(hr2:RI w a2 m2 key)(hne1:∀ b,a1=some b→0<m1→¬ DD (relA g) b.block)(hne2:∀ b,a2=some b→0<m2→¬ DD (relA g) b.block)(hA:Holds (relA g) w):
 Calls Tryz.prog 96 #[ptr g.r,.int .i64 parts,.slice a1 m1 c1,.slice a2 m2 c2] w fun e w'=>∃ F:FB,e=.returned F.fn∧F.r=g.r∧F.parts=parts∧QR g.width cols key F.ls F.ks F.b∧RelOK (colG g F.col)∧Turns (relA g) (relA (colG g F.col)++boxA F) w w':=by
 refine Jdt hA (args:=[ptr g.r,.int .i64 parts,.slice a1 m1 c1,.slice a2 m2 c2]) Tryz.func96 rfl Tryz.ntmps96 rfl rfl ?_;refine Csr (WL.box rfl rfl rfl ?_);intro b4;refine WL.box rfl rfl rfl ?_;intro b5;refine Za rfl (Nn (Csr (Zv (OV.ah rfl T.u108 rfl (fun _ hw=>Jbn hw yI rfl)) (Zm rfl (Zm rfl (WL.dl (ι:=Option Addr × Nat × Option Addr × Nat × List Int × List Int × Bool) (vv:=fun q=>.tuple #[.slice q.1 q.2.2.2.2.1.length q.2.1,.slice q.2.2.1 q.2.2.2.2.2.1.length q.2.2.2.1,.bool q.2.2.2.2.2.2]) (pp:=fun q=>QR g.width cols key q.2.2.2.2.1 q.2.2.2.2.2.1 q.2.2.2.2.2.2) [] (AA:=fun q=>[row 3 1 q.1 q.2.2.2.2.1.length q.2.1 (ints q.2.2.2.2.1),row 3 1 q.2.2.1 q.2.2.2.2.2.1.length q.2.2.2.1 (ints q.2.2.2.2.2.1)]) rfl (by kernel_rfl) rfl rfl (fun w' hw' _=>(question_calls g ok cols key a1 m1 c1 a2 m2 c2 hc hk hm1 hm2 w' (hr1.satA hne1 hw') (hr2.satA hne2 hw') hw'.drop.drop.holdsAll).mono (fun en w'' ⟨la,lc,ka,kc,ls,ks,b,h1,h2,h3⟩=>⟨(la,lc,ka,kc,ls,ks,b),h1,h2,h3⟩)) ?_))))));rintro ⟨la,lc,ka,kc,ls,ks,b⟩ hq;refine Zm rfl (Zv (OV.extract rfl rfl) (Zv (OV.extract rfl rfl) (Zv (OV.extract rfl rfl) (WL.alloc T.zr51 rfl ?_))));intro b9;refine WL.alloc T.zr51 rfl ?_;intro b10;refine WL.alloc T.zr4 rfl ?_;intro b11;refine WL.focus perm2 (WL.bw rfl rfl rfl T.z51 (by first | decide | (simp;omega)) ?_);refine WL.focus perm2 (WL.bw rfl rfl rfl T.z51 (by first | decide | (simp;omega)) ?_);refine WL.focus perm2 (WL.bw rfl rfl rfl T.z4 (by first | decide | (simp;omega)) ?_);refine Nn (Csr (Zv (OV.makeFunc rfl) (Za rfl (Nn (WC.az ?_)))));have hle:=hq.le;have h1:=hr1.1;refine WX.ret1 rfl rfl rfl (fun w' hw=>⟨⟨b11,b4,b9,b10,b5,g.r,parts,la,lc,ls,ka,kc,ks,b⟩,rfl,rfl,rfl,hq,colG_ok ok hq.ok (Nat.le_trans hle (by omega)),?_⟩);refine (hw.perm ?_).turned;refine (List.Perm.append_right _ (relA_col g _)).trans ?_;refine List.perm_append_comm.trans ?_;exact (pmP [_,_,_,_,_,_,_] [0,6,2,1,5,4,3])
instance (row:List Int) (p:Int × Int):Decidable (good row p):=by unfold good;infer_instance
instance (row cols key:List Int):Decidable (fitsL row cols key):=by unfold fitsL;infer_instance
def sortR (l:List (List Int)):List (List Int):=l.mergeSort fun a b=>!decide (cmpL b a<0)
def selR (L:List (List Int × Nat))(parts:Int)(cols key:List Int):List (List Int):=sortR ((L.filter fun p=>inP parts p.2 && decide (fitsL p.1 cols key)).map (·.1))
theorem cmp_swo:Go.Sort.SWO (Go.Proofs.ltOf cmpL):=cmpL_swo id
theorem sortR_sorted (l:List (List Int)):(sortR l).Pairwise fun a b=>¬ cmpL b a<0:=by
 have h:=List.pairwise_mergeSort (le:=fun a b=>!decide (cmpL b a<0)) (fun a b c h1 h2=>by
  simp only [Bool.not_eq_true',decide_eq_false_iff_not] at *;have:=cmp_swo.ntrans c b a (by simpa [Go.Proofs.ltOf] using h2) (by simpa [Go.Proofs.ltOf] using h1)
  simpa [Go.Proofs.ltOf] using this) (fun a b=>by
  simp only [xR,Bool.not_eq_true',decide_eq_false_iff_not]
  by_cases h:cmpL b a<0
  ·right;intro h2;have:=Jjm h h2;rw [Jmg] at this;omega
  ·exact .inl h) l
 refine h.imp ?_;intro a b hab
 simpa using hab
theorem sortR_eq {ys rows:List (List Int)}(hp:ys.Perm rows)(hs:ys.Pairwise fun a b=>¬ cmpL b a<0):ys=sortR rows:=by
 refine List.Perm.eq_of_pairwise (le:=fun a b=>¬ cmpL b a<0) (fun a b _ _ h1 h2=>?_) hs (sortR_sorted rows) (hp.trans (List.mergeSort_perm _ _).symm);rcases cmpL_lt_or a b with h | h | h
 ·exact absurd h h2
 ·exact h
 ·exact absurd h h1
theorem Jgn (l:List (List Int)):(sortR l).Perm l:=List.mergeSort_perm _ _
theorem perm_lift {α β:Type}(f:α→β){ps qs:List β}(h:ps.Perm qs):∀ l:List α,l.map f=qs→∃ l':List α,l'.Perm l∧l'.map f=ps:=by
 induction h with
 | nil=>
  intro l hl;exact ⟨[],by rw [List.map_eq_nil_iff.1 hl],rfl⟩
 | cons a h ih=>
  intro l hl;obtain ⟨x,l2,rfl,rfl,h2⟩:=List.map_eq_cons_iff.1 hl;obtain ⟨l',h3,h4⟩:=ih l2 h2;exact ⟨x::l',h3.cons x,by rw [yC,h4]⟩
 | swap a b l0=>
  intro l hl;obtain ⟨x,l2,rfl,rfl,h2⟩:=List.map_eq_cons_iff.1 hl;obtain ⟨y,l3,rfl,rfl,rfl⟩:=List.map_eq_cons_iff.1 h2;exact ⟨y::x::l3,List.Perm.swap _ _ _,rfl⟩
 | trans h1 h2 ih1 ih2=>
  intro l hl;obtain ⟨l2,h3,h4⟩:=ih2 l hl;obtain ⟨l3,h5,h6⟩:=ih1 l2 h4;exact ⟨l3,h5.trans h3,h6⟩
theorem grp_mem (gs:List Grp)(k:ByteArray):∃ a0 c0,(got (grpM gs) k).getD (.slice none 0 0)=.slice a0 (psOf gs k).length c0∧(0<(psOf gs k).length→row 181 1 a0 (psOf gs k).length c0 (ptrs (psOf gs k))∈gs.flatMap grpA):=by
 obtain ⟨a0,c0,L,h1,h2,_⟩:=grp_focus gs k;refine ⟨a0,c0,h1,fun hp=>?_⟩;rcases h2 with h2 | ⟨_,_,h3,_⟩
 ·exact h2.mem_iff.2 yH
 ·rw [h3] at hp;simp at hp
def encE (e:Ent):Value:=.slice e.a e.row.length e.c
def fnd (parts:Int)(ES:List Ent)(i:Nat):List Ent:=(ES.take i).filter fun e=>inP parts e.part
def encs (l:List Ent):List Value:=l.map encE
theorem fnd_succ {parts:Int}{ES:List Ent}{i:Nat}{e:Ent}(h:ES[i]?=some e):fnd parts ES (i+1)=fnd parts ES i++if inP parts e.part then [e] else []:=by
 have e1:ES.take (i+1)=ES.take i++[e]:=by rw [List.take_add_one,h];rfl
 rw [fnd,e1,List.filter_append,fnd];congr 1
 by_cases hp:inP parts e.part <;> simp [hp]
theorem fnd_le (parts:Int)(ES:List Ent)(i:Nat):(fnd parts ES i).length≤ES.length:=Nat.le_trans (List.length_filter_le _ _) (by rw [xJ];omega)
theorem encs_one (l:List Ent):∀ u∈encs l,u.oneCell'=true:=by
 intro u hu;simp only [encs,xS] at hu;obtain ⟨c,_,rfl⟩:=hu;rfl
theorem T.apR:appB Tryz.prog 109 51 1 24=true:=by kernel_rfl
theorem sel_eq {g:RelG}(ok:RelOK g){x:Idx}{parts:Int}{cols key ks:List Int}{b:Bool}(hq:QR g.width cols key x.col.l ks b)(hb:b=true){ES:List Ent}(hES:ES.Perm (g.es.filter fun e=>ixKey x.col e=keyB ks)){rows:List (List Int)}(hp:rows.Perm ((fnd parts ES ES.length).map (·.row)))(hs:rows.Pairwise fun a b=>¬ cmpL b a<0):rows=selR (rp g) parts cols key:=by
 refine sortR_eq (hp.trans ?_) hs;rw [fnd,List.take_length];refine (((hES.filter _)).map _).trans ?_;rw [List.filter_filter,rp,List.filter_map,List.map_map];refine List.Perm.of_eq ?_;refine congrArg (List.map _) (List.filter_congr ?_);intro e he;simp only [Function.comp_apply];congr 1;refine decide_eq_decide.2 ?_;have h1:=hq.yes hb e.row (ok.wid e he);rw [← h1];exact ⟨fun h=>Jky h,fun h=>congrArg keyB h⟩
theorem sel_none {g:RelG}(ok:RelOK g){parts:Int}{cols key ls ks:List Int}{b:Bool}(hq:QR g.width cols key ls ks b)(hb:b=false):selR (rp g) parts cols key=[]:=by
 have h1:((rp g).filter fun p=>inP parts p.2 && decide (fitsL p.1 cols key))=[]:=by
  rw [List.filter_eq_nil_iff];intro p hp;obtain ⟨e,he,rfl⟩:=List.mem_map.1 hp;have:=hq.no hb e.row (ok.wid e he);simp [this]
 rw [selR,h1,sortR];simp
abbrev EIr (a:List Int)(d:Option Addr × Nat):List Hw.Item:=[row 3 1 d.1 a.length d.2 (ints a)]
abbrev argr (a:List Int)(d:Option Addr × Nat):Value:=.slice d.1 a.length d.2
theorem find1_calls (F:FB)(g0:RelG)(ok:RelOK g0)(cols key:List Int)(hq:QR g0.width cols key F.ls F.ks F.b)(hr:F.r=g0.r)(hcol:F.col∈g0.cols) 
  {β:Type} (CC:β→List Hw.Item) (J Jx:Nat→RelG→β→Prop) (y0:β) (l:Nat) (w1:World) (hA:Holds ((relA g0++boxA F)++CC y0) w1)
  (h0:∀ g1,RelOK g1∧RelLe g0 g1∧g1.es=g0.es→J 0 g1 y0) (hm:∀ k g1 y,J k g1 y→RelLe g0 g1)
  (hy:∀ k g1 y d W a,(selR (rp g0) F.parts cols key)[k]?=some a→J k g1 y→Turns ((relA g0++boxA F)++CC y0) (EIr a d++((relA g1++boxA F)++CC y)) w1 W →
   Hw.Yields Tryz.prog l [argr a d] W fun b W'=>∃ g2 y2,(b=true→J (k+1) g2 y2)∧(b=false→Jx (k+1) g2 y2)∧Turns (EIr a d++((relA g1++boxA F)++CC y)) ((relA g2++boxA F)++CC y2) W W') :
 Calls Tryz.prog 133 #[.func (.yield l) #[] #[],ptr F.bO,ptr F.bR,ptr F.bL,ptr F.bK,ptr F.bP] w1 fun en w'=>en=.returned (.tuple #[])∧∃ g2 y2 k,((k=(selR (rp g0) F.parts cols key).length∧J k g2 y2)∨(0<k∧k≤(selR (rp g0) F.parts cols key).length∧Jx k g2 y2))∧Turns ((relA g0++boxA F)++CC y0) ((relA g2++boxA F)++CC y2) w1 w':=by
 refine Jdt hA (args:=[.func (.yield l) #[] #[],ptr F.bO,ptr F.bR,ptr F.bL,ptr F.bK,ptr F.bP]) Tryz.func133 rfl Tryz.ntmps133 rfl rfl ?_;refine Cs (Cs (WC.weak (S':=Sat w1 (DD ((relA g0++boxA F)++CC y0)) (fun b=>b<w1.heap.size∧¬ DD ((relA g0++boxA F)++CC y0) b) w1 ((relA g0++(boxA F++CC y0)))) (fun w' hw=>hw.perm (List.Perm.of_eq (xF _ _ _).symm)) ?_));refine Cr (Zv (OV.ah (v:=.bool F.b) rfl T.u4 rfl (fun _ hw=>Jbn hw (xB _ (xA _ yH)) rfl)) (Zv (OV.not rfl) (Nn ?_)));refine Cc rfl (fun c13=>?_) (fun c13=>?_)
 ·refine WC.az ?_;refine Xr ?_;exact WX.ret0 rfl rfl (fun w' hw=>⟨rfl,g0,y0,0,.inl ⟨by rw [sel_none ok hq c13];rfl,h0 g0 ⟨ok,RelLe.refl g0,rfl⟩⟩,by simpa only [xF] using hw.turned⟩)
 refine Ck (Xn (Csr (Za rfl (Nn (Cs (Cs ?_))))));have hFl:F.ls.length≤1099511627776:=Jou ok hcol;have hkl:=hq.len;refine Hd (fun w'=>w'.heap[F.bR]?=some (.cells [ptr F.r].toArray 108 (0,0))∧w'.heap[F.bL]?=some (.cells [.slice F.la F.ls.length F.lc].toArray 51 (0,0))∧w'.heap[F.bK]?=some (.cells [.slice F.ka F.ks.length F.kc].toArray 51 (0,0))) [] (fun _ hw=>⟨hw.it _ (xB _ (xA _ yI)),hw.it _ (xB _ (xA _ yJ)),hw.it _ (xB _ (xA _ yK))⟩) (m:=11) rfl ?_;refine Ht 0 rfl ((OV.ah (v:=ptr F.r) rfl T.u108 rfl (fun _ hw=>(Jax hw.1 (o:=0) rfl).1)).cast (congrArg ptr hr)) (Ht 1 rfl (OV.ah (v:=.slice F.la F.ls.length F.lc) rfl T.u51 rfl (fun _ hw=>(Jax hw.2.1 (o:=0) rfl).1)) (Ht 6 rfl (OV.ah (v:=.slice F.ka F.ks.length F.kc) rfl T.u51 rfl (fun _ hw=>(Jax hw.2.2 (o:=0) rfl).1)) (Hf 10 rfl (OV.aw rfl) (Ho 2 rfl (fl':=false) rfl ?_))));refine WL.dl (ι:=RelG × Idx) (vv:=fun q=>ptr q.2.p) (pp:=fun q=>q.2∈q.1.ix∧q.2.col.l=F.ls∧RelOK q.1∧RelLe g0 q.1∧q.1.es=g0.es∧q.1.cols=g0.cols) (relA g0) (AA:=fun q=>relA q.1) rfl (by kernel_rfl) rfl rfl (fun w' hw' hH=>(index_calls g0 ok F.col hcol w' hH).mono (fun en w'' ⟨g',x,h1,h2,h3,h4,h5,h6,h7,h8⟩=>⟨(g',x),h1,⟨h2,h3,h4,h5,h6,h7⟩,h8⟩)) ?_;rintro ⟨g1,x⟩ hpp;obtain ⟨hx,hxl,ok1,le1,hes,hcs⟩:x∈g1.ix∧x.col.l=F.ls∧RelOK g1∧RelLe g0 g1∧g1.es=g0.es∧g1.cols=g0.cols:=hpp;refine Hc (fun _=>(fun _ hw=>⟨hw.it _ (xB _ (xA _ yI)),hw.it _ (xB _ (xA _ yJ)),hw.it _ (xB _ (xA _ yK))⟩)) ?_;refine Hr ?_;refine WH.more (C':=fun w'=>(w'.heap[F.bR]?=some (.cells [ptr F.r].toArray 108 (0,0))∧w'.heap[F.bL]?=some (.cells [.slice F.la F.ls.length F.lc].toArray 51 (0,0))∧w'.heap[F.bK]?=some (.cells [.slice F.ka F.ks.length F.kc].toArray 51 (0,0)))∧(w'.heap[x.p]?=some (.cells (idxC x).toArray 215 (0,0))∧w'.heap[x.mb]?=some (mapK Value.string (grpM x.gs)))) (fun _ h=>h.1) ?_;refine Hj (fun _=>(fun _ hw=>⟨⟨hw.it _ (xB _ (xA _ yI)),hw.it _ (xB _ (xA _ yJ)),hw.it _ (xB _ (xA _ yK))⟩,⟨hw.it _ (xA _ (yV (.tail _ (yV (.tail _ (yV (Jlo hx yH))))))),hw.it _ (xA _ (yV (.tail _ (yV (.tail _ (yV (Jlo hx yI)))))))⟩⟩)) ?_;refine Hf 3 rfl (OV.ak rfl) (Hf 4 rfl (OV.f0 1 rfl T.u215 rfl) (Ht 5 rfl (OV.ah (v:=.map (some x.mb)) rfl T.u213 rfl (fun _ hw=>(Jax hw.2.1 (o:=1) rfl).1)) (Ho 7 rfl (fl':=false) rfl ?_)));refine WL.au (by kernel_rfl) rfl rfl (fun w' hw=>keyOf_calls F.ks F.ka F.ks.length F.kc hq.i64.2 (by omega) w' (RI.of_row hw (xB _ (xA _ yM)))) ?_;refine Hc (fun _=>(fun _ hw=>⟨⟨hw.it _ (xB _ (xA _ yI)),hw.it _ (xB _ (xA _ yJ)),hw.it _ (xB _ (xA _ yK))⟩,⟨hw.it _ (xA _ (yV (.tail _ (yV (.tail _ (yV (Jlo hx yH))))))),hw.it _ (xA _ (yV (.tail _ (yV (.tail _ (yV (Jlo hx yI)))))))⟩⟩)) ?_;obtain ⟨a0,c0,hgot,hgm⟩:=grp_mem x.gs (keyB F.ks);refine Ht 8 rfl ((OV.lookup (KeyLaw.str T.u9) T.u213 (by kernel_rfl) rfl rfl (fun _ hw=>hw.2.2)).cast hgot) (Hf 9 rfl (OV.ae rfl T.u158) (He (Xn (Cb ?_))));obtain ⟨ES,hES,hEp⟩:=perm_lift Ent.p ((ok1.ix x hx).ps (keyB F.ks)) _ rfl;have hK:(psOf x.gs (keyB F.ks)).length=ES.length:=by rw [← hEp,xE]
 have hEm:∀ e∈ES,e∈g1.es:=fun e he=>(List.mem_filter.1 (hES.mem_iff.1 he)).1
 have hEl:ES.length≤1099511627776:=by have h1:=hES.length_eq;have h2:=List.length_filter_le (fun e=>decide (ixKey x.col e=keyB F.ks)) g1.es;have:=ok1.el;omega
 refine WC.weak (S':=fun w'=>(0<(psOf x.gs (keyB F.ks)).length→∃ q,a0=some ⟨q,0,none⟩)∧Sat w1 (DD ((relA g0++boxA F)++CC y0)) (fun b=>b<w1.heap.size∧¬ DD ((relA g0++boxA F)++CC y0) b) w1 ((relA g1++(boxA F++CC y0))) w') (fun w' hw=>⟨fun hp=>Jnd (hw.it _ (xA _ (yV (.tail _ (yV (.tail _ (yV (Jlo hx (yV (.tail _ (hgm hp))))))))))) hp,hw⟩) ?_;refine WC.pure (fun ha0=>?_)
 refine WC.ic (fun (i:Nat) (fa:Option Addr) (fc:Nat)=>[(0,.func (.yield l) #[] #[]),(5,ptr F.bP),(7,.slice fa (fnd F.parts ES i).length fc),(22,.slice a0 (psOf x.gs (keyB F.ks)).length c0),(23,.int .i64 ((psOf x.gs (keyB F.ks)).length:Int)),(24,.int .i64 (i:Int))])
   (fun i fa fc w'=>i≤ES.length∧Sat w1 (DD ((relA g0++boxA F)++CC y0)) (fun b=>b<w1.heap.size∧¬ DD ((relA g0++boxA F)++CC y0) b) w1 (row 51 1 fa (fnd F.parts ES i).length fc (encs (fnd F.parts ES i))::(relA g1++(boxA F++CC y0))) w')
   (fun i _ _=>ES.length - i) 0 none 0 Y6 (fun w' hw=>⟨by omega,hw.rowNil 51 1⟩) ?_
 intro i fa fc;refine WC.pure (fun hi=>?_);refine Csr (Zv (OV.cq rfl rfl) (Nn (Cs ?_)));refine Cc rfl (fun c25=>?_) (fun c25=>?_)
 ·refine Ck (Xn (Cs (Cb (Csr ?_))));have hil:i<ES.length:=by omega
  obtain ⟨e,hei⟩:∃ e,ES[i]?=some e:=⟨_,xD hil⟩
  have he:e∈g1.es:=hEm e (xC hei);have hpi:(psOf x.gs (keyB F.ks))[i]?=some e.p:=by rw [← hEp];simp [hei]
  have hKp:0<(psOf x.gs (keyB F.ks)).length:=by omega
  obtain ⟨q0,rfl⟩:=ha0 hKp;have hfi:=fnd_le F.parts ES i;have hst:=fnd_succ (parts:=F.parts) hei;refine Zv (OV.cd (i:=i) rfl rfl T.u158 T.z181 (by omega)) (Zv (OV.ah (v:=ptr e.p) rfl T.u181 rfl (fun _ hw=>Jdr hw ((yV (xA _ (yV (.tail _ (yV (.tail _ (yV (Jlo hx (yV (.tail _ (hgm hKp)))))))))))) i _ (ptrs_get hpi))) (Za rfl (Nn (Cs (Hq [] (m:=7) rfl ?_)))));refine Ht 0 rfl (OV.ah (v:=.int .i64 F.parts) rfl T.u3 rfl (fun _ hw=>Jbn hw (yV (xB _ (xA _ yL))) rfl)) (Hf 1 rfl (OV.aw rfl) (Hf 2 rfl (OV.ak rfl) (Hf 3 rfl (OV.f0 1 rfl T.u184 rfl) (Ht 4 rfl (OV.ah (v:=.int .i64 (e.part:Int)) rfl T.u3 rfl (fun _ hw=>Jbn hw (yV (xA _ (yV (.tail _ (yV (.tail _ (yV (own_mem_ent he)))))))) rfl)) (Hf 5 rfl (OV.and rfl rfl) (Hf 6 rfl (OV.iu rfl rfl) (He (Xn ?_))))))));refine Cc rfl (fun c34=>?_) (fun c34=>?_)
  ·refine Cr (Zm rfl (Zm rfl (Zv (OV.ak rfl) (Zv (OV.f0 0 rfl T.u184 rfl) (Zv (OV.ah (v:=encE e) rfl T.u51 rfl (fun _ hw=>Jbn hw (yV (xA _ (yV (.tail _ (yV (.tail _ (yV (own_mem_ent he)))))))) rfl)) (WL.br T.u109 T.z51 T.zr51 rfl rfl rfl ?_))))));intro b40;refine WL.focus perm1 (WL.append (news:=encs [e]) rfl rfl T.apR (fun _ _=>Jeg yI rfl) (encs_one _) ⟨by have:=ok1.el;omega,by have:=ok1.el;unfold maxLen;omega⟩ rfl ?_);intro a41 c41;refine Za rfl (Nl (Xb (Xn (Cr (Zv (OV.fp rfl rfl (by omega)) (Zm rfl (Nl ?_)))))));rw [if_pos (by simpa [inP] using c34)] at hst;have el:(fnd F.parts ES i).length+1=(fnd F.parts ES (i+1)).length:=by rw [hst,xL];rfl
   have en:encs (fnd F.parts ES i)++encs [e]=encs (fnd F.parts ES (i+1)):=by rw [hst];simp [encs]
   exact WX.eo (i+1) a41 c41 ⟨rfl,rfl,by rw [← el];rfl,rfl,rfl,rfl,trivial⟩ (fun w' hw=>⟨by omega,by
    rw [← el,← en];exact (hw.perm perm1).drop⟩) (by show ES.length - (i+1)<ES.length - i;omega)
  refine Ck (Xb (Xn (Cr (Zv (OV.fp rfl rfl (by omega)) (Zm rfl (Nl ?_))))));rw [if_neg (by simpa [inP] using c34),xZ] at hst
  exact WX.eo (i+1) fa fc ⟨rfl,rfl,by rw [hst];rfl,rfl,rfl,rfl,trivial⟩ (fun w' hw=>⟨by omega,by
   rw [hst];exact hw⟩) (by show ES.length - (i+1)<ES.length - i;omega)
 refine Ce (Xe (Xe (Xh (Xn (Cs ?_)))));have hi':i=ES.length:=by omega
 subst hi';have hFL:∀ e∈fnd F.parts ES ES.length,e∈g1.es:=fun e he=>hEm e (List.mem_of_mem_take (List.mem_filter.1 he).1)
 obtain ⟨xs,hxs⟩:∃ xs:List {e // e∈g1.es},xs.map (·.1)=fnd F.parts ES ES.length:=⟨_,List.attachWith_map_subtype_val hFL⟩
 have hxl2:xs.length≤ES.length:=by have:=fnd_le F.parts ES ES.length;rw [← hxs,xE] at this;exact this
 have hen:encs (xs.map (·.1))=xs.map fun z=>encE z.1:=by simp [encs]
 rw [← hxs,xE,hen];refine Cr (Zm rfl ?_);refine WL.fo (ι:=List {e // e∈g1.es}) (vv:=fun _=>.tuple #[]) (pp:=fun ys=>ys.Perm xs∧ys.Pairwise (fun x y=>Go.Proofs.ltOf (fun a b:{e // e∈g1.es}=>cmpL a.1.row b.1.row) y x=false)) (jj:=fun ys=>row 51 1 fa ys.length fc (ys.map fun z=>encE z.1)) (by kernel_rfl) rfl rfl (fun w' hw' hH=>(sortFunc_calls Tryz.sortF (fun z:{e // e∈g1.es}=>encE z.1) (fun _=>rfl) (fun a b=>cmpL a.1.row b.1.row) (cmpL_swo _) 137 (by kernel_rfl) fa xs w' hH (fun q hq w3 hfr a b=>?_) (by have:=ok1.el;omega)).mono (fun en w'' ⟨h1,ys,h2,h3,h4⟩=>⟨ys,h1,⟨h2,h3⟩,h4⟩)) ?_
 ·have key:∀ c:{e // e∈g1.es},RI w3 c.1.a c.1.row.length c.1.row:=fun c=>by
   have hmem:row 3 1 c.1.a c.1.row.length c.1.c (ints c.1.row)∈(relA g1++(boxA F++CC y0)):=(xA _ (yV (.tail _ (yV (.tail _ (yV (row_mem_ent c.2)))))))
   refine (RI.of_row hw' (.tail _ hmem)).fr (fun b hb _ hbq=>?_) hfr;exact hw'.apart hmem q.block ⟨q,hq,rfl⟩ ⟨b,hb,hbq⟩
  have hlen:∀ c:{e // e∈g1.es},c.1.row.length≤9223372036854775807:=fun c=>by have:=ok1.rl c.1 c.2;omega
  exact compare_pure a.1.row b.1.row a.1.a b.1.a a.1.row.length a.1.c b.1.row.length b.1.c (hlen a) (hlen b) w3 (key a) (key b)
 rintro ys ⟨hp,hs⟩;rw [← hp.length_eq];refine Nn (Csr (Zm rfl (Zv (OV.ae rfl T.u109) (Zm rfl (Nn (Cb ?_))))))
 have hsel:ys.map (fun z=>z.1.row)=selR (rp g0) F.parts cols key:=by
  have hrp:rp g0=rp g1:=by unfold rp;rw [hes]
  rw [hrp];refine sel_eq ok1 (x:=x) (ks:=F.ks) (b:=F.b) (by rw [hxl,le1.width];exact hq) c13 hES ?_ ?_
  ·rw [← hxs,List.map_map];exact hp.map _
  ·rw [List.pairwise_map];exact hs.imp (fun h=>by simpa [Go.Proofs.ltOf] using h)
 have hsl:(selR (rp g0) F.parts cols key).length=ys.length:=by rw [← hsel,xE]
 have hyl:ys.length≤ES.length:=by rw [hp.length_eq];exact hxl2
 refine WC.weak (S':=fun w'=>(0<ys.length→∃ q,fa=some ⟨q,0,none⟩)∧Sat w1 (DD ((relA g0++boxA F)++CC y0)) (fun b=>b<w1.heap.size∧¬ DD ((relA g0++boxA F)++CC y0) b) w1 (row 51 1 fa ys.length fc (ys.map fun z=>encE z.1)::(relA g1++(boxA F++CC y0))) w') (fun w' hw=>⟨fun hp=>Jnd (hw.it _ yH) hp,hw⟩) ?_;refine WC.pure (fun hfa=>?_)
 refine WC.ic (fun (j:Nat) (gk:RelG) (y:β)=>[(0,.func (.yield l) #[] #[]),(45,.slice fa ys.length fc),(46,.int .i64 (ys.length:Int)),(47,.int .i64 (j:Int))])
   (fun j gk y w'=>(j≤ys.length∧J j gk y)∧Sat w1 (DD ((relA g0++boxA F)++CC y0)) (fun b=>b<w1.heap.size∧¬ DD ((relA g0++boxA F)++CC y0) b) w1 (row 51 1 fa ys.length fc (ys.map fun z=>encE z.1)::(relA gk++(boxA F++CC y))) w')
   (fun j _ _=>ys.length - j) 0 g1 y0 Y4 (fun w' hw=>⟨⟨by omega,h0 g1 ⟨ok1,le1,hes⟩⟩,hw⟩) ?_
 intro j gk y;refine WC.pure (fun hj=>?_);refine Csr (Zv (OV.cq rfl rfl) (Nn (Cs ?_)));refine Cc rfl (fun c48=>?_) (fun c48=>?_)
 ·refine Ck (Xn (Cs (Cb (Csr ?_))));have hjl:j<ys.length:=by omega
  obtain ⟨z,hz⟩:∃ z,ys[j]?=some z:=⟨_,xD hjl⟩
  obtain ⟨q5,rfl⟩:=hfa (by omega);obtain ⟨hjj,hJ⟩:=hj;refine Zv (OV.cd (i:=j) rfl rfl T.u109 T.z51 (by omega)) (Zv (OV.ah (v:=encE z.1) rfl T.u51 rfl (fun _ hw=>Jdr hw yH j _ (by simp [hz]))) (Za rfl (Nn (Csr (Zm rfl (Zm rfl ?_))))));obtain ⟨e',he',hp',ha',hc',hr'⟩:=(hm j gk y hJ).es z.1 (hes ▸ z.2);have hzl:z.1.row.length≤1099511627776:=ok1.rl z.1 z.2;refine WL.o4 (ι:=Option Addr × Nat) (vv:=fun q=>.slice q.1 z.1.row.length q.2) (pp:=fun _=>True) (it:=fun q=>row 3 1 q.1 z.1.row.length q.2 (ints z.1.row)) (by kernel_rfl) rfl rfl (fun w' hw=>(clone_calls z.1.row z.1.a z.1.row.length z.1.c hzl w' (by rw [← ha',← hr'];exact RI.of_row hw (yV (xA _ (yV (.tail _ (yV (.tail _ (yV (row_mem_ent he')))))))))).mono (fun en w'' ⟨a',c',q1,q2,q3⟩=>⟨(a',c'),q1,trivial,q2,q3⟩)) ?_;rintro ⟨a53,c53⟩ _;refine WL.focus (ow':=(row 3 1 a53 z.1.row.length c53 (ints z.1.row)::(relA gk++(boxA F++CC y)))++[row 51 1 (some ⟨q5,0,none⟩) ys.length fc (ys.map fun z=>encE z.1)]) (List.Perm.cons _ List.perm_append_comm) (WL.yieldT (AA:=fun b A'=>∃ g2 y2,A'=relA g2++(boxA F++CC y2)∧(b=true→J (j+1) g2 y2)∧(b=false→Jx (j+1) g2 y2)) rfl rfl rfl (fun w' hw'=>?_) ?_)
  ·have ht:=hw'.turnedL;refine (hy j gk y (a53,c53) w' z.1.row (by rw [← hsel];simp [hz]) hJ (by simp only [xF] at ht ⊢;exact ht)).mono (fun b W' ⟨g2,y2,t1,t2,t3⟩=>⟨_,⟨g2,y2,rfl,t1,t2⟩,by simp only [xF] at t3 ⊢;exact t3⟩)
  rintro b A' ⟨g2,y2,rfl,hJt,hJf⟩;refine Zv (OV.not rfl) (Nn ?_);refine Cc rfl (fun c55=>?_) (fun c55=>?_)
  ·refine WC.az ?_;refine Xq (Xr (Xr (Xq ?_)));exact WX.ret0 rfl rfl (fun w' hw=>⟨rfl,g2,y2,j+1,.inr ⟨by omega,by omega,hJf c55⟩,by simpa only [xF] using hw.turnedL⟩)
  refine Ck (Xb (Xn (Cr (Zv (OV.fp rfl rfl (by omega)) (Zm rfl (Nl ?_))))));exact WX.eo (j+1) g2 y2 Y4 (fun w' hw=>⟨⟨by omega,hJt c55⟩,hw.perm (List.perm_append_comm (l₁:=[_]))⟩) (by show ys.length - (j+1)<ys.length - j;omega)
 refine Ce (Xe (Xe (Xh ?_)));obtain ⟨hjj,hJ⟩:=hj;have hje:j=ys.length:=by omega
 subst hje;exact WX.ret0 rfl rfl (fun w' hw=>⟨rfl,gk,y,ys.length,.inl ⟨hsl.symm,hJ⟩,by simpa only [xF] using hw.drop.turned⟩)
theorem find1_iter (F:FB)(g0:RelG)(ok:RelOK g0)(cols key:List Int)(hq:QR g0.width cols key F.ls F.ks F.b)(hr:F.r=g0.r)(hcol:F.col∈g0.cols)(w:World):
  Jnv Tryz.prog 133 F.caps (fun g=>relA g++boxA F) g0 (fun g1=>RelOK g1∧RelLe g0 g1∧g1.es=g0.es) (fun g1=>RelLe g0 g1) EIr argr (selR (rp g0) F.parts cols key) w:=by
 intro β CC J Jx y0 l w1 ht h0 hm hy;exact find1_calls F g0 ok cols key hq hr hcol CC J Jx y0 l w1 ht.holds h0 hm hy
theorem RI.nil (w:World):RI w none 0 []:=⟨rfl,fun _=>rfl,fun b hb=>by cases hb⟩
theorem i64s_nil:i64s []:=fun n hn=>by cases hn
def encC (c:Col):Value:=.slice c.a c.l.length c.c
abbrev lstA (a:Option Addr)(c:Nat)(ys:List Col):List Hw.Item:=row 51 1 a ys.length c (ys.map encC)::ys.flatMap colA
def CCr (b:Nat)(y:Option Addr × Nat × List Col):List Hw.Item:=box1 b 109 (.slice y.1 y.2.2.length y.2.1)::lstA y.1 y.2.1 y.2.2
theorem Jkl (L:List (List Int × Nat))(parts:Int)(cols key:List Int):(selR L parts cols key).length≤L.length:=by
 rw [selR,(Jgn _).length_eq,xE];exact List.length_filter_le _ _
theorem encC_one (ys:List Col):∀ u∈ys.map encC,u.oneCell'=true:=by
 intro u hu;obtain ⟨c,_,rfl⟩:=List.mem_map.1 hu;rfl
theorem flat_snoc (ys:List Col)(c:Col):(ys++[c]).flatMap colA=ys.flatMap colA++[row 3 1 c.a c.l.length c.c (ints c.l)]:=by simp [colA]
theorem Jly {g:RelG}:(rp g).length=g.es.length:=by simp [rp]
theorem rows_calls (g:RelG)(ok:RelOK g)(parts:Int)(w:World)(hA:Holds (relA g) w):
 Calls Tryz.prog 52 #[ptr g.r,.int .i64 parts] w fun e w'=>∃ g' la lc ys,e=.returned (.slice la ys.length lc)∧ys.map Col.l=selR (rp g) parts [] []∧RelOK g'∧RelLe g g'∧g'.es=g.es∧Turns (relA g) (relA g'++lstA la lc ys) w w':=by
 refine Jdt hA (args:=[ptr g.r,.int .i64 parts]) Tryz.func52 rfl Tryz.ntmps52 rfl rfl ?_;refine Csr (Za rfl (Nn (Csr (WL.alloc T.zr109 rfl ?_))));intro b5;refine Nn (Cs (Csr (Zm rfl (Zm rfl ?_))));refine WL.focus (ow':=relA g++[box1 b5 109 (.slice none 0 0)]) (List.perm_append_comm (l₂:=[_])) (WL.dl (ι:=FB) (vv:=fun F=>F.fn) (pp:=fun F=>F.r=g.r∧F.parts=parts∧QR g.width [] [] F.ls F.ks F.b∧RelOK (colG g F.col)) (relA g) (AA:=fun F=>relA (colG g F.col)++boxA F) rfl (by kernel_rfl) rfl rfl (fun w' hw' hH=>(find_calls g ok parts [] [] none 0 0 none 0 0 i64s_nil i64s_nil (by omega) (by omega) w' (RI.nil _) (RI.nil _) (fun b hb=>by cases hb) (fun b hb=>by cases hb) hH).mono (fun en w'' ⟨F,h1,h2,h3,h4,h5,h6⟩=>⟨F,h1,⟨h2,h3,h4,h5⟩,h6⟩)) ?_);rintro F ⟨hFr,hFp,hq,ok1⟩;refine Nn (Cb (WC.weak (S':=SatA w (relA g) ((relA (colG g F.col)++boxA F)++(CCr b5 (none,0,[])++[]))) (fun w' hw=>(hw.rowNil 51 1).perm (pmC [[row 51 1 none 0 0 []],(relA (colG g F.col)++boxA F),[box1 b5 109 (.slice none 0 0)]] [1,2,0])) ?_))
 refine WC.jw (RA:=fun q=>relA q++boxA F) (CC:=CCr b5) (EI:=EIr) (arg:=argr) (xs:=(selR (rp g) F.parts [] [])) (g0:=(colG g F.col)) (y0:=(none,0,[])) (R01:=fun g1=>RelOK g1∧RelLe (colG g F.col) g1∧g1.es=((colG g F.col)).es) (Mono:=fun g1=>RelLe (colG g F.col) g1) (gf:=133) (caps:=F.caps) (ow:=[]) rfl rfl (by kernel_rfl) rfl (fun w' _=>find1_iter F (colG g F.col) ok1 [] [] hq hFr (xB _ yH) w')
  (fun k q y=>RelOK q∧RelLe (colG g F.col) q∧q.es=g.es∧y.2.2.map Col.l=(selR (rp g) F.parts [] []).take k) (fun _ _ _ _=>False) (fun q hq=>⟨hq.1,hq.2.1,hq.2.2,by simp⟩) (fun k q y h=>h.2.1) ?_ ?_ ?_
 ·rintro l lr k q ⟨la,lc,ys⟩ d W a hxs hJ hS;obtain ⟨okq,leq,hqe,hys⟩:RelOK q∧RelLe (colG g F.col) q∧q.es=g.es∧ys.map Col.l=(selR (rp g) F.parts [] []).take k:=hJ
  have hyl:ys.length≤1099511627776:=by
   have h1:=congrArg List.length hys;rw [xE,xJ] at h1;have h2:=Jkl (rp g) F.parts [] [];rw [Jly] at h2;have:=ok.el;omega
  refine Cr (Za rfl (Nl (WX.o0 ?_)));refine WC.focus (ow':=box1 b5 109 (.slice la ys.length lc)::row 51 1 la ys.length lc (ys.map encC)::row 3 1 d.1 a.length d.2 (ints a)::own l (lr.ob .busy none)::(ys.flatMap colA++(relA q++boxA F))) (pmC [[own l (lr.ob .busy none)],[row 3 1 d.1 a.length d.2 (ints a)],(relA q++boxA F),[box1 b5 109 (.slice la ys.length lc),row 51 1 la ys.length lc (ys.map encC)],ys.flatMap colA] [3,1,0,4,2]) ?_;refine Cb (Cr (Zv (OV.ah rfl T.u109 rfl (fun _ hw=>Jbn hw yH rfl)) (Zm rfl (WL.br T.u109 T.z51 T.zr51 rfl rfl rfl ?_))));intro b13;refine WL.focus perm2 (WL.append (news:=[encC ⟨d.1,d.2,a⟩]) rfl rfl T.apR (fun _ _=>Jeg yI rfl) (encC_one [⟨d.1,d.2,a⟩]) ⟨by omega,by unfold maxLen;omega⟩ rfl ?_);intro a14 c14;refine WL.focus perm2 (WL.bw (o:=0) rfl rfl rfl T.z109 Nat.zero_lt_one ?_);refine Nl (Xb ?_);refine WX.focus (ow':=own l (lr.ob .busy none)::((relA q++boxA F)++(box1 b5 109 (.slice a14 (ys.length+1) c14)::row 51 1 a14 (ys.length+1) c14 (ys.map encC++[encC ⟨d.1,d.2,a⟩])::(ys.flatMap colA++[row 3 1 d.1 a.length d.2 (ints a),oQ b13 [encC ⟨d.1,d.2,a⟩] 51])))) (pmC [[box1 b5 109 (.slice a14 (ys.length+1) c14),row 51 1 a14 (ys.length+1) c14 (ys.map encC++[encC ⟨d.1,d.2,a⟩])],[oQ b13 [encC ⟨d.1,d.2,a⟩] 51],[row 3 1 d.1 a.length d.2 (ints a)],[own l (lr.ob .busy none)],ys.flatMap colA,(relA q++boxA F)] [3,5,0,4,2,1]) (WX.jp (fun w' hw=>⟨q,(a14,c14,ys++[⟨d.1,d.2,a⟩]),lr.ob .ready none,fun _=>⟨⟨okq,leq,hqe,?_⟩,rfl⟩,fun h=>(by cases h),?_⟩))
  ·show (ys++[_]).map Col.l=(selR (rp g) F.parts [] []).take (k+1);rw [xU,hys,List.take_add_one,hxs];rfl
  ·have e1:CCr b5 (a14,c14,ys++[⟨d.1,d.2,a⟩])=box1 b5 109 (.slice a14 (ys.length+1) c14)::row 51 1 a14 (ys.length+1) c14 (ys.map encC++[encC ⟨d.1,d.2,a⟩])::(ys.flatMap colA++[row 3 1 d.1 a.length d.2 (ints a)]):=by
    unfold CCr lstA;rw [flat_snoc,xU,xL];rfl
   show Turns _ (own l (lr.ob .ready none)::((relA q++boxA F)++CCr b5 (a14,c14,ys++[⟨d.1,d.2,a⟩]))) _ _;rw [e1];exact Hw.Sat.turnedL (B:=[oQ b13 [encC ⟨d.1,d.2,a⟩] 51]) (hw.perm (List.Perm.of_eq (by simp)))
 ·rintro D g2 ⟨la,lc,ys⟩ hJ;obtain ⟨ok2,le2,he2,hys⟩:RelOK g2∧RelLe (colG g F.col) g2∧g2.es=g.es∧ys.map Col.l=(selR (rp g) F.parts [] []).take (selR (rp g) F.parts [] []).length:=hJ;refine Xb (Xn (Csr (Zv (OV.ah (v:=.slice la ys.length lc) rfl T.u109 rfl (fun _ hw=>Jbn hw (yV (xB _ yH)) rfl)) (Za rfl (Nn (WC.az ?_))))));refine WX.mz rfl (WR.mark (WR.ret1 rfl rfl (fun w' hw=>⟨g2,la,lc,ys,rfl,?_,ok2,(colG_le g F.col).trans le2,he2,?_⟩)))
  ·rw [hys,List.take_length,hFp]
  ·have h1:=hw.drop;exact Hw.Sat.turnedL (B:=boxA F++[box1 b5 109 (.slice la ys.length lc)]) (h1.perm ((List.Perm.of_eq (by rw [xF];rfl)).trans ((pmC [relA g2,boxA F,[box1 b5 109 (.slice la ys.length lc)],lstA la lc ys] [0,3,1,2]).trans (List.Perm.of_eq (by simp [cat,CCr])))))
 ·intro D c k g2 y2 hJ;exact hJ.elim
theorem RI.some {w:World}{a:Option Addr}{m:Nat}{l:List Int}(h:RI w a m l)(hp:0<m):∃ q,a=Option.some q:=by
 cases a with
 | none=>have:=h.2.1 rfl;omega
 | some q=>exact ⟨q,rfl⟩
theorem RI.keeps {w w':World}{a:Option Addr}{m:Nat}{l:List Int}(h:RI w a m l)(k:Keeps w w'):RI w' a m l:=h.mono fun q v _ hc=>k q v hc
structure RLi (w:World) (a:Option Addr) (n:Nat) (ls:List (List Int)):Prop where
 len:ls.length=n
 nil:a=none→n=0
 big:n≤1099511627776
 at_:∀ q,a=Option.some q→∀ i l,ls[i]?=Option.some l→∃ a' c',w.cell? (q.add i)=Option.some (.slice a' l.length c')∧RI w a' l.length l
 lens:∀ l∈ls,l.length≤1099511627776
 i64:∀ l∈ls,i64s l
theorem RLi.keeps {w w':World}{a:Option Addr}{n:Nat}{ls:List (List Int)}(h:RLi w a n ls)(k:Keeps w w'):RLi w' a n ls:=
 ⟨h.len,h.nil,h.big,fun q hq i l hl=>by
  obtain ⟨a',c',h1,h2⟩:=h.at_ q hq i l hl;exact ⟨a',c',k _ _ h1,h2.keeps k⟩,h.lens,h.i64⟩
theorem RLi.get {w:World}{a:Option Addr}{n:Nat}{ls:List (List Int)}(h:RLi w a n ls){i:Nat}(hi:i<n):∃ q l a' c',a=Option.some q∧ls[i]?=Option.some l∧l∈ls∧w.cell? (q.add i)=Option.some (.slice a' l.length c')∧RI w a' l.length l:=by
 cases a with
 | none=>have:=h.nil rfl;omega
 | some q=>
  have hl:i<ls.length:=by rw [h.len];exact hi
  obtain ⟨a',c',h1,h2⟩:=h.at_ q rfl i _ (xD hl);exact ⟨q,ls[i],a',c',rfl,xD hl,List.getElem_mem hl,h1,h2⟩
theorem take_ext_step {α:Type}{l m:List α}{i:Nat}{x:α}(h:l.take i=m.take i)(hl:l[i]?=some x)(hm:m[i]?=some x):l.take (i+1)=m.take (i+1):=by
 rw [List.take_add_one,List.take_add_one,h,hl,hm]
end Go.Proofs.YtgebaodagaecmaaGreatDoor
