/- Contracts of functions of the program: what each returns and leaves in memory. Printed by gen.py and walk.py. A scope of labels through which the run goes without a jump. -/
import Derived.Test.YtdgigbopibdflaaGreatDoorMg14
import Derived.Test.YtdgigbopibdflaaGreatDoorHxA
import Derived.Test.YtdgigbopibdflaaGreatDoorHxShort
set_option maxRecDepth 10000
namespace Go.Proofs.YtdgigbopibdflaaGreatDoor
open Go Go.Hw
set_option linter.unusedSimpArgs false
set_option linter.unusedVariables false
def instT (r:List Tm)(t:Tm):Tm:=if varB t=true∧t.n<(r.length:Int) then r.getD t.n.toNat T0 else t
theorem got_ups (a:Int)(u:Value)(b:Int):∀ l:List (Int × Value),got (ups l a u) b=if b=a then some u else got l b
 | []=>by
  unfold got ups spot
  by_cases h:b=a
  ·rw [if_pos h,if_pos h];rfl
  ·rw [if_neg h,if_neg h];rfl
 | q::l=>by
  have hc:∀ (q:Int × Value) (l:List (Int × Value)) (b:Int),got (q::l) b=if b=q.1 then some q.2 else got l b:=fun q l b=>by
   unfold got;rw [show spot (q::l) b 0=if b=q.1 then some (0,q.2) else spot l b 1 from rfl]
   split
   ·rfl
   ·rw [Jek];cases spot l b 0 <;> rfl
  unfold ups
  by_cases h:a=q.1
  ·rw [if_pos h,hc,hc];show (if b=a then some u else got l b)=_
   by_cases h2:b=a
   ·rw [if_pos h2,if_pos h2]
   ·rw [if_neg h2,if_neg h2,if_neg (fun e=>h2 (e.trans h.symm))]
  ·rw [if_neg h,hc,hc,got_ups a u b l]
   by_cases h2:b=q.1
   ·rw [if_pos h2,if_neg (fun e=>h (e.symm.trans h2)),if_pos h2]
   ·rw [if_neg h2,if_neg h2]
def cval (m:List (Int × Value))(v:Int):Int:=match got m v with
 | some (.int _ k)=>k
 | _=>0
def cntM (l:List Int):List (Int × Value):=l.foldl (fun m v=>ups m v (.int .i64 (cval m v+1))) []
theorem Jfz (l:List Int)(v:Int):cntM (l++[v])=ups (cntM l) v (.int .i64 (cval (cntM l) v+1)):=by
 unfold cntM;rw [List.foldl_append];rfl
theorem Jij (l:List Int):∀ v,got (cntM l) v=if v∈l then some (.int .i64 (l.count v:Nat)) else none:=by
 induction l using Jds with
 | h0=>intro v;rfl
 | h1 l u ih=>
  intro v;rw [Jfz,got_ups,List.count_append]
  have hc:cval (cntM l) u=(l.count u:Nat):=by
   unfold cval;rw [ih]
   split
   ·rename_i h
    split at h
    ·simp only [Option.some.injEq,Value.int.injEq] at h;exact h.2.symm
    ·cases h
   ·rename_i h
    split at h
    ·exact absurd rfl (h _ _)
    ·rename_i h2;rw [List.count_eq_zero_of_not_mem h2];rfl
  by_cases h:v=u
  ·subst h;rw [if_pos rfl,if_pos (by simp),hc];simp
  ·have e:List.count v [u]=0:=List.count_eq_zero_of_not_mem (by simpa using h);rw [if_neg h,ih,e]
   by_cases h2:v∈l
   ·rw [if_pos h2,if_pos (by simp [h2])];rfl
   ·rw [if_neg h2,if_neg (by simp [h,h2])]
theorem cval_cntM (l:List Int)(v:Int):cval (cntM l) v=(l.count v:Nat):=by
 unfold cval;rw [Jij]
 split
 ·rename_i h
  split at h
  ·simp only [Option.some.injEq,Value.int.injEq] at h;exact h.2.symm
  ·cases h
 ·rename_i h
  split at h
  ·exact absurd rfl (h _ _)
  ·rename_i h2;rw [List.count_eq_zero_of_not_mem h2];rfl
theorem Jfy (l:List Int)(v:Int):(got (cntM l) v).getD (.int .i64 0)=.int .i64 (l.count v:Nat):=by
 rw [Jij]
 split
 ·rfl
 ·rename_i h;rw [List.count_eq_zero_of_not_mem h];rfl
theorem cnt_pos {l:List Int}{v:Int}:(0:Int)<(l.count v:Nat)↔v∈l:=by
 rw [show (0:Int)<(l.count v:Nat)↔0<l.count v by omega,List.count_pos_iff]
def dedI (l:List Int):List Int:=l.foldl (fun acc v=>if v∈acc then acc else acc++[v]) []
theorem Je3 (l:List Int)(v:Int):dedI (l++[v])=if v∈dedI l then dedI l else dedI l++[v]:=by
 unfold dedI;rw [List.foldl_append];rfl
theorem Jga (l:List Int):∀ v,v∈dedI l↔v∈l:=by
 induction l using Jds with
 | h0=>intro v;simp [dedI]
 | h1 l u ih=>
  intro v;rw [Je3,xS,xI]
  split
  ·rename_i h;rw [ih];exact ⟨Or.inl,fun hh=>hh.elim id (fun e=>by rw [e];exact (ih u).1 h)⟩
  ·rw [xS,xI,ih]
theorem dedI_len (l:List Int):(dedI l).length≤l.length:=by
 induction l using Jds with
 | h0=>simp [dedI]
 | h1 l u ih=>rw [Je3];split <;> simp <;> omega
theorem ups_len (l:List (Int × Value))(a:Int)(u:Value):(ups l a u).length=if (got l a).isSome=true then l.length else l.length+1:=by
 cases hs:spot l a 0 with
 | none=>
  rw [ups_new (spot_none.1 hs)];unfold got;rw [hs];simp
 | some q=>
  rw [ups_old (i:=q.1) (u:=q.2) hs];unfold got;rw [hs];simp
theorem cntM_len (l:List Int):(cntM l).length=(dedI l).length:=by
 induction l using Jds with
 | h0=>rfl
 | h1 l u ih=>
  rw [Jfz,ups_len,Je3,Jij,ih]
  by_cases h:u∈l
  ·rw [if_pos h,if_pos ((Jga l u).2 h)];rfl
  ·rw [if_neg h,if_neg (fun hh=>h ((Jga l u).1 hh))];simp
def vnums (l:List Tm):List Int:=(l.filter varB).map (·.n)
theorem Jd3 (l:List Tm)(t:Tm):vnums (l++[t])=vnums l++(if varB t=true then [t.n] else []):=by
 unfold vnums;rw [List.filter_append,xT]
 by_cases h:varB t=true
 ·rw [if_pos h,List.filter_cons_of_pos h];rfl
 ·rw [if_neg h,List.filter_cons_of_neg h];rfl
theorem Jgp (l:List Tm):(vnums l).length≤l.length:=by unfold vnums;rw [xE];exact List.length_filter_le _ _
theorem mem_vnums {l:List Tm}{v:Int}:v∈vnums l↔∃ t∈l,varB t=true∧t.n=v:=by
 unfold vnums;simp only [xR,List.mem_filter];exact ⟨fun ⟨t,⟨h1,h2⟩,h3⟩=>⟨t,h1,h2,h3⟩,fun ⟨t,h1,h2,h3⟩=>⟨t,⟨h1,h2⟩,h3⟩⟩
theorem dedV_nums (l:List Tm):dedI (vnums l)=(dedV l).map (·.n):=by
 induction l using Jds with
 | h0=>rfl
 | h1 l t ih=>
  rw [Jd3,Jdg]
  by_cases h:varB t=true
  ·rw [if_pos h,Je3,ih]
   have e:t.n∈(dedV l).map (·.n)↔t∈dedV l:=by
    constructor
    ·intro hh;obtain ⟨u,hu,he⟩:=List.mem_map.1 hh;rw [← Jje ((Jgf l u).1 hu).2 h he];exact hu
    ·exact fun hh=>List.mem_map.2 ⟨t,hh,rfl⟩
   by_cases h2:t∈dedV l
   ·rw [if_pos (e.2 h2),if_neg (fun hh=>hh.2 h2)]
   ·rw [if_neg (fun hh=>h2 (e.1 hh)),if_pos ⟨h,h2⟩,xT];rfl
  ·rw [if_neg h,if_neg (fun hh=>h hh.1),xX,ih]
theorem nV_cnt (c:Cl):(cntM (vnums (Jcb c))).length=nV c:=by
 rw [cntM_len,dedV_nums,xE];rfl
def misS (s:Int × Bool)(t:Tm):Int × Bool:=if varB t=true then (if t.n=s.1 then s.1+1 else s.1,s.2 || decide (s.1<t.n)) else s
def misF (l:List Tm):Int × Bool:=l.foldl misS (0,false)
theorem Je2 (l:List Tm)(t:Tm):misF (l++[t])=misS (misF l) t:=by unfold misF;rw [List.foldl_append];rfl
theorem misF_ok (l:List Tm)(h:∀ (i:Nat) (t:Tm),(dedV l)[i]?=some t→t.n=(i:Int)):misF l=(((dedV l).length:Int),false):=by
 induction l using Jds with
 | h0=>rfl
 | h1 l t ih=>
  have hpre:∀ (i:Nat) (u:Tm),(dedV l)[i]?=some u→u.n=(i:Int):=fun i u hu=>h i u (by
   rw [Jdg]
   split
   ·rw [List.getElem?_append_left (List.getElem?_eq_some_iff.1 hu).1];exact hu
   ·exact hu)
  rw [Je2,ih hpre];unfold misS
  by_cases hv:varB t=true
  ·rw [if_pos hv]
   by_cases hm:t∈dedV l
   ·have e:dedV (l++[t])=dedV l:=by rw [Jdg,if_neg (fun hh=>hh.2 hm)]
    obtain ⟨i,hi⟩:=List.mem_iff_getElem?.1 hm;have h1:=hpre i t hi;have h2:=(List.getElem?_eq_some_iff.1 hi).1;rw [e,if_neg (by omega),xP (by omega)];rfl
   ·have e:dedV (l++[t])=dedV l++[t]:=by rw [Jdg,if_pos ⟨hv,hm⟩]
    have h1:=h (dedV l).length t (by rw [e];simp);rw [e,if_pos h1,xP (by omega)];simp
  ·rw [if_neg hv,Jdg,if_neg (fun hh=>hv hh.1)]
theorem misF_len (l:List Tm):0≤(misF l).1∧(misF l).1≤l.length:=by
 induction l using Jds with
 | h0=>simp [misF]
 | h1 l t ih=>
  rw [Je2,xL,xQ];unfold misS
  split
  ·dsimp only
   split <;> omega
  ·omega
end Go.Proofs.YtdgigbopibdflaaGreatDoor
namespace Go.Hw
set_option linter.unusedVariables false
set_option linter.unusedSimpArgs false
open Go Go.RowKit
section
variable {P:Program} {F:Fence} {m:Nat} {b:Frame} {a:Act} {k:List Go.Item} {cs:List Frame} {w:World} {Q:Exit→Act→World→Prop}
theorem Jez {c:Code}:step P (lone (b.atR a (.code (.scope c)::k)) cs w)=.next (lone (b.atR a (.code c::.inScope c::k)) cs w):=
 step_lone_go (by simp [stepG,stepG.exec,Frame.atR])
theorem stepInScope {c:Code}:step P (lone (b.atR a (.inScope c::k)) cs w)=.next (lone (b.atR a k) cs w):=
 step_lone_go (by simp [stepG,stepG.exec,Frame.atR])
def calmQ (Q:Exit→Act→World→Prop):Exit→Act→World→Prop
 | .goto _,_,_=>False
 | e,a,w=>Q e a w
theorem wpIn_scopeS {c:Code}(h:c.wpIn F m P (calmQ Q) a w):(Code.scope c).wpIn F m P Q a w:=by
 intro b k cs hro hb hr;have h0:(lone (b.atR a (.code (.scope c)::k)) cs w).fenced P F:=fenced_calm hb hr rfl;obtain ⟨e,a₁,w₁,hq,harr⟩:=h b (.inScope c::k) cs hro hb hr;cases e with
 | normal=>exact ⟨.normal,a₁,w₁,hq,.head h0 Jez (StepsIn.trans harr (.one (fenced_calm hb hr rfl) stepInScope))⟩
 | exit id'=>
  have hx:exitTo id' (.inScope c::k)=exitTo id' k:=by simp [exitTo]
  exact ⟨.exit id',a₁,w₁,hq,fun k' hk=>.head h0 Jez (harr.1 k' (by rw [hx];exact hk)),
   fun hr' hk=>let ⟨k₁,h1,h2⟩:=harr.2 hr' (by rw [hx];exact hk);⟨k₁,h1,.head h0 Jez h2⟩⟩
 | goto l=>exact hq.elim
 | ret=>exact ⟨_,a₁,w₁,hq,.of_steps (.one h0 Jez) harr⟩
 | panic ch=>exact ⟨_,a₁,w₁,hq,.of_steps (.one h0 Jez) harr⟩
 | outgrown=>exact ⟨_,a₁,w₁,hq,.of_steps (.one h0 Jez) harr⟩
end
section
variable {P:Program} {Q:Post} {n:Nat} {ds:DS} {e:Env} {S:World→Prop}
theorem WC.scope {c:Code}(h:WC P (calmQ Q) n ds e S c):WC P Q n ds e S (.scope c):=fun a w ha hw=>wpIn_scopeS (h a w ha hw)
theorem WC.label {l:Nat}(h:WX Q n ds e S .normal):WC P Q n ds e S (.label l):=fun a w ha hw=>wpIn_label (h a w ha hw)
theorem WX.scope_ret (h:WX Q n ds e S .ret):WX (calmQ Q) n ds e S .ret:=h
end
end Go.Hw
namespace Go.Hw
set_option linter.unusedVariables false
open Go Go.RowKit
section
variable {P:Program} {n:Nat} {ds:DS} {e:Env} {S:World→Prop} {x y:Operand} {lt t:TypeId} {p:String} {af:Array Edge} {dst:Option Tmp} {d:TypeDesc}
theorem OV.indexArrS {cs vs:List Value}{m:Nat}{k':IntKind}{ix:Int}{el:TypeId}{g:Option (Nat × Bool)}(hx:ev e x=some (.agg cs.toArray))(hy:ev e y=some (.int k' ix))(hu:P.underlying lt=some (.array m el))(hue:P.underlying el=some d)(hd:aggD d=true)(hz:P.sz el=some vs.length) 
  (hb:0≤ix∧ix<m) (hv:cs.toArray.extract (ix.toNat*vs.length) (ix.toNat*vs.length+vs.length)=vs.toArray):OV P n ds e S ⟨dst,.index lt x y,t,p,af,g⟩ (.agg vs.toArray):=fun _ w ha _=>by
 simp [execOp,ha.eval hx,ha.eval hy,Instr.index,run_underlying hu,asIntOf,hb,run_sizeOf hz,part,Jcy hue,hd]
 simpa using hv
theorem OV.fieldS {cs vs:List Value}{fs:Array Field}{f:Nat}{ff:Field}{g:Option (Nat × Bool)}(hx:ev e x=some (.agg cs.toArray))(hu:P.underlying lt=some (.struct fs))(hf:fs[f]?=some ff)(hue:P.underlying ff.type=some d)(hd:aggD d=true)(hz:P.sz ff.type=some vs.length) 
  (hv:cs.toArray.extract ff.offset (ff.offset+vs.length)=vs.toArray):OV P n ds e S ⟨dst,.field lt x f,t,p,af,g⟩ (.agg vs.toArray):=fun _ w ha _=>by
 simp [execOp,ha.eval hx,Instr.field,run_underlying hu,hf,asAgg,run_sizeOf hz,part,Jcy hue,hd]
 simpa using hv
end
end Go.Hw
set_option maxRecDepth 10000
namespace Go.Proofs.YtdgigbopibdflaaGreatDoor
open Go Go.Hw
set_option linter.unusedSimpArgs false
set_option linter.unusedVariables false
abbrev rowI (a:Option Addr)(c:Nat)(l:List Int):Hw.Item:=row 3 1 a l.length c (ints l)
theorem ne_stepI {l:List Int}{i:Nat}{t u:Int}(hn:∀ u∈l.take i,u≠t)(h:l[i]?=some u)(hne:u≠t):∀ u∈l.take (i+1),u≠t:=fun v hv=>by
 rw [Jb1 h] at hv;rcases List.mem_append.1 hv with h1 | h1
 ·exact hn v h1
 ·simp only [xI] at h1;rw [h1];exact hne
theorem not_mem_takeI {l:List Int}{i:Nat}{t:Int}(hn:∀ u∈l.take i,u≠t)(hi:l.length≤i):t∉l:=fun h=>hn t (by rw [xK hi];exact h) rfl
theorem ri_at {w:World}{q:Addr}{m:Nat}{l:List Int}(h:RI w (some q) m l){j:Nat}{v:Int}(hj:l[j]?=some v):w.cell? (q.add j)=some (.int .i64 v):=by
 have:=h.cell (j:=j) (List.getElem?_eq_some_iff.1 hj).1;rw [yD,hj] at this;exact this
theorem indexI_calls (l:List Int)(a:Option Addr)(c:Nat)(v:Int)(hl:l.length≤1099511627776)(w:World)(hr:RI w a l.length l):Calls Tryz.prog 325 #[.slice a l.length c,.int .i64 v] w fun e w'=>∃ k:Int,e=.returned (.int .i64 k)∧(0≤k↔v∈l)∧Fr0 w w':=by
 refine Jbi (args:=[.slice a l.length c,.int .i64 v]) (fun _=>False) Tryz.func325 rfl Tryz.ntmps325 rfl rfl ?_;refine Csr (Za rfl (Nn (Cs (Csr (Zm rfl (Zv (OV.ad rfl T.u32) (Zm rfl (Nn (Cb ?_)))))))))
 refine WC.bz (fun (i:Nat)=>[(0,.slice a l.length c),(1,.int .i64 v),(7,.int .i64 (l.length:Int)),(8,.int .i64 (i:Int))])
   (fun i w'=>(i≤l.length∧∀ u∈l.take i,u≠v)∧Sat0 w ([]) w')
   (fun i=>l.length - i) 0 Y4 (fun w' hw=>⟨⟨by omega,fun u hu=>by simp at hu⟩,hw⟩) ?_
 intro i;refine WC.pure (fun hi=>?_);obtain ⟨hi,hn⟩:=hi;refine Csr (Zv (OV.cu rfl rfl) (Nn (Cs ?_)));refine Cc rfl (fun c9=>?_) (fun c9=>?_)
 ·refine Ck (Xn (Cs (Cb (Csr (Zm rfl (Za rfl (Nn (Csr (Zm rfl (Zm rfl (Zm rfl ?_)))))))))));obtain ⟨q,hq⟩:=hr.some (by omega);obtain ⟨u,hu⟩:∃ u,l[i]?=some u:=⟨_,xD (by omega)⟩
  have hr2:RI w (some q) l.length l:=by rw [← hq];exact hr
  refine Zv ((OV.ae (show _=some (Value.slice (some q) l.length c) by rw [← hq];rfl) rfl T.u32 T.z3 (by omega)).cast (u:=.pointer (some (q.add i))) (by rw [xN,Nat.mul_one])) (Zv (OV.ap (v:=.int .i64 u) rfl T.u3 rfl (fun _ hw=>hw.keeps _ _ (ri_at hr2 hu))) (Zv (OV.dq rfl rfl) (Nn ?_)));refine Cc rfl (fun c16=>?_) (fun c16=>?_)
  ·refine Csr (Zm rfl (Za rfl (Nn (WC.ay ?_))));refine Xq (Xr (Xr (Xq (Xr ?_))));exact WX.ret1 rfl rfl rfl (fun w' hw=>⟨(i:Int),rfl,⟨fun _=>by rw [c16];exact xC hu,fun _=>by omega⟩,hw.fr⟩)
  refine Ck (Xb (Xn (Cr (Zv (OV.bh (j:=1) rfl rfl (by omega)) (Zm rfl (Nl ?_))))));exact WX.au (i+1) Y4 (fun w' hw=>⟨⟨by omega,ne_stepI hn hu (fun h=>c16 h.symm)⟩,hw⟩) (by show l.length - (i+1)<l.length - i;omega)
 refine Ce (Xe (Xe (Xh (Xn (Csr (Za rfl (Nn (WC.ay ?_))))))));exact WX.ret1 rfl rfl rfl (fun w' hw=>⟨-1,rfl,⟨fun h=>absurd h (by omega),fun h=>absurd h (not_mem_takeI hn (by omega))⟩,hw.fr⟩)
theorem contI_calls (l:List Int)(a:Option Addr)(c:Nat)(v:Int)(hl:l.length≤1099511627776)(w:World)(hr:RI w a l.length l):Calls Tryz.prog 323 #[.slice a l.length c,.int .i64 v] w fun e w'=>e=.returned (.bool (decide (v∈l)))∧Fr0 w w':=by
 refine Jbi (args:=[.slice a l.length c,.int .i64 v]) (fun _=>False) Tryz.func323 rfl Tryz.ntmps323 rfl rfl ?_;refine Csr (Za rfl (Nn (Csr (Zm rfl (Zm rfl (WL.i5 (ι:=Int) (vs:=[.slice a l.length c,.int .i64 v]) (vv:=fun k=>.int .i64 k) (SS:=fun k w'=>(0≤k↔v∈l)∧Sat0 w ([]) w') (by kernel_rfl) rfl rfl (fun w' hw'=>(indexI_calls l a c v hl w' (hr.keeps hw'.keeps)).mono (fun en w'' ⟨k,h1,h2,h3⟩=>⟨k,h1,h2,hw'.keep h3⟩)) ?_))))));intro k;refine WL.pure (fun hk=>?_);refine Zv (OV.fx rfl rfl) (Za rfl (Nn (WC.ay ?_)));exact WX.ret1 rfl rfl rfl (fun w' hw=>⟨by congr 2;exact decide_eq_decide.2 hk,hw.fr⟩)
theorem tvars_calls (x:At)(a:Option Addr)(c:Nat)(hl:x.args.length≤1048575)(w:World)(hr:RT w a x.args):Calls Tryz.prog 34 #[atV x a c] w fun e w'=>∃ z:Option Addr × Nat,e=.returned (.slice z.1 (dedI (Jah x)).length z.2)∧Turns [] [rowI z.1 z.2 (dedI (Jah x))] w w':=by
 refine Jbi (args:=[atV x a c]) (fun _=>False) Tryz.func34 rfl Tryz.ntmps34 rfl rfl ?_;refine Csr (WL.box rfl rfl rfl ?_);intro b1;refine Za rfl (Nn (WC.scope ?_));refine Csr (Za rfl (Nn (Cs (WC.label ?_))));refine Xn (Cs (Csr (Zv (OV.lN (cs:=atC x a c) rfl T.u26 rfl T.z26 yF) (WL.cT (ι:=Nat × Nat) (vs:=[atV x a c]) (vv:=fun q=>.slice (some ⟨q.1,0,none⟩) (plc x).length q.2) (pp:=fun _=>True) [] (AA:=fun q=>[rowT (some ⟨q.1,0,none⟩) q.2 (plc x)]) rfl (fun w' hw' _=>(places_calls x a c (by omega) w' (hr.keeps hw'.keeps)).mono (fun en w'' ⟨b,lc,q1,q2⟩=>⟨(b,lc),q1,trivial,q2⟩)) ?_))));rintro ⟨pb,pc⟩ _;have hpl:(plc x).length=x.args.length+1:=by simp [plc]
 refine Zv (OV.ad rfl T.u24) (Zm rfl (Nn (Cb (WC.weak (S':=Sat0 w (row 3 1 none 0 0 []::rowT (some ⟨pb,0,none⟩) pc (plc x)::oQ b1 (atC x a c) 26::[])) (fun w' hw=>hw.rowNil 3 1) ?_))))
 refine WC.d8 (fun (i:Nat) (la:Option Addr) (lc:Nat) (vs:List Int)=>[(1,yX b1),(3,.slice la vs.length lc),(9,.slice (some ⟨pb,0,none⟩) (plc x).length pc),(10,.int .i64 ((plc x).length:Int)),(11,.int .i64 (i:Int))])
   (fun i la lc vs w'=>(i≤(plc x).length∧vs=dedI (vnums ((plc x).take i))∧vs.length≤i)∧Sat0 w (rowI la lc vs::rowT (some ⟨pb,0,none⟩) pc (plc x)::oQ b1 (atC x a c) 26::[]) w')
   (fun i _ _ _=>(plc x).length - i) 0 none 0 [] Y5 (fun w' hw=>⟨⟨by omega,rfl,by simp⟩,hw⟩) ?_
 intro i la lc vs;refine WC.pure (fun hi=>?_);obtain ⟨hi,hvs,hvl⟩:=hi;refine Csr (Zv (OV.cu rfl rfl) (Nn (Cs ?_)));refine Cc rfl (fun c12=>?_) (fun c12=>?_)
 ·refine Ck (Xn (Cs (Cb (Csr ?_))));obtain ⟨t,ht⟩:∃ t,(plc x)[i]?=some t:=⟨_,xD (by omega)⟩
  refine Zv ((OV.ae rfl rfl T.u24 T.z23 (by omega)).cast (u:=.pointer (some ((⟨pb,0,none⟩:Addr).add (i*3)))) (by rw [xN])) (Zv (OV.am (cs:=tmC t) rfl T.u23 rfl T.z23 (fun _ hw j v hj=>(RT.of_row (c:=pc) rfl hw yG:RT _ (some ⟨pb,0,none⟩) (plc x)).at_ _ rfl i t ht j v hj)) (WL.alloc T.zr23 rfl ?_));intro b5;refine WL.aj (vs:=tmC t) rfl rfl rfl T.z23 rfl ?_;refine Nn (Cs (Csr (Zv (OV.lN (cs:=tmC t) rfl T.u23 rfl T.z23 yF) (WL.aw (v:=.bool (varB t)) (by kernel_rfl) rfl rfl (fun w' hw'=>Jcr t w') ?_))));refine Zv (OV.not rfl) (Nn ?_);refine Cc rfl (fun c17=>?_) (fun c17=>?_)
  ·refine Ce (Xe (Xh (Xn (Cr (Zv (OV.bh (j:=1) rfl rfl (by omega)) (Zm rfl (Nl ?_)))))))
   exact WX.cg (i+1) la lc vs Y5 (fun w' hw=>⟨⟨by omega,by
    rw [Jb1 ht,Jd3,if_neg (by simpa using c17),xX];exact hvs,by omega⟩,hw.drop⟩) (by show (plc x).length - (i+1)<(plc x).length - i;omega)
  refine Ck (Xn (Cs (Csr (Zm rfl (Zv (OV.ad rfl T.u32) (Zm rfl (Nn (Cb ?_))))))))
  refine WC.bz (fun (k:Nat)=>[(1,yX b1),(3,.slice la vs.length lc),(5,yX b5),(9,.slice (some ⟨pb,0,none⟩) (plc x).length pc),(10,.int .i64 ((plc x).length:Int)),(11,.int .i64 (i:Int)),(18,.slice la vs.length lc),(19,.int .i64 (vs.length:Int)),(20,.int .i64 (k:Int))])
    (fun k w'=>(k≤vs.length∧∀ u∈vs.take k,u≠t.n)∧Sat0 w (oQ b5 (tmC t) 23::rowI la lc vs::rowT (some ⟨pb,0,none⟩) pc (plc x)::oQ b1 (atC x a c) 26::[]) w')
    (fun k=>vs.length - k) 0 Y9 (fun w' hw=>⟨⟨by omega,fun u hu=>by simp at hu⟩,hw⟩) ?_
  intro k;refine WC.pure (fun hk=>?_);obtain ⟨hk,hn⟩:=hk;refine Csr (Zv (OV.cu rfl rfl) (Nn (Cs ?_)));refine Cc rfl (fun c21=>?_) (fun c21=>?_)
  ·refine Ck (Xn (Cs (Cb (Csr ?_))));refine WL.fj (fun w2 hw2=>(RI.of_row (c:=lc) hw2 yG:RI w2 la vs.length vs).some (by omega)) (fun hqq=>?_);obtain ⟨q,hq⟩:=hqq;obtain ⟨u,hu⟩:∃ u,vs[k]?=some u:=⟨_,xD (by omega)⟩
   refine Zv ((OV.ae (show _=some (Value.slice (some q) vs.length lc) by rw [← hq];rfl) rfl T.u32 T.z3 (by omega)).cast (u:=.pointer (some (q.add k))) (by rw [xN,Nat.mul_one])) (Zv (OV.ap (v:=.int .i64 u) rfl T.u3 rfl (fun w2 hw=>ri_at (show RI w2 (some q) vs.length vs by rw [← hq];exact RI.of_row (c:=lc) hw yG) hu)) (Za rfl (Nn (Csr (Zm rfl (Zv (OV.f0 1 rfl T.u23 rfl) (Zv (OV.l1 (v:=.int .i64 t.n) rfl T.u3 rfl yF rfl) (Zv (OV.dq rfl rfl) (Nn ?_)))))))));refine Cc rfl (fun c27=>?_) (fun c27=>?_)
   ·refine Ce (Xi (Xe (Xe (Xi (Xe (Xh (Xn (Cr (Zv (OV.bh (j:=1) rfl rfl (by omega)) (Zm rfl (Nl ?_)))))))))));have hmm:t.n∈dedI (vnums ((plc x).take i)):=by rw [← hvs,← c27];exact xC hu
    exact WX.cg (i+1) la lc vs Y5 (fun w' hw=>⟨⟨by omega,by
     rw [Jb1 ht,Jd3,if_pos (by simpa using c17),Je3,if_pos hmm];exact hvs,by omega⟩,hw.drop⟩) (by show (plc x).length - (i+1)<(plc x).length - i;omega)
   refine Ck (Xb (Xn (Cr (Zv (OV.bh (j:=1) rfl rfl (by omega)) (Zm rfl (Nl ?_))))));exact WX.au (k+1) Y9 (fun w' hw=>⟨⟨by omega,ne_stepI hn hu c27⟩,hw⟩) (by show vs.length - (k+1)<vs.length - k;omega)
  refine Ce (Xe (Xe (Xh (Xn (Cr (Zm rfl (Zv (OV.f0 1 rfl T.u23 rfl) (Zv (OV.l1 (v:=.int .i64 t.n) rfl T.u3 rfl yF rfl) (WL.br T.u32 T.z3 T.zr3 rfl rfl rfl ?_)))))))));intro bb32;refine WL.focus (ow':=rowI la lc vs::oQ bb32 [Value.int .i64 t.n] 3::oQ b5 (tmC t) 23::rowT (some ⟨pb,0,none⟩) pc (plc x)::oQ b1 (atC x a c) 26::[]) (pmP [_,_,_,_,_] [2,0,1,3,4]) ?_;refine WL.append (news:=ints [t.n]) rfl rfl T.apI (fun _ _=>Jd5 yG rfl) (Jdf [t.n]) ⟨by omega,by unfold maxLen;omega⟩ rfl ?_;intro a33 c33;refine Za rfl (Nl (Xb (Xn (Cr (Zv (OV.bh (j:=1) rfl rfl (by omega)) (Zm rfl (Nl ?_)))))));have hmm:t.n∉dedI (vnums ((plc x).take i)):=by rw [← hvs];exact not_mem_takeI hn (by omega)
  have el:vs.length+1=(vs++[t.n]).length:=by simp
  have ef:ints vs++ints [t.n]=ints (vs++[t.n]):=by simp [ints]
  rw [el,ef]
  exact WX.cg (i+1) a33 c33 (vs++[t.n]) Y5 (fun w' hw=>⟨⟨by omega,by
   rw [Jb1 ht,Jd3,if_pos (by simpa using c17),Je3,if_neg hmm,← hvs],by simp;omega⟩,by
   exact hw.pik [[rowI a33 c33 (vs++[t.n])],[oQ bb32 [Value.int .i64 t.n] 3],[oQ b5 (tmC t) 23],[rowT (some ⟨pb,0,none⟩) pc (plc x)],[oQ b1 (atC x a c) 26]] [0,3,4] 5⟩) (by show (plc x).length - (i+1)<(plc x).length - i;omega)
 refine Ce (Xe (Xe (Xh (Xn (Csr (Zm rfl (Za rfl (Nn (WC.ay ?_)))))))));refine WX.scope_ret ?_;rw [xK (by omega)] at hvs;subst hvs;exact WX.ret1 rfl rfl rfl (fun w' hw=>⟨(la,lc),rfl,(hw.pik [[rowI la lc (dedI (vnums (plc x)))],[rowT (some ⟨pb,0,none⟩) pc (plc x)],[oQ b1 (atC x a c) 26]] [0] 3).turned0⟩)
structure UseOK (St:List Tm→List Hw.Item) (N:Nat) (g:Nat) (caps:List Value) (w0:World):Prop where
 bod:bodied Tryz.prog g=true
 blk:∀ pre b,DD (St pre) b→w0.heap.size≤b
 run:∀ pre t w1,pre.length<N→Holds (St pre) w1→Calls Tryz.prog g ([tmV t]++caps).toArray w1 fun e w2=>e=.returned (.tuple #[])∧Turns (St pre) (St (pre++[t])) w1 w2
theorem Jcx {w0 w w':World}{A ow:List Hw.Item}(hk:Keeps w0 w)(hB:∀ b,DD A b→w0.heap.size≤b)(hw:Sat w (DD A) (fun b=>b<w.heap.size∧¬ DD A b) w ow w'):Keeps w0 w':=fun q v hq=>by
 have h1:=World.block_lt_of_cell? w0 _ hq;have h2:=hk q v hq;exact (hw.cell ⟨World.block_lt_of_cell? w _ h2,fun hd=>by have:=hB _ hd;omega⟩).trans h2
theorem Jdy (St:List Tm→List Hw.Item)(N g:Nat)(caps:List Value)(w0:World)(hU:UseOK St N g caps w0)(x:At)(a:Option Addr)(c:Nat)(pre:List Tm)(hN:pre.length+(plc x).length≤N)(hN2:N≤1099511627776)(w:World)(hr:RT w0 a x.args)(hk:Keeps w0 w)(hA:Holds (St pre) w):Calls Tryz.prog 148 #[atV x a c,.func (.func g) #[] caps.toArray] w fun e w'=>e=.returned (.tuple #[])∧Turns (St pre) (St (pre++plc x)) w w':=by
 refine Jil hA (args:=[atV x a c,.func (.func g) #[] caps.toArray]) Tryz.func148 rfl Tryz.ntmps148 rfl rfl ?_;refine Csr (WL.box rfl rfl rfl ?_);intro b2;refine Nn (Csr (Zm rfl (Zv (OV.f0 0 rfl T.u26 rfl) (Zv (OV.am (cs:=tmC x.b) rfl T.u23 rfl T.z23 (fun _ hw j v hj=>by rw [Jav];exact Jbk hw yF (o:=0) (cs':=tmC x.b) rfl j v hj)) ?_))));have hpl:(plc x).length=x.args.length+1:=by simp [plc]
 refine WL.focus (ow':=St (pre)++[oQ b2 (atC x a c) 26]) (pmC [[oQ b2 (atC x a c) 26],St pre] [1,0]) ?_;refine WL.ew (ι:=Unit) (f:=g) (caps:=caps) (vs:=[tmV x.b]) (vv:=fun _=>.tuple #[]) (SS:=fun _=>SatA w (St pre) (St (pre++[x.b])++[oQ b2 (atC x a c) 26])) hU.bod rfl rfl rfl (fun w' hw'=>(hU.run (pre) x.b w' (by (try simp only [xL,List.length_cons,List.length_nil,xJ]);omega) (Hw.Sat.holds hw')).mono (fun en w'' ⟨h1,h2⟩=>⟨(),h1,hw'.turns h2⟩)) ?_;intro _;refine Nn (Csr (Zv (OV.f0 4 rfl T.u26 rfl) (Zv (OV.ap (v:=.slice a x.args.length c) rfl T.u24 rfl (fun _ hw=>(Jbn (hw.it (oQ b2 (atC x a c) 26) (by simp)) (o:=4) rfl).1)) (Zv (OV.ad rfl T.u24) (Zm rfl (Nn (Cb ?_)))))))
 refine WC.bz (fun (i:Nat)=>[(1,.func (.func g) #[] caps.toArray),(11,.slice a x.args.length c),(12,.int .i64 (x.args.length:Int)),(13,.int .i64 (i:Int))])
   (fun i w'=>i≤x.args.length∧SatA w (St pre) (St (pre++x.b::x.args.take i)++[oQ b2 (atC x a c) 26]) w')
   (fun i=>x.args.length - i) 0 Y4 (fun w' hw=>⟨by omega,hw⟩) ?_
 intro i;refine WC.pure (fun hi=>?_);refine Csr (Zv (OV.cu rfl rfl) (Nn (Cs ?_)));refine Cc rfl (fun c14=>?_) (fun c14=>?_)
 ·refine Ck (Xn (Cs (Cb (Csr ?_))));obtain ⟨q1,t,hq,ht,htm,_,hc⟩:=hr.get (i:=i) (by omega);refine Zv ((OV.ae (show _=some (Value.slice (some q1) x.args.length c) by rw [← hq];rfl) rfl T.u24 T.z23 (by omega)).cast (u:=.pointer (some (q1.add (i*3)))) (by rw [xN])) (Zv (OV.am (cs:=tmC t) rfl T.u23 rfl T.z23 (fun _ hw j v hj=>Jcx hk (hU.blk pre) hw _ _ (hc j v hj))) (WL.alloc T.zr23 rfl ?_));intro b5;refine WL.aj (vs:=tmC t) rfl rfl rfl T.z23 rfl ?_;refine Nn (Cr (Zm rfl (Zv (OV.lN (cs:=tmC t) rfl T.u23 rfl T.z23 yF) (WL.focus (ow':=St ((pre++x.b::x.args.take i))++[oQ b5 (tmC t) 23,oQ b2 (atC x a c) 26]) (pmC [[oQ b5 (tmC t) 23],St (pre++x.b::x.args.take i),[oQ b2 (atC x a c) 26]] [1,0,2]) ?_))));refine WL.ew (ι:=Unit) (f:=g) (caps:=caps) (vs:=[tmV t]) (vv:=fun _=>.tuple #[]) (SS:=fun _=>SatA w (St pre) (St ((pre++x.b::x.args.take i)++[t])++[oQ b5 (tmC t) 23,oQ b2 (atC x a c) 26])) hU.bod rfl rfl rfl (fun w' hw'=>(hU.run ((pre++x.b::x.args.take i)) t w' (by (try simp only [xL,List.length_cons,List.length_nil,xJ]);omega) (Hw.Sat.holds hw')).mono (fun en w'' ⟨h1,h2⟩=>⟨(),h1,hw'.turns h2⟩)) ?_;intro _;refine Nl (Xb (Xn (Cr (Zv (OV.bh (j:=1) rfl rfl (by omega)) (Zm rfl (Nl ?_))))))
  exact WX.au (i+1) Y4 (fun w' hw=>⟨by omega,by
   rw [Jb1 ht,show pre++x.b::(x.args.take i++[t])=(pre++x.b::x.args.take i)++[t] by simp];exact hw.pik [St ((pre++x.b::x.args.take i)++[t]),[oQ b5 (tmC t) 23],[oQ b2 (atC x a c) 26]] [0,2] 3⟩) (by show x.args.length - (i+1)<x.args.length - i;omega)
 refine Ce (Xe (Xe (Xh ?_)));rw [xK (by omega)];exact WX.ret0 rfl rfl (fun w' hw=>⟨rfl,Hw.Sat.turnedL hw⟩)
theorem termsU_calls (St:List Tm→List Hw.Item)(N g:Nat)(caps:List Value)(w0:World)(hU:UseOK St N g caps w0)(q:CG)(pre:List Tm)(hN:pre.length+(Jcb q.cl).length≤N)(hN2:N≤1099511627776)(hbl:q.bd.length≤1048576)(htl:q.ts.length≤1048576)(w:World)(hr:RC w0 q)(hk:Keeps w0 w)(hA:Holds (St pre) w):Calls Tryz.prog 106 #[cgV q,.func (.func g) #[] caps.toArray] w fun e w'=>e=.returned (.tuple #[])∧Turns (St pre) (St (pre++Jcb q.cl)) w w':=by
 refine Jil hA (args:=[cgV q,.func (.func g) #[] caps.toArray]) Tryz.func106 rfl Tryz.ntmps106 rfl rfl ?_;refine Csr (WL.box rfl rfl rfl ?_);intro b2;refine Nn (Csr (Zv (OV.f0 0 rfl T.u30 rfl) ?_));have hln:(Jcb q.cl).length=(plc q.hd.x).length+(Jbu q.cl).length+2*q.ts.length:=Jf7 q.cl;refine Zv (OV.am (cs:=atC q.hd.x q.hd.a q.hd.c) rfl T.u26 rfl T.z26 (fun _ hw j v hj=>by rw [Jav];exact Jbk hw yF (o:=0) (cs':=atC q.hd.x q.hd.a q.hd.c) rfl j v hj)) (Zm rfl (WL.focus (ow':=St pre++[oQ b2 (cgC q) 30]) (pmC [[oQ b2 (cgC q) 30],St pre] [1,0]) ?_));refine WL.cT (ι:=Unit) (vs:=[atV q.hd.x q.hd.a q.hd.c,.func (.func g) #[] caps.toArray]) (vv:=fun _=>.tuple #[]) (pp:=fun _=>True) (St pre) (AA:=fun _=>St (pre++plc q.hd.x)) rfl (fun w' hw' hH=>(Jdy St N g caps w0 hU q.hd.x q.hd.a q.hd.c pre (by (try simp only [xL]);omega) hN2 w' hr.hd (Jcx hk (hU.blk pre) hw') hH).mono (fun en w'' ⟨h1,h2⟩=>⟨(),h1,trivial,h2⟩)) ?_;rintro _ _;refine Nn (Cs (Csr (Zv (OV.f0 5 rfl T.u30 rfl) (Zv (OV.ap (v:=.slice q.ba q.bd.length q.bc) rfl T.u27 rfl (fun _ hw=>(Jbn (hw.it (oQ b2 (cgC q) 30) (by simp)) (o:=5) rfl).1)) (Zv (OV.ad rfl T.u27) (Zm rfl (Nn (Cb ?_))))))))
 refine WC.bz (fun (i:Nat)=>[(1,.func (.func g) #[] caps.toArray),(2,yX b2),(13,.slice q.ba q.bd.length q.bc),(14,.int .i64 (q.bd.length:Int)),(15,.int .i64 (i:Int))])
   (fun i w'=>i≤q.bd.length∧SatA w (St pre) (St (pre++plc q.hd.x++(q.bd.take i).flatMap fun y=>plc y.x)++[oQ b2 (cgC q) 30]) w')
   (fun i=>q.bd.length - i) 0 Y5 (fun w' hw=>⟨by omega,by simpa using hw⟩) ?_
 intro i;refine WC.pure (fun hi=>?_);refine Csr (Zv (OV.cu rfl rfl) (Nn (Cs ?_)));refine Cc rfl (fun c16=>?_) (fun c16=>?_)
 ·refine Ck (Xn (Cs (Cb (Csr ?_))));obtain ⟨q1,y,hq,ht,htm,hra,hc⟩:=hr.bd.get (i:=i) (by omega);refine Zv ((OV.ae (show _=some (Value.slice (some q1) q.bd.length q.bc) by rw [← hq];rfl) rfl T.u27 T.z26 (by omega)).cast (u:=.pointer (some (q1.add (i*5)))) (by rw [xN])) (Zv (OV.am (cs:=agC y) rfl T.u26 rfl T.z26 (fun _ hw j v hj=>Jcx hk (hU.blk pre) hw _ _ (hc j v hj))) (WL.alloc T.zr26 rfl ?_));intro b5;refine WL.aj (vs:=agC y) rfl rfl rfl T.z26 rfl ?_;refine Nn (Cr (Zv (OV.lN (cs:=agC y) rfl T.u26 rfl T.z26 yF) (Zm rfl ?_)));have hle:=Jeg (fun y:AG=>plc y.x) q.bd (i+1);rw [Jfp ht,← Jf0,xL] at hle;refine WL.focus (ow':=St (pre++plc q.hd.x++(q.bd.take i).flatMap fun y=>plc y.x)++[oQ b5 (agC y) 26,oQ b2 (cgC q) 30]) (pmC [[oQ b5 (agC y) 26],St (pre++plc q.hd.x++(q.bd.take i).flatMap fun y=>plc y.x),[oQ b2 (cgC q) 30]] [1,0,2]) ?_;refine WL.cT (ι:=Unit) (vs:=[atV y.x y.a y.c,.func (.func g) #[] caps.toArray]) (vv:=fun _=>.tuple #[]) (pp:=fun _=>True) (St (pre++plc q.hd.x++(q.bd.take i).flatMap fun y=>plc y.x)) (AA:=fun _=>St ((pre++plc q.hd.x++(q.bd.take i).flatMap fun y=>plc y.x)++plc y.x)) rfl (fun w' hw' hH=>(Jdy St N g caps w0 hU y.x y.a y.c (pre++plc q.hd.x++(q.bd.take i).flatMap fun y=>plc y.x) (by (try simp only [xL]);omega) hN2 w' hra (Jcx hk (hU.blk pre) hw') hH).mono (fun en w'' ⟨h1,h2⟩=>⟨(),h1,trivial,h2⟩)) ?_;rintro _ _;refine Nl (Xb (Xn (Cr (Zv (OV.bh (j:=1) rfl rfl (by omega)) (Zm rfl (Nl ?_))))))
  exact WX.au (i+1) Y5 (fun w' hw=>⟨by omega,by
   rw [Jfp ht,← xF];exact hw.pik [St ((pre++plc q.hd.x++(q.bd.take i).flatMap fun y=>plc y.x)++plc y.x),[oQ b5 (agC y) 26],[oQ b2 (cgC q) 30]] [0,2] 3⟩) (by show q.bd.length - (i+1)<q.bd.length - i;omega)
 refine Ce (Xe (Xe (Xh (Xn (Csr (Zv (OV.f0 6 rfl T.u30 rfl) (Zv (OV.ap (v:=.slice q.ta q.ts.length q.tc) rfl T.u28 rfl (fun _ hw=>(Jbn (hw.it (oQ b2 (cgC q) 30) (by simp)) (o:=6) rfl).1)) (Zv (OV.ad rfl T.u28) (Zm rfl (Nn (Cb ?_)))))))))));rw [xK (by omega),← Jf0];clear hi
 refine WC.bz (fun (i:Nat)=>[(1,.func (.func g) #[] caps.toArray),(2,yX b2),(24,.slice q.ta q.ts.length q.tc),(25,.int .i64 (q.ts.length:Int)),(26,.int .i64 (i:Int))])
   (fun i w'=>i≤q.ts.length∧SatA w (St pre) (St (pre++plc q.hd.x++Jbu q.cl++(q.ts.take i).flatMap plT)++[oQ b2 (cgC q) 30]) w')
   (fun i=>q.ts.length - i) 0 Y5 (fun w' hw=>⟨by omega,by simpa using hw⟩) ?_
 intro i;refine WC.pure (fun hi=>?_);refine Csr (Zv (OV.cu rfl rfl) (Nn (Cs ?_)));refine Cc rfl (fun c27=>?_) (fun c27=>?_)
 ·refine Ck (Xn (Cs (Cb (Csr ?_))));obtain ⟨q1,t,hq,ht,htm,hc⟩:=hr.ts.get (i:=i) (by omega);refine Zv ((OV.ae (show _=some (Value.slice (some q1) q.ts.length q.tc) by rw [← hq];rfl) rfl T.u28 T.z85 (by omega)).cast (u:=.pointer (some (q1.add (i*7)))) (by rw [xN])) (Zv (OV.am (cs:=tsC t) rfl T.u85 rfl T.z85 (fun _ hw j v hj=>Jcx hk (hU.blk pre) hw _ _ (hc j v hj))) (WL.alloc T.zr85 rfl ?_));intro b7;refine WL.aj (vs:=tsC t) rfl rfl rfl T.z85 rfl ?_;refine Nn (Csr (Zm rfl (Zv (OV.f0 1 rfl T.u85 rfl) (Zv (OV.am (cs:=tmC t.l) rfl T.u23 rfl T.z23 (fun _ hw j v hj=>by rw [Jav];exact Jbk hw yF (o:=1) (cs':=tmC t.l) rfl j v hj)) ?_))));have hle:=Jeg plT q.ts (i+1);rw [Jb1 ht,List.flatMap_append,xL,← Jgr,Jf6] at hle;have hle2:2*q.cl.ts.length=2*q.ts.length:=rfl;have hpt:([t].flatMap plT).length=2:=rfl;refine WL.focus (ow':=St ((pre++plc q.hd.x++Jbu q.cl++(q.ts.take i).flatMap plT))++[oQ b7 (tsC t) 85,oQ b2 (cgC q) 30]) (pmC [[oQ b7 (tsC t) 85],St (pre++plc q.hd.x++Jbu q.cl++(q.ts.take i).flatMap plT),[oQ b2 (cgC q) 30]] [1,0,2]) ?_;refine WL.ew (ι:=Unit) (f:=g) (caps:=caps) (vs:=[tmV t.l]) (vv:=fun _=>.tuple #[]) (SS:=fun _=>SatA w (St pre) (St ((pre++plc q.hd.x++Jbu q.cl++(q.ts.take i).flatMap plT)++[t.l])++[oQ b7 (tsC t) 85,oQ b2 (cgC q) 30])) hU.bod rfl rfl rfl (fun w' hw'=>(hU.run ((pre++plc q.hd.x++Jbu q.cl++(q.ts.take i).flatMap plT)) t.l w' (by (try simp only [xL,List.length_cons,List.length_nil,xJ]);omega) (Hw.Sat.holds hw')).mono (fun en w'' ⟨h1,h2⟩=>⟨(),h1,hw'.turns h2⟩)) ?_;intro _;refine Nn (Cr (Zm rfl (Zv (OV.f0 4 rfl T.u85 rfl) (Zv (OV.am (cs:=tmC t.r) rfl T.u23 rfl T.z23 (fun _ hw j v hj=>by rw [Jav];exact Jbk hw (show oQ b7 (tsC t) 85∈_ by simp) (o:=4) (cs':=tmC t.r) rfl j v hj)) (WL.focus (ow':=St (((pre++plc q.hd.x++Jbu q.cl++(q.ts.take i).flatMap plT)++[t.l]))++[oQ b7 (tsC t) 85,oQ b2 (cgC q) 30]) (List.Perm.refl _) ?_)))));refine WL.ew (ι:=Unit) (f:=g) (caps:=caps) (vs:=[tmV t.r]) (vv:=fun _=>.tuple #[]) (SS:=fun _=>SatA w (St pre) (St (((pre++plc q.hd.x++Jbu q.cl++(q.ts.take i).flatMap plT)++[t.l])++[t.r])++[oQ b7 (tsC t) 85,oQ b2 (cgC q) 30])) hU.bod rfl rfl rfl (fun w' hw'=>(hU.run (((pre++plc q.hd.x++Jbu q.cl++(q.ts.take i).flatMap plT)++[t.l])) t.r w' (by (try simp only [xL,List.length_cons,List.length_nil,xJ,xQ]);omega) (Hw.Sat.holds hw')).mono (fun en w'' ⟨h1,h2⟩=>⟨(),h1,hw'.turns h2⟩)) ?_;intro _;refine Nl (Xb (Xn (Cr (Zv (OV.bh (j:=1) rfl rfl (by omega)) (Zm rfl (Nl ?_))))))
  exact WX.au (i+1) Y5 (fun w' hw=>⟨by omega,by
   rw [Jb1 ht,List.flatMap_append,← xF,show [t].flatMap plT=[t.l]++[t.r] from rfl,← xF];exact hw.pik [St ((pre++plc q.hd.x++Jbu q.cl++(q.ts.take i).flatMap plT)++[t.l]++[t.r]),[oQ b7 (tsC t) 85],[oQ b2 (cgC q) 30]] [0,2] 3⟩) (by show q.ts.length - (i+1)<q.ts.length - i;omega)
 refine Ce (Xe (Xe (Xh ?_)));rw [xK (by omega),← Jgr,show pre++plc q.hd.x++Jbu q.cl++Jbx q.cl=pre++Jcb q.cl by unfold Jcb;simp only [xF];rfl];exact WX.ret0 rfl rfl (fun w' hw=>⟨rfl,Hw.Sat.turnedL hw⟩)
theorem Src.of_rowI {w0 ws w:World}{M I:Nat→Prop}{ow:List Hw.Item}{a:Option Addr}{c:Nat}{l:List Int}(hw:Sat w0 M I ws ow w)(hm:rowI a c l∈ow):Src (Sat w0 M I ws ow) a l.length 1 (ints l):=by
 refine ⟨by rw [ints_length,Nat.mul_one],(RI.of_row (c:=c) hw hm).2.1,fun w2 hw2 b hb j u hj=>?_⟩
 have h1:∃ n,l[j]?=some n∧u=.int .i64 n:=by
  unfold ints at hj;rw [xG] at hj;obtain ⟨n,h2,h3⟩:=Option.map_eq_some_iff.1 hj;exact ⟨n,h2,h3.symm⟩
 obtain ⟨n,h2,rfl⟩:=h1;exact (RI.of_row (c:=c) hw2 hm).2.2 b hb j n h2
def uns (l:List Int)(pre:List Tm):Bool:=pre.any fun t=>varB t && !decide (t.n∈l)
theorem Jif (l:List Int)(pre:List Tm)(t:Tm):uns l (pre++[t])=(uns l pre || (varB t && !decide (t.n∈l))):=by
 unfold uns;rw [List.any_append];simp
def stU (nb bb:Nat)(la:Option Addr)(lc:Nat)(l:List Int)(pre:List Tm):List Hw.Item:=[oQ nb [Value.bool (uns l pre)] 4,oQ bb [Value.slice la l.length lc] 32,rowI la lc l]
def stM (nb nn:Nat)(pre:List Tm):List Hw.Item:=[oQ nb [Value.bool (misF pre).2] 4,oQ nn [Value.int .i64 (misF pre).1] 3]
def stV (nm m:Nat)(pre:List Tm):List Hw.Item:=[oQ nm [Value.map (some m)] 87,own m (mapK iV (cntM (vnums pre)))]
def bodyI (c:Cl):List Int:=c.bd.flatMap fun x=>dedI (Jah x)
def err0 (c:Cl):Int:=if 8<c.bd.length∨8<c.ts.length then 31 else 0
def err1 (c:Cl):Int:=(((c.hd::c.bd).map chkA).find? fun e=>e != 0).getD 0
def err2 (c:Cl):Int:=if c.ts.all tstB=true then 0 else 32
def err3 (c:Cl):Int:=if varB c.hd.b=true then 33 else 0
def err4 (c:Cl):Int:=if uns (bodyI c) (plc c.hd++Jbx c)=true then 34 else 0
def err5 (c:Cl):Int:=if (misF (Jcb c)).2=true then 35 else 0
def errL (c:Cl):List Int:=[err0 c,err1 c,err2 c,err3 c,err4 c,err5 c]
def fstE (l:List Int):Int:=(l.find? fun e=>e != 0).getD 0
def chkC (c:Cl):Int:=fstE (errL c)
theorem Jeo:∀ {l:List Int} {i:Nat} {e:Int},l[i]?=some e→e≠0→(∀ u∈l.take i,u=0)→fstE l=e
 | u::l,0,e,h,he,_=>by
  simp only [List.getElem?_cons_zero,Option.some.injEq] at h;subst h;unfold fstE;rw [List.find?_cons_of_pos (by simpa using he)];rfl
 | u::l,i+1,e,h,he,hn=>by
  have hu:u=0:=hn u (by simp);have:=Jeo (l:=l) (i:=i) (by simpa using h) he (fun v hv=>hn v (by simp [hv]));unfold fstE at this ⊢;rw [List.find?_cons_of_neg (by simp [hu])];exact this
theorem Jfg {l:List Int}(hn:∀ u∈l,u=0):fstE l=0:=by
 unfold fstE;rw [List.find?_eq_none.2 (fun u hu=>by simp [hn u hu])];rfl
theorem zero_step {l:List Int}{i:Nat}{e:Int}(hn:∀ u∈l.take i,u=0)(h:l[i]?=some e)(he:e=0):∀ u∈l.take (i+1),u=0:=fun v hv=>by
 rw [Jb1 h] at hv;rcases List.mem_append.1 hv with h1 | h1
 ·exact hn v h1
 ·simp only [xI] at h1;rw [h1];exact he
theorem mem_bodyI {c:Cl}{v:Int}:v∈bodyI c↔v∈vnums (Jbu c):=by
 unfold bodyI Jbu;rw [List.mem_flatMap,mem_vnums];constructor
 ·rintro ⟨x,hx,hv⟩;obtain ⟨t,h1,h2,h3⟩:=mem_vnums.1 ((Jga _ _).1 hv);exact ⟨t,List.mem_flatMap.2 ⟨x,hx,h1⟩,h2,h3⟩
 ·rintro ⟨t,h1,h2,h3⟩;obtain ⟨x,hx,h4⟩:=List.mem_flatMap.1 h1;exact ⟨x,hx,(Jga _ _).2 (mem_vnums.2 ⟨t,h4,h2,h3⟩)⟩
theorem VC.errs {c:Cl}(h:VC c):∀ u∈errL c,u=0:=by
 have h0:err0 c=0:=by unfold err0;rw [if_neg (by have:=h.bl;have:=h.tl;omega)]
 have h1:err1 c=0:=by
  unfold err1
  rw [List.find?_eq_none.2 (fun u hu=>by
   obtain ⟨x,hx,rfl⟩:=List.mem_map.1 hu;rcases List.mem_cons.1 hx with rfl | hx
   ·simp [h.hd]
   ·simp [h.bd x hx])]
  rfl
 have h2:err2 c=0:=by unfold err2;rw [if_pos (List.all_eq_true.2 h.ts)]
 have h3:err3 c=0:=by unfold err3;rw [if_neg (by rw [h.hb];simp)]
 have h4:err4 c=0:=by
  unfold err4 uns;rw [if_neg];rw [Bool.not_eq_true,List.any_eq_false];intro t ht hh;rw [xY] at hh;have h5:=h.safe t ht hh.1;have h6:t.n∈bodyI c:=mem_bodyI.2 (mem_vnums.2 ⟨t,h5,hh.1,rfl⟩);rw [xO h6] at hh;exact absurd hh.2 (by simp)
 have h5:err5 c=0:=by unfold err5;rw [misF_ok _ h.num];rfl
 intro u hu;simp only [errL,yE,List.not_mem_nil,or_false] at hu;rcases hu with rfl | rfl | rfl | rfl | rfl | rfl <;> assumption
theorem VC.chk {c:Cl}(h:VC c):chkC c=0:=Jfg h.errs
def chkL:List Value:=[.func (.func 315) #[] #[],.func (.func 316) #[] #[],.func (.func 317) #[] #[],.func (.func 318) #[] #[],.func (.func 319) #[] #[],.func (.func 320) #[] #[]]
def Jfk (w:World):Prop:=∀ j v,chkL[j]?=some v→w.cell? ⟨3,j,none⟩=some v
theorem Jfk.keeps {w w':World}(h:Jfk w)(k:Keeps w w'):Jfk w':=fun j v hj=>k _ _ (h j v hj)
structure CS (g:CG):Prop where
 at_:∀ y,y=g.hd∨y∈g.bd→y.x.args.length≤1048575∧y.x.name.size≤1099511627776
 bl:g.bd.length≤1048576
 tl:g.ts.length≤1048576
 tt:(Jcb g.cl).length≤1048576
theorem Jf4 (nb bb:Nat)(la:Option Addr)(lc:Nat)(l:List Int)(hl:l.length≤1099511627776)(pre:List Tm)(t:Tm)(w:World)(hA:Holds (stU nb bb la lc l pre) w):Calls Tryz.prog 322 #[tmV t,ptr nb,ptr bb] w fun e w'=>e=.returned (.tuple #[])∧Turns (stU nb bb la lc l pre) (stU nb bb la lc l (pre++[t])) w w':=by
 refine Jil hA (args:=[tmV t,ptr nb,ptr bb]) Tryz.func322 rfl Tryz.ntmps322 rfl rfl ?_;refine Csr (WL.box rfl rfl rfl ?_);intro b3;refine Nn (Cr (Zv (OV.l1 (v:=.bool (uns l pre)) rfl T.u4 rfl yG rfl) (Zm rfl ?_)));refine Zp (t:=5) rfl (fun g5=>?_) (fun g5=>?_)
 ·refine yV (yV (yV (Zu rfl rfl (Zu rfl rfl (Zu rfl rfl (Zu rfl rfl (Zu rfl rfl (yV (Zv (OV.ak rfl rfl) ?_)))))))));refine WL.focus perm1 (WL.cd (o:=0) rfl rfl rfl T.z4 Nat.zero_lt_one ?_);refine Nl ?_;have em:uns l (pre++[t])=true:=by rw [Jif];rw [g5];rfl
  exact WX.ret0 rfl rfl (fun w' hw=>⟨rfl,by
   unfold stU;rw [em];exact (hw.pik [[oQ nb [Value.bool true] 4],[oQ b3 (tmC t) 23],[oQ bb [Value.slice la l.length lc] 32],[rowI la lc l]] [0,2,3] 4).turned⟩)
 refine yW (Zv (OV.lN (cs:=tmC t) rfl T.u23 rfl T.z23 yF) (yW (WL.aw (v:=.bool (varB t)) (by kernel_rfl) rfl rfl (fun w' hw'=>Jcr t w') ?_)));refine yW (Zm rfl ?_);refine Zp (t:=8) rfl (fun g8=>?_) (fun g8=>?_)
 ·refine yW (Zv (OV.l1 (v:=.slice la l.length lc) rfl T.u32 rfl yH rfl) (yW (Zv (OV.f0 1 rfl T.u23 rfl) (yW (Zv (OV.l1 (v:=.int .i64 t.n) rfl T.u3 rfl yF rfl) (yW (WL.aw (v:=.bool (decide (t.n∈l))) (by kernel_rfl) rfl rfl (fun w' hw'=>contI_calls l la lc t.n hl w' (RI.of_row (c:=lc) hw' yI)) ?_)))))));refine yW (Zv (OV.not rfl) (yW (Zv (OV.ak rfl rfl) (Zv (OV.ai rfl rfl) ?_))));refine WL.focus perm1 (WL.cd (o:=0) rfl rfl rfl T.z4 Nat.zero_lt_one ?_);refine Nl ?_;have em:uns l (pre++[t])=(!decide (t.n∈l)):=by rw [Jif];rw [g5,g8];rfl
  exact WX.ret0 rfl rfl (fun w' hw=>⟨rfl,by
   unfold stU;rw [em];exact (hw.pik [[oQ nb [Value.bool (!decide (t.n∈l))] 4],[oQ b3 (tmC t) 23],[oQ bb [Value.slice la l.length lc] 32],[rowI la lc l]] [0,2,3] 4).turned⟩)
 refine yV (yV (yV (yV (yV (yW (Zv (OV.ai rfl rfl) (Zv (OV.ai rfl rfl) ?_)))))));refine WL.focus perm1 (WL.cd (o:=0) rfl rfl rfl T.z4 Nat.zero_lt_one ?_);refine Nl ?_;have em:uns l (pre++[t])=false:=by rw [Jif];rw [g5,g8];rfl
 exact WX.ret0 rfl rfl (fun w' hw=>⟨rfl,by
  unfold stU;rw [em];exact (hw.pik [[oQ nb [Value.bool false] 4],[oQ b3 (tmC t) 23],[oQ bb [Value.slice la l.length lc] 32],[rowI la lc l]] [0,2,3] 4).turned⟩)
theorem misU_calls (nb nn:Nat)(pre:List Tm)(hp:pre.length<1099511627776)(t:Tm)(w:World)(hA:Holds (stM nb nn pre) w):Calls Tryz.prog 324 #[tmV t,ptr nb,ptr nn] w fun e w'=>e=.returned (.tuple #[])∧Turns (stM nb nn pre) (stM nb nn (pre++[t])) w w':=by
 refine Jil hA (args:=[tmV t,ptr nb,ptr nn]) Tryz.func324 rfl Tryz.ntmps324 rfl rfl ?_;refine Csr (WL.box rfl rfl rfl ?_);intro b3;refine Nn (Cs (Csr (Zv (OV.lN (cs:=tmC t) rfl T.u23 rfl T.z23 yF) (WL.aw (v:=.bool (varB t)) (by kernel_rfl) rfl rfl (fun w' hw'=>Jcr t w') ?_))));refine Zv (OV.not rfl) (Nn ?_);refine Cc rfl (fun c6=>?_) (fun c6=>?_)
 ·refine WC.ay ?_;refine Xr ?_;have em:misF (pre++[t])=misF pre:=by rw [Je2];unfold misS;rw [if_neg (by simpa using c6)]
  exact WX.ret0 rfl rfl (fun w' hw=>⟨rfl,by
   unfold stM;rw [em];exact (hw.pik [[oQ b3 (tmC t) 23],[oQ nb [Value.bool (misF pre).2] 4],[oQ nn [Value.int .i64 (misF pre).1] 3]] [1,2] 3).turned⟩)
 refine Ck (Xn (Cs ?_));refine WC.fw [(1,ptr nb),(2,ptr nn),(3,ptr b3)] (SatA w (stM nb nn pre) (oQ nb [Value.bool ((misF pre).2 || decide ((misF pre).1<t.n))] 4::oQ b3 (tmC t) 23::oQ nn [Value.int .i64 (misF pre).1] 3::[])) ?_ ?_
 ·refine Cr (Zv (OV.l1 (v:=.bool (misF pre).2) rfl T.u4 rfl yG rfl) (Zm rfl ?_));refine Zp (t:=8) rfl (fun g8=>?_) (fun g8=>?_)
  ·refine yV (yV (yV (yV (Zv (OV.ak rfl rfl) ?_))));refine WL.focus perm1 (WL.cd (o:=0) rfl rfl rfl T.z4 Nat.zero_lt_one ?_);refine Nl ?_;exact WX.dt Y3 (fun w' hw=>by rw [g8,Bool.true_or];exact hw)
  refine yW (Zv (OV.f0 1 rfl T.u23 rfl) (yW (Zv (OV.l1 (v:=.int .i64 t.n) rfl T.u3 rfl yF rfl) (yW (Zv (OV.l1 (v:=.int .i64 (misF pre).1) rfl T.u3 rfl yH rfl) (yW (Zv (OV.ia rfl rfl) (Zv (OV.ai rfl rfl) ?_))))))));refine WL.focus perm1 (WL.cd (o:=0) rfl rfl rfl T.z4 Nat.zero_lt_one ?_);refine Nl ?_;exact WX.dt Y3 (fun w' hw=>by rw [g8,Bool.false_or];exact hw)
 refine Csr (Zv (OV.f0 1 rfl T.u23 rfl) (Zv (OV.l1 (v:=.int .i64 t.n) rfl T.u3 rfl yG rfl) (Zv (OV.l1 (v:=.int .i64 (misF pre).1) rfl T.u3 rfl yH rfl) (Zv (OV.dq rfl rfl) (Nn ?_)))));refine Cc rfl (fun c17=>?_) (fun c17=>?_)
 ·refine Cr (Zv (OV.l1 (v:=.int .i64 (misF pre).1) rfl T.u3 rfl yH rfl) ?_);have hml:=misF_len pre;refine Zv (OV.ie rfl rfl (by omega)) ?_;refine WL.focus perm2 (WL.cd (o:=0) rfl rfl rfl T.z3 Nat.zero_lt_one ?_);refine Nl ?_;have em:misF (pre++[t])=((misF pre).1+1,(misF pre).2 || decide ((misF pre).1<t.n)):=by rw [Je2];unfold misS;rw [if_pos (by simpa using c6),if_pos c17]
  exact WX.ret0 rfl rfl (fun w' hw=>⟨rfl,by
   unfold stM;rw [em];exact (hw.pik [[oQ nn [Value.int .i64 ((misF pre).1+1)] 3],[oQ nb [Value.bool ((misF pre).2 || decide ((misF pre).1<t.n))] 4],[oQ b3 (tmC t) 23]] [1,0] 3).turned⟩)
 refine Ck ?_;have em:misF (pre++[t])=((misF pre).1,(misF pre).2 || decide ((misF pre).1<t.n)):=by rw [Je2];unfold misS;rw [if_pos (by simpa using c6),if_neg c17]
 exact WX.ret0 rfl rfl (fun w' hw=>⟨rfl,by
  unfold stM;rw [em];exact (hw.pik [[oQ nb [Value.bool ((misF pre).2 || decide ((misF pre).1<t.n))] 4],[oQ b3 (tmC t) 23],[oQ nn [Value.int .i64 (misF pre).1] 3]] [0,2] 3).turned⟩)
theorem varsU_calls (nm m:Nat)(pre:List Tm)(hp:pre.length<1099511627776)(t:Tm)(w:World)(hA:Holds (stV nm m pre) w):Calls Tryz.prog 107 #[tmV t,ptr nm] w fun e w'=>e=.returned (.tuple #[])∧Turns (stV nm m pre) (stV nm m (pre++[t])) w w':=by
 refine Jil hA (args:=[tmV t,ptr nm]) Tryz.func107 rfl Tryz.ntmps107 rfl rfl ?_;refine Csr (WL.box rfl rfl rfl ?_);intro b2;refine Nn (Csr (Zv (OV.lN (cs:=tmC t) rfl T.u23 rfl T.z23 yF) (WL.aw (v:=.bool (varB t)) (by kernel_rfl) rfl rfl (fun w' hw'=>Jcr t w') ?_)));refine Nn ?_;refine Cc rfl (fun c4=>?_) (fun c4=>?_)
 ·refine Cr (Zv (OV.l1 (v:=.map (some m)) rfl T.u87 rfl yG rfl) (Zv (OV.f0 1 rfl T.u23 rfl) (Zv (OV.l1 (v:=.int .i64 t.n) rfl T.u3 rfl yF rfl) (Zv ((OV.lookup Jir T.u87 (show Program.zv Tryz.prog 3=some (.int .i64 0) by kernel_rfl) rfl rfl (fun _ hw=>hw.it (own m (mapK iV (cntM (vnums pre)))) yH)).cast (u:=.int .i64 (((vnums pre).count t.n:Nat):Int)) (Jfy _ _)) ?_))));have hcl:=Nat.le_trans (List.count_le_length (a:=t.n) (l:=vnums pre)) (Jgp pre);refine Zv (OV.ie rfl rfl (by omega)) ?_;refine WL.focus perm2 (WL.mapUpdate Jir T.u87 rfl rfl rfl ?_);refine Nl ?_;have em:ups (cntM (vnums pre)) t.n (.int .i64 (((vnums pre).count t.n:Nat)+1))=cntM (vnums (pre++[t])):=by rw [Jd3,if_pos c4,Jfz,cval_cntM]
  rw [em];exact WX.ret0 rfl rfl (fun w' hw=>⟨rfl,(hw.pik [[own m (mapK iV (cntM (vnums (pre++[t]))))],[oQ b2 (tmC t) 23],[oQ nm [Value.map (some m)] 87]] [2,0] 3).turned⟩)
 refine Ck ?_;have em:vnums (pre++[t])=vnums pre:=by rw [Jd3,if_neg (by simpa using c4),xX]
 exact WX.ret0 rfl rfl (fun w' hw=>⟨rfl,by
  unfold stV;rw [em];exact (hw.pik [[oQ b2 (tmC t) 23],[oQ nm [Value.map (some m)] 87],[own m (mapK iV (cntM (vnums pre)))]] [1,2] 3).turned⟩)
theorem Jej (b:Bool)(k:Int)(w:World):Calls Tryz.prog 321 #[.bool b,.int .i64 k] w fun e w'=>e=.returned (.int .i64 (if b=true then k else 0))∧Fr0 w w':=by
 refine Jbi (args:=[.bool b,.int .i64 k]) (fun _=>False) Tryz.func321 rfl Tryz.ntmps321 rfl rfl ?_;refine Csr (Za rfl (Nn (Cs (Csr (Zm rfl (Nn ?_))))));refine Cc rfl (fun c5=>?_) (fun c5=>?_)
 ·refine Csr (Zm rfl (Za rfl (Nn (WC.ay ?_))));refine Xr ?_;exact WX.ret1 rfl rfl rfl (fun w' hw=>⟨by rw [if_pos c5],hw.fr⟩)
 refine Ck (Xn (Csr (Za rfl (Nn (WC.ay ?_)))));exact WX.ret1 rfl rfl rfl (fun w' hw=>⟨by rw [if_neg (by rw [c5];simp)],hw.fr⟩)
theorem tooLong_calls (g:CG)(hs:CS g)(w:World)(hN:Jdi w)(hr:RC w g):Calls Tryz.prog 315 #[cgV g] w fun e w'=>e=.returned (.int .i64 (err0 g.cl))∧Fr0 w w':=by
 refine Jbi (args:=[cgV g]) (fun _=>False) Tryz.func315 rfl Tryz.ntmps315 rfl rfl ?_;refine Csr (WL.box rfl rfl rfl ?_);intro b1;refine Za rfl (Nn (Csr (Zv (OV.f0 5 rfl T.u30 rfl) (Zv (OV.l1 (v:=.slice g.ba g.bd.length g.bc) rfl T.u27 rfl yF rfl) (Zv (OV.ad rfl T.u27) (Zv (OV.ia rfl rfl) (Zm rfl ?_)))))));refine Zp (t:=7) rfl (fun g7=>?_) (fun g7=>?_)
 ·refine yV (yV (yV (yV (Zv (OV.ak rfl rfl) ?_))));have em:err0 g.cl=31:=by unfold err0;rw [if_pos (Or.inl (by show 8<(g.bd.map AG.x).length;rw [xE];omega))]
  refine WL.c0 (v:=.int .i64 (err0 g.cl)) (vs:=[.bool true,.int .i64 31]) (fun w' hw'=>(Jej true 31 w').mono (fun en w'' ⟨h1,h2⟩=>⟨by rw [h1,em];rfl,h2⟩)) ?_;refine Za rfl (Nn (WC.ay ?_));exact WX.ret1 rfl rfl rfl (fun w' hw=>⟨rfl,hw.fr⟩)
 refine yW (Zv (OV.f0 6 rfl T.u30 rfl) (yW (Zv (OV.l1 (v:=.slice g.ta g.ts.length g.tc) rfl T.u28 rfl yF rfl) (yW (Zv (OV.ad rfl T.u28) (yW (Zv (OV.ia rfl rfl) (Zv (OV.ai rfl rfl) ?_))))))))
 have em:err0 g.cl=if decide ((g.ts.length:Int) > 8)=true then 31 else 0:=by
  unfold err0;have e1:g.cl.bd.length=g.bd.length:=xE _;have e2:g.cl.ts.length=g.ts.length:=rfl;rw [e1,e2]
  by_cases h:8<g.ts.length
  ·rw [if_pos (Or.inr h),if_pos (xO (by omega))]
  ·rw [if_neg (by omega),if_neg (by rw [xP (by omega)];simp)]
 refine WL.c0 (v:=.int .i64 (err0 g.cl)) (vs:=[.bool (decide ((g.ts.length:Int) > 8)),.int .i64 31]) (fun w' hw'=>(Jej (decide ((g.ts.length:Int) > 8)) 31 w').mono (fun en w'' ⟨h1,h2⟩=>⟨by rw [h1,em],h2⟩)) ?_;refine Za rfl (Nn (WC.ay ?_));exact WX.ret1 rfl rfl rfl (fun w' hw=>⟨rfl,hw.fr⟩)
theorem err1_at {g:CG}{i:Nat}{y:AG}(h:g.bd[i]?=some y)(he:chkA y.x≠0)(h0:chkA g.hd.x=0)(hn:∀ y∈g.bd.take i,chkA y.x=0):err1 g.cl=chkA y.x:=by
 refine Jeo (l:=(g.cl.hd::g.cl.bd).map chkA) (i:=i+1) ?_ he (fun u hu=>?_)
 ·show ((g.bd.map AG.x).map chkA)[i]?=_;rw [xG,xG,h];rfl
 ·rw [yA,List.take_succ_cons] at hu;rcases List.mem_cons.1 hu with rfl | hu
  ·exact h0
  ·rw [← List.map_take,show g.cl.bd=g.bd.map AG.x from rfl,← List.map_take] at hu;obtain ⟨x,hx,rfl⟩:=List.mem_map.1 hu;obtain ⟨z,hz,rfl⟩:=List.mem_map.1 hx;exact hn z hz
theorem err1_hd {g:CG}(he:chkA g.hd.x≠0):err1 g.cl=chkA g.hd.x:=Jeo (l:=(g.cl.hd::g.cl.bd).map chkA) (i:=0) rfl he (fun u hu=>by simp at hu)
theorem err1_zero {g:CG}(h0:chkA g.hd.x=0)(hn:∀ y∈g.bd,chkA y.x=0):err1 g.cl=0:=by
 refine Jfg (l:=(g.cl.hd::g.cl.bd).map chkA) (fun u hu=>?_);obtain ⟨x,hx,rfl⟩:=List.mem_map.1 hu;rcases List.mem_cons.1 hx with rfl | hx
 ·exact h0
 ·obtain ⟨z,hz,rfl⟩:=List.mem_map.1 hx;exact hn z hz
theorem badAtom_calls (g:CG)(hs:CS g)(w:World)(hN:Jdi w)(hr:RC w g):Calls Tryz.prog 316 #[cgV g] w fun e w'=>e=.returned (.int .i64 (err1 g.cl))∧Fr0 w w':=by
 refine Jbi (args:=[cgV g]) (fun _=>False) Tryz.func316 rfl Tryz.ntmps316 rfl rfl ?_;refine Csr (WL.box rfl rfl rfl ?_);intro b1;refine Za rfl (Nn (Cs (Csr (Zv (OV.f0 0 rfl T.u30 rfl) ?_))));have hbl:=hs.bl;refine Zv (OV.am (cs:=atC g.hd.x g.hd.a g.hd.c) rfl T.u26 rfl T.z26 (fun _ hw j v hj=>by rw [Jav];exact Jbk hw yF (o:=0) (cs':=atC g.hd.x g.hd.a g.hd.c) rfl j v hj)) ?_;have hsh:=hs.at_ g.hd (Or.inl rfl);refine WL.c0 (v:=.int .i64 (chkA g.hd.x)) (vs:=[atV g.hd.x g.hd.a g.hd.c]) (fun w' hw'=>chkA_calls g.hd.x g.hd.a g.hd.c (by omega) hsh.2 w' (hN.keeps hw'.keeps) (hr.hd.keeps hw'.keeps)) ?_;refine Za rfl (Nn (Csr (Zm rfl (Zv (OV.fb rfl rfl) (Nn ?_)))));refine Cc rfl (fun c11=>?_) (fun c11=>?_)
 ·refine Csr (Zm rfl (Za rfl (Nn (WC.ay ?_))));refine Xr ?_;exact WX.ret1 rfl rfl rfl (fun w' hw=>⟨by rw [err1_hd c11],hw.fr⟩)
 refine Ck (Xn (Cs (Csr (Zv (OV.f0 5 rfl T.u30 rfl) (Zv (OV.l1 (v:=.slice g.ba g.bd.length g.bc) rfl T.u27 rfl yF rfl) (Zv (OV.ad rfl T.u27) (Zm rfl (Nn (Cb ?_)))))))))
 refine WC.bz (fun (i:Nat)=>[(1,yX b1),(14,.slice g.ba g.bd.length g.bc),(15,.int .i64 (g.bd.length:Int)),(16,.int .i64 (i:Int))])
   (fun i w'=>(i≤g.bd.length∧∀ y∈g.bd.take i,chkA y.x=0)∧Sat0 w (oQ b1 (cgC g) 30::[]) w')
   (fun i=>g.bd.length - i) 0 Y4 (fun w' hw=>⟨⟨by omega,fun y hy=>by simp at hy⟩,hw⟩) ?_
 intro i;refine WC.pure (fun hi=>?_);obtain ⟨hi,hn⟩:=hi;refine Csr (Zv (OV.cu rfl rfl) (Nn (Cs ?_)));refine Cc rfl (fun c17=>?_) (fun c17=>?_)
 ·refine Ck (Xn (Cs (Cb (Csr ?_))));obtain ⟨q1,y,hq,ht,htm,hra,hc⟩:=hr.bd.get (i:=i) (by omega);refine Zv ((OV.ae (show _=some (Value.slice (some q1) g.bd.length g.bc) by rw [← hq];rfl) rfl T.u27 T.z26 (by omega)).cast (u:=.pointer (some (q1.add (i*5)))) (by rw [xN])) (Zv (OV.am (cs:=agC y) rfl T.u26 rfl T.z26 (fun _ hw j v hj=>hw.keeps _ _ (hc j v hj))) (WL.alloc T.zr26 rfl ?_));intro b5;refine WL.aj (vs:=agC y) rfl rfl rfl T.z26 rfl ?_;refine Nn (Csr (Zv (OV.lN (cs:=agC y) rfl T.u26 rfl T.z26 yF) ?_));have hsy:=hs.at_ y (Or.inr htm);refine WL.c0 (v:=.int .i64 (chkA y.x)) (vs:=[atV y.x y.a y.c]) (fun w' hw'=>chkA_calls y.x y.a y.c (by omega) hsy.2 w' (hN.keeps hw'.keeps) (hra.keeps hw'.keeps)) ?_;refine Za rfl (Nn (Csr (Zm rfl (Zv (OV.fb rfl rfl) (Nn ?_)))));refine Cc rfl (fun c23=>?_) (fun c23=>?_)
  ·refine Csr (Zm rfl (Za rfl (Nn (WC.ay ?_))));refine Xq (Xr (Xr (Xq (Xr ?_))));exact WX.ret1 rfl rfl rfl (fun w' hw=>⟨by rw [err1_at ht c23 (by simpa using c11) hn],hw.fr⟩)
  refine Ck (Xb (Xn (Cr (Zv (OV.bh (j:=1) rfl rfl (by omega)) (Zm rfl (Nl ?_))))))
  exact WX.au (i+1) Y4 (fun w' hw=>⟨⟨by omega,fun z hz=>by
   rw [Jb1 ht] at hz;rcases List.mem_append.1 hz with h1 | h1
   ·exact hn z h1
   ·simp only [xI] at h1;rw [h1];simpa using c23⟩,hw.drop⟩) (by show g.bd.length - (i+1)<g.bd.length - i;omega)
 refine Ce (Xe (Xe (Xh (Xn (Csr (Za rfl (Nn (WC.ay ?_))))))));exact WX.ret1 rfl rfl rfl (fun w' hw=>⟨by rw [err1_zero (by simpa using c11) (fun y hy=>hn y (by rw [xK (by omega)];exact hy))],hw.fr⟩)
theorem badTest_calls (g:CG)(hs:CS g)(w:World)(hN:Jdi w)(hr:RC w g):Calls Tryz.prog 317 #[cgV g] w fun e w'=>e=.returned (.int .i64 (err2 g.cl))∧Fr0 w w':=by
 refine Jbi (args:=[cgV g]) (fun _=>False) Tryz.func317 rfl Tryz.ntmps317 rfl rfl ?_;refine Csr (WL.box rfl rfl rfl ?_);intro b1;refine Za rfl (Nn (Cs (Csr (Zv (OV.f0 6 rfl T.u30 rfl) ?_))));have htl:=hs.tl;refine Zv (OV.l1 (v:=.slice g.ta g.ts.length g.tc) rfl T.u28 rfl yF rfl) (Zv (OV.ad rfl T.u28) (Zm rfl (Nn (Cb ?_))))
 refine WC.bz (fun (i:Nat)=>[(1,yX b1),(7,.slice g.ta g.ts.length g.tc),(8,.int .i64 (g.ts.length:Int)),(9,.int .i64 (i:Int))])
   (fun i w'=>(i≤g.ts.length∧∀ t∈g.ts.take i,tstB t=true)∧Sat0 w (oQ b1 (cgC g) 30::[]) w')
   (fun i=>g.ts.length - i) 0 Y4 (fun w' hw=>⟨⟨by omega,fun y hy=>by simp at hy⟩,hw⟩) ?_
 intro i;refine WC.pure (fun hi=>?_);obtain ⟨hi,hn⟩:=hi;refine Csr (Zv (OV.cu rfl rfl) (Nn (Cs ?_)));refine Cc rfl (fun c10=>?_) (fun c10=>?_)
 ·refine Ck (Xn (Cs (Cb (Csr ?_))));obtain ⟨q1,t,hq,ht,htm,hc⟩:=hr.ts.get (i:=i) (by omega);refine Zv ((OV.ae (show _=some (Value.slice (some q1) g.ts.length g.tc) by rw [← hq];rfl) rfl T.u28 T.z85 (by omega)).cast (u:=.pointer (some (q1.add (i*7)))) (by rw [xN])) (Zv (OV.am (cs:=tsC t) rfl T.u85 rfl T.z85 (fun _ hw j v hj=>hw.keeps _ _ (hc j v hj))) (WL.alloc T.zr85 rfl ?_));intro b4;refine WL.aj (vs:=tsC t) rfl rfl rfl T.z85 rfl ?_;refine Nn (Csr (Zv (OV.lN (cs:=tsC t) rfl T.u85 rfl T.z85 yF) (WL.aw (v:=.int .i64 (if tstB t=true then 0 else 32)) (by kernel_rfl) rfl rfl (fun w' hw'=>checkTest_calls t w') ?_)));refine Za rfl (Nn (Csr (Zm rfl (Zv (OV.fb rfl rfl) (Nn ?_)))));refine Cc rfl (fun c16=>?_) (fun c16=>?_)
  ·refine Csr (Zm rfl (Za rfl (Nn (WC.ay ?_))));refine Xq (Xr (Xr (Xq (Xr ?_))));have hb:¬ tstB t=true:=fun h=>c16 (by rw [if_pos h])
   have em:err2 g.cl=32:=by unfold err2;show (if g.ts.all tstB=true then (0:Int) else 32)=32;rw [if_neg (fun h=>hb (List.all_eq_true.1 h t htm))]
   exact WX.ret1 rfl rfl rfl (fun w' hw=>⟨by rw [em,if_neg hb],hw.fr⟩)
  refine Ck (Xb (Xn (Cr (Zv (OV.bh (j:=1) rfl rfl (by omega)) (Zm rfl (Nl ?_))))))
  exact WX.au (i+1) Y4 (fun w' hw=>⟨⟨by omega,fun z hz=>by
   rw [Jb1 ht] at hz;rcases List.mem_append.1 hz with h1 | h1
   ·exact hn z h1
   ·simp only [xI] at h1;rw [h1];by_cases h2:tstB t=true;exact h2;rw [if_neg h2] at c16;exact absurd c16 (by decide)⟩,hw.drop⟩) (by show g.ts.length - (i+1)<g.ts.length - i;omega)
 refine Ce (Xe (Xe (Xh (Xn (Csr (Za rfl (Nn (WC.ay ?_))))))));have em:err2 g.cl=0:=by unfold err2;show (if g.ts.all tstB=true then (0:Int) else 32)=0;rw [if_pos (List.all_eq_true.2 fun t ht=>hn t (by rw [xK (by omega)];exact ht))]
 exact WX.ret1 rfl rfl rfl (fun w' hw=>⟨by rw [em],hw.fr⟩)
theorem openHead_calls (g:CG)(hs:CS g)(w:World)(hN:Jdi w)(hr:RC w g):Calls Tryz.prog 318 #[cgV g] w fun e w'=>e=.returned (.int .i64 (err3 g.cl))∧Fr0 w w':=by
 refine Jbi (args:=[cgV g]) (fun _=>False) Tryz.func318 rfl Tryz.ntmps318 rfl rfl ?_;refine Csr (WL.box rfl rfl rfl ?_);intro b1;refine Za rfl (Nn (Csr (Zv (OV.f0 0 rfl T.u30 rfl) (Zv (OV.f0 0 rfl T.u26 rfl) (Zv (OV.am (cs:=tmC g.hd.x.b) rfl T.u23 rfl T.z23 (fun _ hw j v hj=>by rw [Jav];exact Jbk hw yF (o:=0) (cs':=tmC g.hd.x.b) rfl j v hj)) (WL.aw (v:=.bool (varB g.hd.x.b)) (by kernel_rfl) rfl rfl (fun w' hw'=>Jcr g.hd.x.b w') ?_))))));refine WL.aw (v:=.int .i64 (err3 g.cl)) (by kernel_rfl) rfl rfl (fun w' hw'=>Jej (varB g.hd.x.b) 33 w') ?_;refine Za rfl (Nn (WC.ay ?_));exact WX.ret1 rfl rfl rfl (fun w' hw=>⟨rfl,hw.fr⟩)
theorem bodyI_take {g:CG}{i:Nat}{y:AG}(h:g.bd[i]?=some y):(((g.bd.take (i+1)).map AG.x).flatMap fun x=>dedI (Jah x))=(((g.bd.take i).map AG.x).flatMap fun x=>dedI (Jah x))++dedI (Jah y.x):=by
 rw [Jb1 h,xT,List.flatMap_append];simp
theorem bodyI_len (c:Cl):(bodyI c).length≤(Jbu c).length:=by
 unfold bodyI Jbu
 induction c.bd with
 | nil=>simp
 | cons x l ih=>
  rw [List.flatMap_cons,List.flatMap_cons,xL,xL];have h1:=dedI_len (Jah x);have h2:=Jgp (plc x);have h3:Jah x=vnums (plc x):=rfl;rw [h3] at h1 ⊢;omega
theorem stU_blk {nb bb lc:Nat}{la:Option Addr}{l:List Int}{ow:List Hw.Item}{w ws w':World}{I:Nat→Prop}(p0:List Tm)(hw:Sat w (fun _=>False) I ws (stU nb bb la lc l p0++ow) w'):∀ pre b,DD (stU nb bb la lc l pre) b→w.heap.size≤b:=fun pre b h=>by
 refine hw.newBlocks b ?_;rw [Jib];left;unfold stU at h ⊢;simp only [Ji9] at h ⊢;exact h
theorem stM_blk {nb nn:Nat}{ow:List Hw.Item}{w ws w':World}{I:Nat→Prop}(p0:List Tm)(hw:Sat w (fun _=>False) I ws (stM nb nn p0++ow) w'):∀ pre b,DD (stM nb nn pre) b→w.heap.size≤b:=fun pre b h=>by
 refine hw.newBlocks b ?_;rw [Jib];left;unfold stM at h ⊢;simp only [Ji9] at h ⊢;exact h
theorem stV_blk {nm m:Nat}{ow:List Hw.Item}{w ws w':World}{I:Nat→Prop}(p0:List Tm)(hw:Sat w (fun _=>False) I ws (stV nm m p0++ow) w'):∀ pre b,DD (stV nm m pre) b→w.heap.size≤b:=fun pre b h=>by
 refine hw.newBlocks b ?_;rw [Jib];left;unfold stV at h ⊢;simp only [Ji9] at h ⊢;exact h
theorem unsafe_calls (g:CG)(hs:CS g)(w:World)(hN:Jdi w)(hr:RC w g):Calls Tryz.prog 319 #[cgV g] w fun e w'=>e=.returned (.int .i64 (err4 g.cl))∧Fr0 w w':=by
 refine Jbi (args:=[cgV g]) (fun _=>False) Tryz.func319 rfl Tryz.ntmps319 rfl rfl ?_;refine Csr (WL.box rfl rfl rfl ?_);intro b1;refine Za rfl (Nn (Csr (WL.alloc T.zr32 rfl ?_)));intro b3;refine Nn (Cs (Csr (Zv (OV.f0 5 rfl T.u30 rfl) ?_)));have hbl:=hs.bl;have htl:=hs.tl;have htt:=hs.tt;rw [Jf7] at htt;have hlb:=bodyI_len g.cl;have hbl2:(bodyI g.cl).length≤1099511627776:=by omega
 refine Zv (OV.l1 (v:=.slice g.ba g.bd.length g.bc) rfl T.u27 rfl yG rfl) (Zv (OV.ad rfl T.u27) (Zm rfl (Nn (Cb (WC.weak (S':=Sat0 w (oQ b3 [Value.slice none 0 0] 32::row 3 1 none 0 0 []::oQ b1 (cgC g) 30::[])) (fun w' hw=>(hw.rowNil 3 1).perm (pmP [_,_,_] [1,0,2])) ?_)))))
 refine WC.d8 (fun (i:Nat) (la:Option Addr) (lc:Nat) (l:List Int)=>[(1,yX b1),(3,yX b3),(11,.slice g.ba g.bd.length g.bc),(12,.int .i64 (g.bd.length:Int)),(13,.int .i64 (i:Int))])
   (fun i la lc l w'=>(i≤g.bd.length∧l=(((g.bd.take i).map AG.x).flatMap fun x=>dedI (Jah x)))∧Sat0 w (oQ b3 [Value.slice la l.length lc] 32::rowI la lc l::oQ b1 (cgC g) 30::[]) w')
   (fun i _ _ _=>g.bd.length - i) 0 none 0 [] Y5 (fun w' hw=>⟨⟨by omega,rfl⟩,hw⟩) ?_
 intro i la lc l;refine WC.pure (fun hi=>?_);obtain ⟨hi,hle⟩:=hi;have hle0:l.length=(((g.bd.take i).map AG.x).flatMap fun x=>dedI (Jah x)).length:=by rw [hle]
 refine Csr (Zv (OV.cu rfl rfl) (Nn (Cs ?_)));refine Cc rfl (fun c14=>?_) (fun c14=>?_)
 ·refine Ck (Xn (Cs (Cb (Csr ?_))));obtain ⟨q1,y,hq,ht,htm,hra,hc⟩:=hr.bd.get (i:=i) (by omega);refine Zv ((OV.ae (show _=some (Value.slice (some q1) g.bd.length g.bc) by rw [← hq];rfl) rfl T.u27 T.z26 (by omega)).cast (u:=.pointer (some (q1.add (i*5)))) (by rw [xN])) (Zv (OV.am (cs:=agC y) rfl T.u26 rfl T.z26 (fun _ hw j v hj=>hw.keeps _ _ (hc j v hj))) (WL.alloc T.zr26 rfl ?_));intro b5;refine WL.aj (vs:=agC y) rfl rfl rfl T.z26 rfl ?_;refine Nn (Hd (fun w'=>w'.heap[b3]?=some (.cells [Value.slice la l.length lc].toArray 32 (0,0))∧w'.heap[b5]?=some (.cells (agC y).toArray 26 (0,0))) [4] (fun _ hw=>⟨hw.it (oQ b3 [Value.slice la l.length lc] 32) (by simp),hw.it (oQ b5 (agC y) 26) (by simp)⟩) (m:=5) rfl ?_);refine Ht 0 rfl (OV.ap (v:=.slice la l.length lc) rfl T.u32 rfl (fun _ hw=>(Jbn hw.1 (o:=0) rfl).1)) (Ht 1 rfl (OV.am (cs:=agC y) rfl T.u26 rfl T.z26 (fun _ hw j v hj=>by rw [Jav,xM];exact (Jbn hw.2 hj).1)) (Ho 2 rfl (fl':=false) rfl ?_));have hsy:=hs.at_ y (Or.inr htm)
  have hle9:((((g.bd.take i).map AG.x).flatMap fun x=>dedI (Jah x))++dedI (Jah y.x)).length≤(bodyI g.cl).length:=by
   rw [← bodyI_take ht,List.map_take];exact Jeg _ _ _
  rw [xL,← hle0] at hle9;refine WL.cT (ι:=Option Addr × Nat) (vs:=[atV y.x y.a y.c]) (vv:=fun z=>.slice z.1 (dedI (Jah y.x)).length z.2) (pp:=fun _=>True) [] (AA:=fun z=>[rowI z.1 z.2 (dedI (Jah y.x))]) rfl (fun w' hw' _=>(tvars_calls y.x y.a y.c hsy.1 w' (hra.keeps hw'.keeps)).mono (fun en w'' ⟨z,h1,h2⟩=>⟨z,h1,trivial,h2⟩)) ?_;rintro ⟨qa,qc⟩ _;refine Hc (fun _=>(fun _ hw=>⟨hw.it (oQ b3 [Value.slice la l.length lc] 32) (by simp),hw.it (oQ b5 (agC y) 26) (by simp)⟩)) ?_;refine Ho 3 rfl (fl':=false) rfl ?_;refine WL.focus (ow':=rowI la lc l::rowI qa qc (dedI (Jah y.x))::oQ b5 (agC y) 26::oQ b3 [Value.slice la l.length lc] 32::oQ b1 (cgC g) 30::[]) (pmP [_,_,_,_,_] [3,0,1,2,4]) ?_;refine WL.append (news:=ints (dedI (Jah y.x))) rfl rfl T.apI (fun w hw=>Src.of_rowI hw yG) (Jdf _) ⟨by omega,by unfold maxLen;omega⟩ rfl ?_;intro a20 c20;refine Hc (fun _=>(fun _ hw=>⟨hw.it (oQ b3 [Value.slice la l.length lc] 32) (by simp),hw.it (oQ b5 (agC y) 26) (by simp)⟩)) ?_;refine Ho 4 rfl (fl':=true) rfl ?_;refine WL.focus perm3 (WL.cd (o:=0) rfl rfl rfl T.z32 Nat.zero_lt_one ?_);refine Hc (fun h=>by cases h) ?_;refine He (Xb (Xn (Cr (Zv (OV.bh (j:=1) rfl rfl (by omega)) (Zm rfl (Nl ?_))))));have el:l.length+(dedI (Jah y.x)).length=(l++dedI (Jah y.x)).length:=by simp
  have ef:ints l++ints (dedI (Jah y.x))=ints (l++dedI (Jah y.x)):=by simp [ints]
  rw [el,ef]
  exact WX.cg (i+1) a20 c20 (l++dedI (Jah y.x)) Y5 (fun w' hw=>⟨⟨by omega,by rw [bodyI_take ht,hle]⟩,by
   exact hw.pik [[oQ b3 [Value.slice a20 (l++dedI (Jah y.x)).length c20] 32],[rowI a20 c20 (l++dedI (Jah y.x))],[rowI qa qc (dedI (Jah y.x))],[oQ b5 (agC y) 26],[oQ b1 (cgC g) 30]] [0,1,4] 5⟩) (by show g.bd.length - (i+1)<g.bd.length - i;omega)
 refine Ce (Xe (Xe (Xh (Xn (Csr (WL.alloc T.zr4 rfl ?_))))));intro b6;refine WL.cd (o:=0) rfl rfl rfl T.z4 Nat.zero_lt_one ?_;refine Nn (Cs ?_);rw [xK (by omega)] at hle;obtain rfl:l=bodyI g.cl:=hle;refine WC.weak (S':=Sat0 w (stU b6 b3 la lc (bodyI g.cl) ([])++[oQ b1 (cgC g) 30])) (fun w' hw=>hw.perm (List.Perm.refl _)) ?_;refine Cr (Zv (OV.makeFunc rfl) (Za rfl (Nn (Csr (Zv (OV.f0 0 rfl T.u30 rfl) (Zv (OV.am (cs:=atC g.hd.x g.hd.a g.hd.c) rfl T.u26 rfl T.z26 (fun _ hw j v hj=>by rw [Jav];exact Jbk hw (show oQ b1 (cgC g) 30∈_ by simp) (o:=0) (cs':=atC g.hd.x g.hd.a g.hd.c) rfl j v hj)) (Zm rfl ?_)))))));refine WL.fj (fun w' hw'=>stU_blk [] (show Sat w (fun _=>False) _ w (stU b6 b3 la lc (bodyI g.cl) ([])++[oQ b1 (cgC g) 30]) w' from hw')) (fun hB=>?_);have hU:=(fun hB=>(⟨by kernel_rfl,hB,fun pre t w1 hp hA=>Jf4 b6 b3 la lc (bodyI g.cl) hbl2 pre t w1 hA⟩:UseOK (stU b6 b3 la lc (bodyI g.cl)) 1099511627776 322 [ptr b6,ptr b3] w)) hB;refine WL.cT (ι:=Unit) (vs:=[atV g.hd.x g.hd.a g.hd.c,.func (.func 322) #[] #[ptr b6,ptr b3]]) (vv:=fun _=>.tuple #[]) (pp:=fun _=>True) (stU b6 b3 la lc (bodyI g.cl) ([])) (AA:=fun _=>stU b6 b3 la lc (bodyI g.cl) ([]++plc g.hd.x)) (ow:=[oQ b1 (cgC g) 30]) rfl (fun w' hw' hH=>(Jdy _ 1099511627776 322 _ w hU g.hd.x g.hd.a g.hd.c [] (by have:=hs.at_ g.hd (Or.inl rfl);simp [plc];omega) (Nat.le_refl _) w' hr.hd hw'.keeps hH).mono (fun en w'' ⟨h1,h2⟩=>⟨(),h1,trivial,h2⟩)) ?_;rintro _ _;refine Nn (Cs (Csr (Zv (OV.f0 6 rfl T.u30 rfl) (Zv (OV.ap (v:=.slice g.ta g.ts.length g.tc) rfl T.u28 rfl (fun _ hw=>(Jbn (hw.it (oQ b1 (cgC g) 30) (by simp)) (o:=6) rfl).1)) (Zv (OV.ad rfl T.u28) (Zm rfl (Nn (Cb ?_))))))))
 refine WC.bz (fun (i:Nat)=>[(1,yX b1),(6,yX b6),(7,.func (.func 322) #[] #[ptr b6,ptr b3]),(28,.slice g.ta g.ts.length g.tc),(29,.int .i64 (g.ts.length:Int)),(30,.int .i64 (i:Int))])
   (fun i w'=>i≤g.ts.length∧Sat0 w (stU b6 b3 la lc (bodyI g.cl) ((plc g.hd.x++(g.ts.take i).flatMap plT))++[oQ b1 (cgC g) 30]) w')
   (fun i=>g.ts.length - i) 0 Y6 (fun w' hw=>⟨by omega,by simpa using hw⟩) ?_
 clear hi;intro i;refine WC.pure (fun hi=>?_);refine Csr (Zv (OV.cu rfl rfl) (Nn (Cs ?_)));refine Cc rfl (fun c31=>?_) (fun c31=>?_)
 ·refine Ck (Xn (Cs (Cb (Csr ?_))));obtain ⟨q1,t,hq,ht,htm,hc⟩:=hr.ts.get (i:=i) (by omega);refine Zv ((OV.ae (show _=some (Value.slice (some q1) g.ts.length g.tc) by rw [← hq];rfl) rfl T.u28 T.z85 (by omega)).cast (u:=.pointer (some (q1.add (i*7)))) (by rw [xN])) (Zv (OV.am (cs:=tsC t) rfl T.u85 rfl T.z85 (fun _ hw j v hj=>hw.keeps _ _ (hc j v hj))) (WL.alloc T.zr85 rfl ?_));intro b9;refine WL.aj (vs:=tsC t) rfl rfl rfl T.z85 rfl ?_;refine Nn (Csr (Zm rfl (Zv (OV.f0 1 rfl T.u85 rfl) (Zv (OV.am (cs:=tmC t.l) rfl T.u23 rfl T.z23 (fun _ hw j v hj=>by rw [Jav];exact Jbk hw yF (o:=1) (cs':=tmC t.l) rfl j v hj)) (WL.focus (ow':=stU b6 b3 la lc (bodyI g.cl) ((plc g.hd.x++(g.ts.take i).flatMap plT))++[oQ b9 (tsC t) 85,oQ b1 (cgC g) 30]) (pmC [[oQ b9 (tsC t) 85],stU b6 b3 la lc (bodyI g.cl) ((plc g.hd.x++(g.ts.take i).flatMap plT)),[oQ b1 (cgC g) 30]] [1,0,2]) ?_)))));refine WL.ew (ι:=Unit) (f:=322) (caps:=[ptr b6,ptr b3]) (vs:=[tmV t.l]) (vv:=fun _=>.tuple #[]) (SS:=fun _=>Sat0 w (stU b6 b3 la lc (bodyI g.cl) ((plc g.hd.x++(g.ts.take i).flatMap plT)++[t.l])++[oQ b9 (tsC t) 85,oQ b1 (cgC g) 30])) (by kernel_rfl) rfl rfl rfl (fun w' hw'=>(Jf4 b6 b3 la lc (bodyI g.cl) hbl2 ((plc g.hd.x++(g.ts.take i).flatMap plT)) t.l w' (Hw.Sat.holds hw')).mono (fun en w'' ⟨h1,h2⟩=>⟨(),h1,hw'.turns h2⟩)) ?_;intro _;refine Nn (Cr (Zm rfl (Zv (OV.f0 4 rfl T.u85 rfl) (Zv (OV.am (cs:=tmC t.r) rfl T.u23 rfl T.z23 (fun _ hw j v hj=>by rw [Jav];exact Jbk hw (show oQ b9 (tsC t) 85∈_ by simp) (o:=4) (cs':=tmC t.r) rfl j v hj)) (WL.focus (ow':=stU b6 b3 la lc (bodyI g.cl) ((plc g.hd.x++(g.ts.take i).flatMap plT)++[t.l])++[oQ b9 (tsC t) 85,oQ b1 (cgC g) 30]) (List.Perm.refl _) ?_)))));refine WL.ew (ι:=Unit) (f:=322) (caps:=[ptr b6,ptr b3]) (vs:=[tmV t.r]) (vv:=fun _=>.tuple #[]) (SS:=fun _=>Sat0 w (stU b6 b3 la lc (bodyI g.cl) ((plc g.hd.x++(g.ts.take i).flatMap plT)++[t.l]++[t.r])++[oQ b9 (tsC t) 85,oQ b1 (cgC g) 30])) (by kernel_rfl) rfl rfl rfl (fun w' hw'=>(Jf4 b6 b3 la lc (bodyI g.cl) hbl2 ((plc g.hd.x++(g.ts.take i).flatMap plT)++[t.l]) t.r w' (Hw.Sat.holds hw')).mono (fun en w'' ⟨h1,h2⟩=>⟨(),h1,hw'.turns h2⟩)) ?_;intro _;refine Nl (Xb (Xn (Cr (Zv (OV.bh (j:=1) rfl rfl (by omega)) (Zm rfl (Nl ?_))))))
  exact WX.au (i+1) Y6 (fun w' hw=>⟨by omega,by
   rw [Jb1 ht,List.flatMap_append,← xF,show [t].flatMap plT=[t.l]++[t.r] from rfl,← xF];exact hw.pik [stU b6 b3 la lc (bodyI g.cl) ((plc g.hd.x++(g.ts.take i).flatMap plT)++[t.l]++[t.r]),[oQ b9 (tsC t) 85],[oQ b1 (cgC g) 30]] [0,2] 3⟩) (by show g.ts.length - (i+1)<g.ts.length - i;omega)
 refine Ce (Xe (Xe (Xh (Xn (Csr (Zv (OV.ap (v:=.bool (uns (bodyI g.cl) (plc g.hd.x++(g.ts.take i).flatMap plT))) rfl T.u4 rfl (fun _ hw=>(Jbn (hw.it (oQ b6 [Value.bool (uns (bodyI g.cl) (plc g.hd.x++(g.ts.take i).flatMap plT))] 4) (by simp [stU])) (o:=0) rfl).1)) ?_))))))
 have em:err4 g.cl=if uns (bodyI g.cl) (plc g.hd.x++(g.ts.take i).flatMap plT)=true then 34 else 0:=by
  rw [xK (by omega)];rfl
 refine WL.c0 (v:=.int .i64 (err4 g.cl)) (vs:=[.bool (uns (bodyI g.cl) (plc g.hd.x++(g.ts.take i).flatMap plT)),.int .i64 34]) (fun w' hw'=>(Jej (uns (bodyI g.cl) (plc g.hd.x++(g.ts.take i).flatMap plT)) 34 w').mono (fun en w'' ⟨h1,h2⟩=>⟨by rw [h1,em],h2⟩)) ?_;refine Za rfl (Nn (WC.ay ?_));exact WX.ret1 rfl rfl rfl (fun w' hw=>⟨rfl,hw.fr⟩)
theorem misnumbered_calls (g:CG)(hs:CS g)(w:World)(hN:Jdi w)(hr:RC w g):Calls Tryz.prog 320 #[cgV g] w fun e w'=>e=.returned (.int .i64 (err5 g.cl))∧Fr0 w w':=by
 refine Jbi (args:=[cgV g]) (fun _=>False) Tryz.func320 rfl Tryz.ntmps320 rfl rfl ?_;refine Csr (WL.box rfl rfl rfl ?_);intro b1;refine Za rfl (Nn (Csr (WL.alloc T.zr3 rfl ?_)));intro b3;refine WL.alloc T.zr4 rfl ?_;intro b4;refine WL.focus perm1 (WL.cd (o:=0) rfl rfl rfl T.z3 Nat.zero_lt_one ?_);refine WL.focus perm1 (WL.cd (o:=0) rfl rfl rfl T.z4 Nat.zero_lt_one ?_);refine Nn (Csr (Zv (OV.lN (cs:=cgC g) rfl T.u30 rfl T.z30 yH) (Zv (OV.makeFunc rfl) ?_)));refine WL.fj (fun w' hw'=>stM_blk [] (show Sat w (fun _=>False) _ w (stM b4 b3 []++[oQ b1 (cgC g) 30]) w' from hw')) (fun hB=>?_);have hU:UseOK (stM b4 b3) 1099511627776 324 [ptr b4,ptr b3] w:=⟨by kernel_rfl,hB,fun pre t w1 hp hA=>misU_calls b4 b3 pre hp t w1 hA⟩
 refine WL.cT (ι:=Unit) (vs:=[cgV g,.func (.func 324) #[] #[ptr b4,ptr b3]]) (vv:=fun _=>.tuple #[]) (pp:=fun _=>True) (stM b4 b3 []) (AA:=fun _=>stM b4 b3 (Jcb g.cl)) (ow:=[oQ b1 (cgC g) 30]) rfl (fun w' hw' hH=>(termsU_calls _ 1099511627776 324 _ w hU g [] (by have:=hs.tt;simp;omega) (Nat.le_refl _) hs.bl hs.tl w' hr hw'.keeps hH).mono (fun en w'' ⟨h1,h2⟩=>⟨(),h1,trivial,h2⟩)) ?_;rintro _ _;refine Nn (Csr (Zv (OV.ap (v:=.bool (misF (Jcb g.cl)).2) rfl T.u4 rfl (fun _ hw=>(Jbn (hw.it (oQ b4 [Value.bool (misF (Jcb g.cl)).2] 4) (by simp [stM])) (o:=0) rfl).1)) (WL.aw (v:=.int .i64 (err5 g.cl)) (by kernel_rfl) rfl rfl (fun w' hw'=>Jej (misF (Jcb g.cl)).2 35 w') ?_)));refine Za rfl (Nn (WC.ay ?_));exact WX.ret1 rfl rfl rfl (fun w' hw=>⟨rfl,hw.fr⟩)
theorem cvars_calls (g:CG)(hs:CS g)(w:World)(hr:RC w g):Calls Tryz.prog 50 #[cgV g] w fun e w'=>e=.returned (.int .i64 (nV g.cl:Nat))∧Fr0 w w':=by
 refine Jbi (args:=[cgV g]) (fun _=>False) Tryz.func50 rfl Tryz.ntmps50 rfl rfl ?_;refine Csr (WL.box rfl rfl rfl ?_);intro b1;refine Za rfl (Nn (Csr (WL.makeMap (iV) rfl ?_)));intro m4;refine WL.alloc T.zr87 rfl ?_;intro b3;refine WL.cd (o:=0) rfl rfl rfl T.z87 Nat.zero_lt_one ?_;refine Nn (Csr (Zv (OV.lN (cs:=cgC g) rfl T.u30 rfl T.z30 yH) (Zv (OV.makeFunc rfl) ?_)));refine WL.fj (fun w' hw'=>stV_blk [] (show Sat w (fun _=>False) _ w (stV b3 m4 []++[oQ b1 (cgC g) 30]) w' from hw')) (fun hB=>?_);have hU:UseOK (stV b3 m4) 1099511627776 107 [ptr b3] w:=⟨by kernel_rfl,hB,fun pre t w1 hp hA=>varsU_calls b3 m4 pre hp t w1 hA⟩
 refine WL.cT (ι:=Unit) (vs:=[cgV g,.func (.func 107) #[] #[ptr b3]]) (vv:=fun _=>.tuple #[]) (pp:=fun _=>True) (stV b3 m4 []) (AA:=fun _=>stV b3 m4 (Jcb g.cl)) (ow:=[oQ b1 (cgC g) 30]) rfl (fun w' hw' hH=>(termsU_calls _ 1099511627776 107 _ w hU g [] (by have:=hs.tt;simp;omega) (Nat.le_refl _) hs.bl hs.tl w' hr hw'.keeps hH).mono (fun en w'' ⟨h1,h2⟩=>⟨(),h1,trivial,h2⟩)) ?_;rintro _ _;refine Nn (Csr (Zv (OV.ap (v:=.map (some m4)) rfl T.u87 rfl (fun _ hw=>(Jbn (hw.it (oQ b3 [Value.map (some m4)] 87) (by simp [stV])) (o:=0) rfl).1)) (Zv ((OV.lenMap T.u87 rfl (fun _ hw=>hw.it (own m4 (mapK iV (cntM (vnums (Jcb g.cl))))) (by simp [stV]))).cast (u:=.int .i64 (nV g.cl:Nat)) (by rw [nV_cnt])) (Za rfl (Nn (WC.ay ?_))))));exact WX.ret1 rfl rfl rfl (fun w' hw=>⟨rfl,hw.fr⟩)
theorem checks_run (g:CG)(hs:CS g){i:Nat}{f:Nat}{e:Int}(hf:[315,316,317,318,319,320][i]?=some f)(he:(errL g.cl)[i]?=some e)(w:World)(hN:Jdi w)(hr:RC w g):bodied Tryz.prog f=true∧Calls Tryz.prog f #[cgV g] w fun en w'=>en=.returned (.int .i64 e)∧Fr0 w w':=by
 rcases i with _ | _ | _ | _ | _ | _ | i
 ·obtain rfl:=xH hf;obtain rfl:=xH he;exact ⟨by kernel_rfl,tooLong_calls g hs w hN hr⟩
 ·obtain rfl:=xH hf;obtain rfl:=xH he;exact ⟨by kernel_rfl,badAtom_calls g hs w hN hr⟩
 ·obtain rfl:=xH hf;obtain rfl:=xH he;exact ⟨by kernel_rfl,badTest_calls g hs w hN hr⟩
 ·obtain rfl:=xH hf;obtain rfl:=xH he;exact ⟨by kernel_rfl,openHead_calls g hs w hN hr⟩
 ·obtain rfl:=xH hf;obtain rfl:=xH he;exact ⟨by kernel_rfl,unsafe_calls g hs w hN hr⟩
 ·obtain rfl:=xH hf;obtain rfl:=xH he;exact ⟨by kernel_rfl,misnumbered_calls g hs w hN hr⟩
 ·simp at hf
theorem chkL_at {i:Nat}{f:Nat}(hf:[315,316,317,318,319,320][i]?=some f):chkL.toArray.extract (i*1) (i*1+1)=#[Value.func (.func f) #[] #[]]:=by
 rcases i with _ | _ | _ | _ | _ | _ | i
 ·obtain rfl:=xH hf;rfl
 ·obtain rfl:=xH hf;rfl
 ·obtain rfl:=xH hf;rfl
 ·obtain rfl:=xH hf;rfl
 ·obtain rfl:=xH hf;rfl
 ·obtain rfl:=xH hf;rfl
 ·simp at hf
theorem check_calls (g:CG)(hs:CS g)(w:World)(hN:Jdi w)(hC:Jfk w)(hr:RC w g):Calls Tryz.prog 87 #[cgV g] w fun e w'=>e=.returned (.int .i64 (chkC g.cl))∧Fr0 w w':=by
 refine Jbi (args:=[cgV g]) (fun _=>False) Tryz.func87 rfl Tryz.ntmps87 rfl rfl ?_;refine Csr (WL.box rfl rfl rfl ?_);intro b1;refine Za rfl (Nn (Cs (Csr (Zv (OV.am (cs:=chkL) rfl T.u201 rfl T.z201 (fun _ hw j v hj=>by rw [Jav,xM];exact hw.keeps _ _ (hC j v hj))) (Zm rfl (Nn (Cb ?_)))))))
 refine WC.bz (fun (i:Nat)=>[(1,yX b1),(6,.agg chkL.toArray),(7,.int .i64 (i:Int))])
   (fun i w'=>(i≤6∧∀ u∈(errL g.cl).take i,u=0)∧Sat0 w (oQ b1 (cgC g) 30::[]) w')
   (fun i=>6 - i) 0 Y3 (fun w' hw=>⟨⟨by omega,fun y hy=>by simp at hy⟩,hw⟩) ?_
 intro i;refine WC.pure (fun hi=>?_);obtain ⟨hi,hn⟩:=hi;refine Csr (Zv (OV.cu rfl rfl) (Nn (Cs ?_)));refine Cc rfl (fun c8=>?_) (fun c8=>?_)
 ·refine Ck (Xn (Cs (Cb (Csr ?_))));obtain ⟨f,hf⟩:∃ f,[315,316,317,318,319,320][i]?=some f:=⟨_,xD (by show i<6;omega)⟩
  obtain ⟨e,he⟩:∃ e,(errL g.cl)[i]?=some e:=⟨_,xD (by show i<6;omega)⟩
  refine Zv (OV.indexArrS (vs:=[.func (.func f) #[] #[]]) rfl rfl T.u201 T.u200 rfl T.z200 (by omega) (by rw [xN];exact chkL_at hf)) (WL.alloc T.zr200 rfl ?_);intro b4;refine WL.aj (vs:=[.func (.func f) #[] #[]]) rfl rfl rfl T.z200 rfl ?_;refine Nn (Csr (Zv (OV.f0 0 rfl T.u200 rfl) (Zv (OV.l1 (v:=.func (.func f) #[] #[]) rfl T.u161 rfl yF rfl) (Zv (OV.lN (cs:=cgC g) rfl T.u30 rfl T.z30 yG) ?_))));refine WL.fj (fun w' hw'=>(checks_run g hs hf he w' (hN.keeps hw'.keeps) (hr.keeps hw'.keeps)).1) (fun hbf=>?_);refine WL.ew (ι:=Unit) (f:=f) (caps:=[]) (vs:=[cgV g]) (vv:=fun _=>.int .i64 e) (SS:=fun _=>Sat0 w (oQ b4 [Value.func (.func f) #[] #[]] 200::oQ b1 (cgC g) 30::[])) hbf rfl rfl rfl (fun w' hw'=>(checks_run g hs hf he w' (hN.keeps hw'.keeps) (hr.keeps hw'.keeps)).2.mono (fun en w'' ⟨h1,h2⟩=>⟨(),h1,hw'.keep h2⟩)) ?_;intro _;refine Za rfl (Nn (Csr (Zm rfl (Zv (OV.fb rfl rfl) (Nn ?_)))));refine Cc rfl (fun c15=>?_) (fun c15=>?_)
  ·refine Csr (Zm rfl (Za rfl (Nn (WC.ay ?_))));refine Xq (Xr (Xr (Xq (Xr ?_))));exact WX.ret1 rfl rfl rfl (fun w' hw=>⟨by rw [show chkC g.cl=e from Jeo he c15 hn],hw.fr⟩)
  refine Ck (Xb (Xn (Cr (Zv (OV.bh (j:=1) rfl rfl (by omega)) (Zm rfl (Nl ?_))))));exact WX.au (i+1) Y3 (fun w' hw=>⟨⟨by omega,zero_step hn he (by simpa using c15)⟩,hw.drop⟩) (by show 6 - (i+1)<6 - i;omega)
 refine Ce (Xe (Xe (Xh (Xn (Csr (Za rfl (Nn (WC.ay ?_))))))));exact WX.ret1 rfl rfl rfl (fun w' hw=>⟨by rw [show chkC g.cl=0 from Jfg (fun u hu=>hn u (by rw [xK (by show 6≤i;omega)];exact hu))],hw.fr⟩)
end Go.Proofs.YtdgigbopibdflaaGreatDoor
