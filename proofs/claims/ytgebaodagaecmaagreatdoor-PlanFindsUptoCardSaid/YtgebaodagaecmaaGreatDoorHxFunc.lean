/- Function values, calls of yield, ranges over a function, deferred calls. -/
import Derived.Test.YtgebaodagaecmaaGreatDoorHxMap
namespace Go.Hw
set_option linter.unusedVariables false
set_option linter.unusedSimpArgs false
open Go Go.RowKit
variable {w0 ws w:World} {M I:Nat→Prop} {A A' ow:List Item} {i j:Item}
variable {P:Program} {ops:Array Oper} {Q:Post} {n:Nat} {ds:DS} {e:Env} {rest:List Oper} {c:Code}
variable {dst:Option Tmp} {t lt:TypeId} {p:String} {af:Array Edge} {x y z:Operand} {v u:Value} {d:TypeDesc} {S S':World→Prop} {k:Nat}
theorem Calls.mono {f:FuncId}{args:Array Value}{R R':Ending→World→Prop}(h:Calls P f args w R)(hr:∀ e w',R e w'→R' e w'):Calls P f args w R':=Go.Calls.mono h hr
theorem OV.makeFunc {fn:Fn}{xs:List Operand}{vs:List Value}{g:Option (Nat × Bool)}(hv:evs e xs=some vs):OV P n ds e S ⟨dst,.makeFunc fn #[] xs.toArray,t,p,af,g⟩ (.func fn #[] vs.toArray):=fun a w ha _=>by
 have hxs:=Jfe ha hv;simp [execOp,Instr.makeFunc,← hxs]
section nils
variable {g:Option (Nat × Bool)} {xt yt el:TypeId}
theorem Jf7 {xt:TypeId}{d:TypeDesc}{a b:Value}(hu:P.underlying xt=some d)(w:World)(r:Bool) 
  (h:(Op.equalIn (9999+1) xt a b).run P w=.ok r w):(Op.equal xt a b).run P w=.ok r w:=h
theorem OV.lp {pa:Option Addr}(hu:P.underlying xt=some (.pointer el))(hx:ev e x=some (.pointer pa))(hy:ev e y=some (.pointer none)):OV P n ds e S ⟨dst,.binOp .eql xt x y yt,t,p,af,g⟩ (.bool pa.isNone):=fun _ w ha _=>by
 have h:(Op.equal xt (.pointer pa) (.pointer none)).run P w=.ok pa.isNone w:=by
  refine Jf7 hu w _ ?_;unfold Op.equalIn;simp only [Sem.run_bind,run_underlying hu,Result.andThen_ok];cases pa <;> rfl
 simp [execOp,ha.eval hx,ha.eval hy,eqGuard,binOp,h]
theorem OV.neqPN {pa:Option Addr}(hu:P.underlying xt=some (.pointer el))(hx:ev e x=some (.pointer pa))(hy:ev e y=some (.pointer none)):OV P n ds e S ⟨dst,.binOp .neq xt x y yt,t,p,af,g⟩ (.bool pa.isSome):=fun _ w ha _=>by
 have h:(Op.equal xt (.pointer pa) (.pointer none)).run P w=.ok pa.isNone w:=by
  refine Jf7 hu w _ ?_;unfold Op.equalIn;simp only [Sem.run_bind,run_underlying hu,Result.andThen_ok];cases pa <;> rfl
 simp [execOp,ha.eval hx,ha.eval hy,eqGuard,binOp,h]
theorem OV.eqlSN {a:Option Addr}{m c':Nat}(hu:P.underlying xt=some (.slice el))(hx:ev e x=some (.slice a m c'))(hy:ev e y=some (.slice none 0 0)):OV P n ds e S ⟨dst,.binOp .eql xt x y yt,t,p,af,g⟩ (.bool a.isNone):=fun _ w ha _=>by
 have h:(Op.equal xt (.slice a m c') (.slice none 0 0)).run P w=.ok a.isNone w:=by
  refine Jf7 hu w _ ?_;unfold Op.equalIn;simp only [Sem.run_bind,run_underlying hu,Result.andThen_ok];cases a <;> rfl
 simp [execOp,ha.eval hx,ha.eval hy,eqGuard,binOp,h]
end nils
theorem WL.ia {T s:TypeId}(hu:P.underlying lt=some (.slice T))(hz:P.sz T=some s)(hk:Nat.blt k n=true) 
  (h:∀ b,WL P ops Q n ds ((k,.slice (some ⟨b,0,none⟩) 0 0)::e) (Sat w0 M I ws (row T s (some ⟨b,0,none⟩) 0 0 []::ow)) rest) :
  WL P ops Q n ds e (Sat w0 M I ws ow) (⟨some k,.buildSlice lt 0 #[],t,p,af,none⟩::rest):=by
 refine WL.i6 (ι:=Nat) (vv:=fun b=>.slice (some ⟨b,0,none⟩) 0 0) (SS:=fun b=>Sat w0 M I ws (row T s (some ⟨b,0,none⟩) 0 0 []::ow)) ?_ hk h;intro a w ha hw;refine ⟨w.heap.size,w.alloc (.cells #[] T),?_,?_⟩
 ·have hr0:Array.range 0=#[]:=by decide
  simp [execOp,Instr.buildSlice,run_underlying hu,run_sizeOf hz,Instr.fill,newRow,newObj,Sem.run,hr0]
 ·refine hw.fresh (Fr.alloc _ _) ⟨by simp,.inr ⟨w.heap.size,0,#[],rfl,Nat.zero_le _,?_,Nat.le_refl _,Nat.zero_le _,by simp,by simp⟩⟩ (fun b hb=>?_)
  ·exact Jdg w (.cells #[] T)
  ·obtain ⟨q,hq,rfl⟩:=hb;simp only [Option.some.injEq] at hq;subst hq;simp
theorem run_callV {g:Operand}{f:FuncId}{caps:List Value}{xs:List Operand}{vs:List Value}{ats:Array TypeId}{a:Act}{gd:Option (Nat × Bool)}(hf:bodied P f=true)(ha:Fits n ds e a)(hg:ev e g=some (.func (.func f) #[] caps.toArray))(hv:evs e xs=some vs)(w:World):
  (execOp a.eval ⟨dst,.call ⟨.value g,xs.toArray,ats⟩,t,p,af,gd⟩).run P w=.ok (.enter f (vs++caps).toArray) w:=by
 unfold bodied at hf
 split at hf
 ·rename_i fn hfn;simp only [yA,Bool.not_eq_true',beq_eq_false_iff_ne,ne_eq] at hf;have hb:fn.body.isNone=false:=by cases h:fn.body <;> simp_all
  have hargs:=Jfe ha hv;simp [execOp,resolve,ha.eval hg,Deferred.ofValue,invoke,callFunc,hfn,hf.2,← hargs];intro h;simp [h] at hb
 ·cases hf
theorem Jd6 {f:FuncId}(hf:bodied P f=true)(args:Array Value)(w:World):(callFunc f args).run P w=.ok (.enter f args) w:=by
 unfold bodied at hf
 split at hf
 ·rename_i fn hfn;simp only [yA,Bool.not_eq_true',beq_eq_false_iff_ne,ne_eq] at hf;have hb:fn.body.isNone=false:=by cases h:fn.body <;> simp_all
  simp [callFunc,hfn,hf.2];intro h;simp [h] at hb
 ·cases hf
theorem WL.gx {ι:Type}{vv:ι→Value}{SS:ι→World→Prop}{g:Operand}{f:FuncId}{caps:List Value}{xs:List Operand}{vs:List Value}{ats:Array TypeId}(hf:bodied P f=true)(hg:ev e g=some (.func (.func f) #[] caps.toArray))(hv:evs e xs=some vs)(hk:Nat.blt k n=true) 
  (hc:∀ w,S w→Calls P f (vs++caps).toArray w fun en w'=>∃ x,en=.returned (vv x)∧SS x w')
  (h:∀ x,WL P ops Q n ds ((k,vv x)::e) (SS x) rest):WL P ops Q n ds e S (⟨some k,.call ⟨.value g,xs.toArray,ats⟩,t,p,af,none⟩::rest):=by
 intro a w ha hw;unfold wpListIn;rw [if_pos (Jde rfl)];refine ⟨fun f _=>Jgj _ f,?_⟩;rw [Jfi (run_callV hf ha hg hv w) (fun _=>by simp)];refine ⟨fun h=>(by rw [Jkc] at h;cases h),fen_in.2 (Calls.mono (hc w hw) ?_)⟩;rintro en w' ⟨x,rfl,hx⟩;exact h x _ _ (ha.put hk _) hx
theorem WL.extern {ι:Type}{vv:ι→Value}{SS:ι→World→Prop}{f:FuncId}{xs:List Operand}{vs:List Value}{ats:Array TypeId}(hv:evs e xs=some vs)(hk:Nat.blt k n=true) 
  (hc:∀ w,S w→∃ x w',(callFunc f vs.toArray).run P w=.ok (.value (vv x)) w'∧SS x w')
  (h:∀ x,WL P ops Q n ds ((k,vv x)::e) (SS x) rest):WL P ops Q n ds e S (⟨some k,.call ⟨.value (.func f),xs.toArray,ats⟩,t,p,af,none⟩::rest):=by
 refine WL.i6 (fun a w ha hw=>?_) hk h;obtain ⟨x,w',h1,h2⟩:=hc w hw;have hargs:=Jfe ha hv;refine ⟨x,w',?_,h2⟩;simp [execOp,resolve,Deferred.ofValue,invoke,Act.eval,← hargs] at h1 ⊢;exact h1
def Yields (P:Program)(l:Nat)(args:List Value)(w:World)(R:Bool→World→Prop):Prop:=
 YieldAt Fence.wide 0 P l args.toArray w fun en w'=>∃ b,en=.returned (.bool b)∧R b w'
theorem Yields.mono {l:Nat}{args:List Value}{R R':Bool→World→Prop}(h:Yields P l args w R)(hr:∀ b w',R b w'→R' b w'):Yields P l args w R':=by
 obtain ⟨fn,tmps,assign,body,h1,h2⟩:=h;exact ⟨fn,tmps,assign,body,h1,h2.mono fun en w' ⟨b,e1,e2⟩=>⟨b,e1,hr _ _ e2⟩⟩
theorem round_fen {r:Option Nat}{m l f:Nat}{tmps:Array Value}{assign body:Code}{R:Ending→World→Prop}(h:RoundIn Fence.wide m P l f tmps assign body w R):RoundIn (fen r) m P l f tmps assign body w R:=by
 cases r
 ·exact h
 ·exact h
theorem WL.yield {SS:Bool→World→Prop}{g:Operand}{l:Nat}{xs:List Operand}{vs:List Value}{ats:Array TypeId}(hg:ev e g=some (.func (.yield l) #[] #[]))(hv:evs e xs=some vs)(hk:Nat.blt k n=true) 
  (hc:∀ w,S w→Yields P l vs w SS)
  (h:∀ b,WL P ops Q n ds ((k,.bool b)::e) (SS b) rest):WL P ops Q n ds e S (⟨some k,.call ⟨.value g,xs.toArray,ats⟩,t,p,af,none⟩::rest):=by
 intro a w ha hw;unfold wpListIn;rw [if_pos (Jde rfl)];refine ⟨fun f _=>Jgj _ f,?_⟩;obtain ⟨fn,tmps,assign,body,hy,hR⟩:=hc w hw;have hargs:=Jfe ha hv
 have hrun:(execOp a.eval ⟨some k,.call ⟨.value g,xs.toArray,ats⟩,t,p,af,none⟩).run P w=.ok (.round l fn tmps assign body) w:=by
  simp only [execOp,resolve,ha.eval hg,Deferred.ofValue,Sem.run_bind,Sem.run_pure,Result.andThen_ok,invoke];simp only [Array.empty_append,Array.append_empty,List.map_toArray,hargs];exact hy
 rw [Jfi hrun (fun _=>by simp)];refine ⟨fun h=>(by rw [Jkc] at h;cases h),RoundIn.mono (round_fen hR) ?_⟩;rintro en w' ⟨b,rfl,hb⟩;exact h b _ _ (ha.put hk _) hb
theorem WL.yieldT {AA:Bool→List Item→Prop}{g:Operand}{l:Nat}{xs:List Operand}{vs:List Value}{ats:Array TypeId}(hg:ev e g=some (.func (.yield l) #[] #[]))(hv:evs e xs=some vs)(hk:Nat.blt k n=true) 
  (hc:∀ w,Sat w0 M I ws (A++ow) w→Yields P l vs w fun b w'=>∃ A',AA b A'∧Turns A A' w w')
  (h:∀ b A',AA b A'→WL P ops Q n ds ((k,.bool b)::e) (Sat w0 M I ws (A'++ow)) rest):WL P ops Q n ds e (Sat w0 M I ws (A++ow)) (⟨some k,.call ⟨.value g,xs.toArray,ats⟩,t,p,af,none⟩::rest):=
 WL.yield (SS:=fun b w'=>∃ A',AA b A'∧Sat w0 M I ws (A'++ow) w') hg hv hk (fun w hw=>(hc w hw).mono fun b w' ⟨A',h1,h2⟩=>⟨A',h1,hw.turns h2⟩)
  (fun b a w ha ⟨A',h1,h2⟩=>h b A' h1 a w ha h2)
def WR (P:Program)(fn:Func)(R:Ending→World→Prop)(n:Nat)(l:List Deferred)(e:Env)(S:World→Prop):Prop:=
 ∀ a w,(∃ ds,Fits n ds e a)→S w→LeavesInM Fence.wide 0 P fn a.tmps R l .returning w
theorem WX.mz {fn:Func}{R:Ending→World→Prop}{ex:Exit}{l:List Deferred}(hx:isEnd ex=true)(h:WR P fn R n l e S):WX (bodyPostM Fence.wide 0 P fn R) n { l:=l } e S ex:=by
 intro a w ha hw;have h1:LeavesInM Fence.wide 0 P fn a.tmps R a.defers .returning w:=by rw [ha.defers];exact h a w ⟨_,ha⟩ hw
 cases ex <;> first | exact h1 | (simp [isEnd] at hx)
theorem WR.mark {fn:Func}{R:Ending→World→Prop}{l:List Deferred}{D:Nat}{as:Array Value}(h:WR P fn R n l e (Sat w0 M I ws (own D (.deferred none)::ow))):
  WR P fn R n (⟨.collected D,as⟩::l) e (Sat w0 M I ws (own D (.deferred (some []))::ow)):=by
 intro a w ha hw;have hD:w.heap[D]?=some (.deferred (some [])):=hw.it _ yH;exact ⟨by simp,.inl ⟨D,_,rfl,run_takeDeferred hD,h a _ ha hw.putObj⟩⟩
def Jmv (P:Program)(f:FuncId)(args:Array Value)(w:World)(R:World→Prop):Prop:=
 CallsDIn Fence.wide 0 P f args .returning w fun en u w'=>(∃ v,en=.returned v)∧u=.returning∧R w'
theorem WR.fn {fn:Func}{R:Ending→World→Prop}{l:List Deferred}{f:FuncId}{vs:List Value}{SS:World→Prop}(hf:bodied P f=true)(hc:∀ w,S w→Jmv P f vs.toArray w SS) 
  (h:WR P fn R n l e SS):WR P fn R n (⟨.fn (.func f) #[],vs.toArray⟩::l) e S:=by
 intro a w ha hw;refine ⟨by simp,.inr ⟨fun h=>(by cases h),.func f,#[],f,vs.toArray,rfl,?_,fun g hg=>trivial,?_⟩⟩
 ·simp [invoke,Jd6 hf]
 ·refine CallsDIn.mono (hc w hw) ?_;rintro en u w' ⟨⟨v,rfl⟩,rfl,hw'⟩;exact h a w' ha hw'
theorem WR.ret0 {fn:Func}{R:Ending→World→Prop}(hr:fn.results=#[])(h:∀ w,S w→R (.returned (.tuple #[])) w):WR P fn R n [] e S:=
 fun a w ha hw=>⟨_,results_none hr _ _ _,h w hw⟩
theorem WR.ret1 {fn:Func}{R:Ending→World→Prop}{tt:Tmp}(hr:fn.results=#[.tmp tt])(hv:look e tt=some v)(h:∀ w,S w→R (.returned v) w):WR P fn R n [] e S:=by
 intro a w ⟨ds,ha⟩ hw;refine ⟨_,?_,h w hw⟩;rw [results_tmp hr];simp [Array.getD_eq_getD_getElem?,ha.ok _ _ hv]
theorem WR.ret2 {fn:Func}{R:Ending→World→Prop}{t1 t2:Tmp}{v1 v2:Value}(hr:fn.results=#[.tmp t1,.tmp t2])(h1:look e t1=some v1)(h2:look e t2=some v2)(h:∀ w,S w→R (.returned (.tuple #[v1,v2])) w):WR P fn R n [] e S:=by
 intro a w ⟨ds,ha⟩ hw;refine ⟨_,?_,h w hw⟩;rw [results_tmp2 hr];simp [Array.getD_eq_getD_getElem?,ha.ok _ _ h1,ha.ok _ _ h2]
theorem WR.retC {fn:Func}{R:Ending→World→Prop}{tt:Tmp}{T:TypeId}{b:Nat}{cs:List Value}(hr:fn.results=#[.cell tt T])(hv:look e tt=some (yZ b))(hu:P.underlying T=some d)(hd:aggD d=true)(hz:P.sz T=some cs.length) 
  (hc:∀ w,S w→∀ j v,cs[j]?=some v→w.cell? ⟨b,j,none⟩=some v) (h:∀ w,S w→R (.returned (.agg cs.toArray)) w):WR P fn R n [] e S:=by
 intro a w ⟨ds,ha⟩ hw;refine ⟨_,?_,h w hw⟩;have hcc:∀ j v,cs[j]?=some v→w.cell? ((⟨b,0,none⟩:Addr).add j)=some v:=fun j v hj=>by rw [Jap,xM];exact hc w hw j v hj
 simp [results,hr,Array.getD_eq_getD_getElem?,ha.ok _ _ hv,asAddr,loadVar,Jc1 hu,hd,run_sizeOf hz,run_loadCells_list w _ cs hcc]
theorem WR.weak {fn:Func}{R:Ending→World→Prop}{l:List Deferred}(hS:∀ w,S w→S' w)(h:WR P fn R n l e S'):WR P fn R n l e S:=fun a w ha hw=>h a w ha (hS w hw)
theorem WR.focus {fn:Func}{R:Ending→World→Prop}{l:List Deferred}{ow':List Item}(hp:ow'.Perm ow)(h:WR P fn R n l e (Sat w0 M I ws ow')):WR P fn R n l e (Sat w0 M I ws ow):=h.weak (fun _ hw=>hw.perm hp)
theorem WL.defer {f:FuncId}{xs:List Operand}{vs:List Value}{ats:Array TypeId}(hr:ds.r=none)(hv:evs e xs=some vs) 
  (h:WL P ops Q n { ds with l:=⟨.fn (.func f) #[],vs.toArray⟩::ds.l } e S rest):WL P ops Q n ds e S (⟨none,.defer ⟨.value (.func f),xs.toArray,ats⟩,t,p,af,none⟩::rest):=by
 intro a w ha hw;unfold wpListIn;rw [if_pos (Jde rfl)];refine ⟨fun f _=>Jgj _ f,?_⟩;have hargs:=Jfe ha hv;have hro:(fen ds.r).round=none:=by rw [Jme,hr]
 have hrun:(Oper.semAt (fen ds.r).round a.eval ⟨none,.defer ⟨.value (.func f),xs.toArray,ats⟩,t,p,af,none⟩).run P w=.ok (.defer ⟨.fn (.func f) #[],vs.toArray⟩) w:=by
  rw [hro,Oper.semAt_none];simp [execOp,resolve,Deferred.ofValue,Act.eval,← hargs]
 rw [hrun];exact h _ _ ⟨ha.size,by show _::a.defers=_;rw [ha.defers],ha.ok⟩ hw
theorem enterD {f:FuncId}{fn:Func}{c:Code}{args:List Value}{R:World→Prop}(A:List Item)(hA:Holds A w)(hf:P.funcs[f]?=some fn)(hb:fn.body=some c){N:Nat}(hn:fn.ntmps=N)(hN:Nat.ble args.length N=true){e:Env}(he:Ji0 0 args=e) 
  (h:WC P (bodyPost P fn fun en w'=>(∃ v,en=.returned v)∧R w') N {} e (Sat w (DD A) (fun b=>b<w.heap.size∧¬ DD A b) w A) c):Jmv P f args.toArray w R:=by
 have hN:=Nat.le_of_ble_eq_true hN;refine CallsDIn.mono (callsDIn_of_wp (n:=0) hf hb trivial (h _ _ ?_ (Sat.startA hA))) (fun en u w' ⟨h1,h2,h3⟩=>⟨h2,h1,h3⟩);refine ⟨by simp [hn];omega,rfl,fun t v ht=>?_⟩;rw [← he] at ht
 have key:∀ (l:List Value) (k:Nat),look (Ji0 k l) t=some v→∃ j,t=k+j∧l[j]?=some v:=by
  intro l
  induction l with
  | nil=>intro k h;simp [Ji0,look] at h
  | cons u l ih=>
   intro k h;simp only [Ji0] at h
   by_cases hk:k=t
   ·subst hk;rw [Jei] at h;exact ⟨0,rfl,by simpa using h⟩
   ·rw [Jfc _ _ hk] at h;obtain ⟨j,rfl,hj⟩:=ih (k+1) h;exact ⟨j+1,by omega,by simpa using hj⟩
 obtain ⟨j,rfl,hj⟩:=key args 0 ht;have hj':j<args.length:=(List.getElem?_eq_some_iff.1 hj).1;simp only [xM];rw [Array.getElem?_append_left (by simpa using hj')]
 simpa using hj
theorem WX.retD {fn:Func}{ex:Exit}(hx:isEnd ex=true){R:World→Prop}(hr:fn.results=#[])(h:∀ w,S w→R w):WX (bodyPost P fn fun en w'=>(∃ v,en=.returned v)∧R w') n {} e S ex:=by
 intro a w ha hw;have h1:bodyPost P fn (fun en w'=>(∃ v,en=.returned v)∧R w') .ret a w:=⟨ha.defers,_,results_none hr _ _ _,⟨_,rfl⟩,h w hw⟩
 cases ex <;> first | exact h1 | (simp [isEnd] at hx)
theorem Turns.trans {A1 A2 A3:List Item}{w1 w2 w3:World}(h:Turns A1 A2 w1 w2)(k:Turns A2 A3 w2 w3):Turns A1 A3 w1 w3:=
 ⟨h.fr.trans_new k.fr (fun b ⟨i,hi,hb⟩=>(h.D i hi b hb).2),k.φ,fun i hi b hb=>⟨(k.D i hi b hb).1,(k.D i hi b hb).2.elim (fun ⟨q,hq,hqb⟩=>(h.D q hq b hqb).2) (fun hge=>.inr (Nat.le_trans h.fr.size hge))⟩,k.disj⟩
theorem Turns.holds {A1 A2:List Item}{w1 w2:World}(h:Turns A1 A2 w1 w2):Holds A2 w2:=⟨h.φ,fun i hi b hb=>(h.D i hi b hb).1,h.disj⟩
theorem Turns.refl {A1:List Item}(h:Holds A1 w):Turns A1 A1 w w:=⟨Fr.refl _ _,h.φ,fun i hi b hb=>⟨h.lt i hi b hb,.inl ⟨i,hi,hb⟩⟩,h.disj⟩
theorem Turns.perm {A1 A1' A2 A2':List Item}{w1 w2:World}(h:Turns A1 A2 w1 w2)(h1:A1'.Perm A1)(h2:A2'.Perm A2):Turns A1' A2' w1 w2:=by
 have hd:∀ b,DD A1 b→DD A1' b:=fun b ⟨i,hi,hb⟩=>⟨i,h1.mem_iff.2 hi,hb⟩
 exact ⟨h.fr.mono hd,fun i hi=>h.φ i (h2.mem_iff.1 hi),fun i hi b hb=>⟨(h.D i (h2.mem_iff.1 hi) b hb).1,(h.D i (h2.mem_iff.1 hi) b hb).2.imp (hd b) id⟩,(h2.pairwise_iff (fun h=>Disj.symm h)).2 h.disj⟩
theorem Holds.perm {A1 A1':List Item}(h:Holds A1 w)(h1:A1'.Perm A1):Holds A1' w:=
 ⟨fun i hi=>h.φ i (h1.mem_iff.1 hi),fun i hi=>h.lt i (h1.mem_iff.1 hi),(h1.pairwise_iff (fun h=>Disj.symm h)).2 h.disj⟩
theorem Turns.drop {A1 A2 B:List Item}{w1 w2:World}(h:Turns A1 (B++A2) w1 w2):Turns A1 A2 w1 w2:=
 ⟨h.fr,fun i hi=>h.φ i (xB _ hi),fun i hi=>h.D i (xB _ hi),(List.pairwise_append.1 h.disj).2.1⟩
theorem Holds.append {A1 B:List Item}(h:Holds (A1++B) w):Holds A1 w∧Holds B w:=by
 have hp:=List.pairwise_append.1 h.disj;exact ⟨⟨fun i hi=>h.φ i (xA _ hi),fun i hi=>h.lt i (xA _ hi),hp.1⟩,⟨fun i hi=>h.φ i (xB _ hi),fun i hi=>h.lt i (xB _ hi),hp.2.1⟩⟩
theorem Sat.holdsAll (h:Sat w0 M I ws ow w):Holds ow w:=⟨h.it,fun i hi b hb=>(h.lt i hi b hb).1,h.disj⟩
theorem WL.fo {ι:Type}{vv:ι→Value}{pp:ι→Prop}{jj:ι→Item}{f:FuncId}{xs:List Operand}{vs:List Value}{ats:Array TypeId}(hf:bodied P f=true)(hv:evs e xs=Option.some vs)(hk:Nat.blt k n=true) 
  (hc:∀ w,Sat w0 M I ws (i::ow) w→Holds [i] w→Calls P f vs.toArray w fun en w'=>∃ x,en=.returned (vv x)∧pp x∧Turns [i] [jj x] w w')
  (h:∀ x,pp x→WL P ops Q n ds ((k,vv x)::e) (Sat w0 M I ws (jj x::ow)) rest):WL P ops Q n ds e (Sat w0 M I ws (i::ow)) (⟨Option.some k,.call ⟨.value (.func f),xs.toArray,ats⟩,t,p,af,none⟩::rest):=
 WL.callT (A:=[i]) (AA:=fun x=>[jj x]) (ow:=ow) hf hv hk (fun w hw=>hc w hw (Sat.holds (A:=[i]) (ow:=ow) hw)) h
theorem WL.dl {ι:Type}{vv:ι→Value}{pp:ι→Prop}(A:List Item){AA:ι→List Item}{L:List Item}{f:FuncId}{xs:List Operand}{vs:List Value}{ats:Array TypeId}(hL:L=A++ow)(hf:bodied P f=true)(hv:evs e xs=Option.some vs)(hk:Nat.blt k n=true) 
  (hc:∀ w,Sat w0 M I ws (A++ow) w→Holds A w→Calls P f vs.toArray w fun en w'=>∃ x,en=.returned (vv x)∧pp x∧Turns A (AA x) w w')
  (h:∀ x,pp x→WL P ops Q n ds ((k,vv x)::e) (Sat w0 M I ws (AA x++ow)) rest):WL P ops Q n ds e (Sat w0 M I ws L) (⟨Option.some k,.call ⟨.value (.func f),xs.toArray,ats⟩,t,p,af,none⟩::rest):=by
 subst hL;exact WL.callT (AA:=AA) hf hv hk (fun w hw=>hc w hw hw.holds) h
def Jnv (P:Program)(g:FuncId)(caps:List Value){γ α δ:Type}(RA:γ→List Item)(g0:γ)(R01 Mono:γ→Prop)(EI:α→δ→List Item)(arg:α→δ→Value)(xs:List α)(w:World):Prop:=
 ∀ {β:Type} (CC:β→List Item) (J Jx:Nat→γ→β→Prop) (y0:β) (l:Nat) (w1:World),Turns (RA g0++CC y0) (RA g0++CC y0) w w1 →
  (∀ g1,R01 g1→J 0 g1 y0)→(∀ k g1 y,J k g1 y→Mono g1) →
  (∀ k g1 y d W a,xs[k]?=some a→J k g1 y→Turns (RA g0++CC y0) (EI a d++(RA g1++CC y)) w1 W →
   Yields P l [arg a d] W fun b W'=>∃ g2 y2,(b=true→J (k+1) g2 y2)∧(b=false→Jx (k+1) g2 y2)∧Turns (EI a d++(RA g1++CC y)) (RA g2++CC y2) W W') →
  Calls P g (.func (.yield l) #[] #[]::caps).toArray w1 fun en w'=>en=.returned (.tuple #[])∧∃ g2 y2 k,((k=xs.length∧J k g2 y2)∨(0<k∧k≤xs.length∧Jx k g2 y2))∧Turns (RA g0++CC y0) (RA g2++CC y2) w1 w'
structure LR where
 fn:FuncId
 tmps:Array Value
 ps:Array Tmp
 assign:Code
 body:Code
 D:Nat
def LR.ob (r:LR)(st:LoopState)(pe:Option Code):Obj:=.loop { state:=st,pending:=pe,fn:=r.fn,tmps:=r.tmps,params:=r.ps,assign:=r.assign,body:=r.body,defers:=r.D }
def RQ (P:Program)(l:Nat)(R:Bool→World→Prop):Post:=roundPost P l fun en w'=>∃ b,en=.returned (.bool b)∧R b w'
def AQ (P:Program)(l:Nat)(body:Code)(R:Bool→World→Prop):Post:=
 Exit.then (fun a w=>∃ w2,(Instr.beginRound l).run P w=.ok () w2∧body.wpIn (fen (some l)) 0 P (RQ P l R) a w2) (fun _ _ _=>False)
theorem WX.o0 {l:Nat}{lr:LR}{body:Code}{R:Bool→World→Prop}(h:WC P (RQ P l R) n { r:=some l } e (Sat w0 M I ws (own l (lr.ob .busy none)::ow)) body):
  WX (AQ P l body R) n { r:=some l } e (Sat w0 M I ws (own l (lr.ob .ready none)::ow)) .normal:=by
 intro a w ha hw;have hl:w.heap[l]?=some (lr.ob .ready none):=hw.it _ yH;exact ⟨_,run_beginRound hl rfl,h a _ ha hw.putObj⟩
theorem WX.jp {l:Nat}{lr:LR}{R:Bool→World→Prop}(h:∀ w,Sat w0 M I ws (own l (lr.ob .ready none)::ow) w→R true w):
  WX (RQ P l R) n ds e (Sat w0 M I ws (own l (lr.ob .busy none)::ow)) .normal:=by
 intro a w ha hw;have hl:w.heap[l]?=some (lr.ob .busy none):=hw.it _ yH;exact ⟨_,_,run_endRound none hl,true,rfl,h _ hw.putObj⟩
def RR {γ β:Type}(RA:γ→List Item)(CC:β→List Item)(J:Nat→γ→β→Prop)(Jx:Code→Nat→γ→β→Prop)(l:Nat)(lr:LR)(A:List Item)(k:Nat)(W:World)(b:Bool)(W':World):Prop:=
 ∃ g2 y2 o,(b=true→J (k+1) g2 y2∧o=lr.ob .ready none)∧(b=false→∃ c,Jx c (k+1) g2 y2∧o=lr.ob .done (some c))∧Turns A (own l o::(RA g2++CC y2)) W W'
abbrev SatR (W:World)(A0 A:List Item):World→Prop:=Sat W (DD A0) (fun b=>b<W.heap.size∧¬ DD A0 b) W A
theorem Jeh {X Y:List Item}{i:Item}:(X++i::Y).Perm (i::(X++Y)):=List.perm_middle
theorem WC.jw {γ α δ β:Type}{RA:γ→List Item}{CC:β→List Item}{EI:α→δ→List Item}{arg:α→δ→Value}{xs:List α}{g0:γ}{y0:β}{R01 Mono:γ→Prop}{g:Operand}{gf:FuncId}{caps:List Value}{p1:Tmp}{assign body:Code} 
  (hr:ds.r=none) (hg:ev e g=some (.func (.func gf) #[] caps.toArray)) (hf:bodied P gf=true) (hp:Nat.blt p1 n=true)
  (hs:∀ w,Sat w0 M I ws (RA g0++(CC y0++ow)) w→Jnv P gf caps RA g0 R01 Mono EI arg xs w)
  (J:Nat→γ→β→Prop) (Jx:Code→Nat→γ→β→Prop) (h0:∀ g1,R01 g1→J 0 g1 y0) (hm:∀ k g1 y,J k g1 y→Mono g1)
  (hround:∀ (l:Nat) (lr:LR) (k:Nat) (g1:γ) (y:β) (d:δ) (W:World) (a:α),xs[k]?=some a→J k g1 y→Sat w0 M I ws (own l (lr.ob .ready none)::(EI a d++(RA g1++(CC y++ow)))) W →
   WC P (AQ P l body (RR RA CC J Jx l lr (own l (lr.ob .ready none)::(EI a d++(RA g1++CC y))) k W)) n { r:=some l } ((p1,arg a d)::e)
    (SatR W (own l (lr.ob .ready none)::(EI a d++(RA g1++CC y))) (own l (lr.ob .ready none)::(EI a d++(RA g1++CC y)))) assign)
  (hdone:∀ D g2 y2,J xs.length g2 y2→WX Q n { ds with l:=⟨.collected D,#[]⟩::ds.l } e (Sat w0 M I ws (own D (.deferred (some []))::(RA g2++(CC y2++ow)))) .normal)
  (hjump:∀ D c k g2 y2,Jx c k g2 y2→0<k→k≤xs.length→WC P Q n { ds with l:=⟨.collected D,#[]⟩::ds.l } e (Sat w0 M I ws (own D (.deferred (some []))::(RA g2++(CC y2++ow)))) c) :
  WC P Q n ds e (Sat w0 M I ws (RA g0++(CC y0++ow))) (.rangeFunc g #[p1] assign body):=by
 intro a w ha hw;have hro:(fen ds.r).round=none:=by rw [Jme,hr]
 refine wpIn_rangeFunc ?_;intro fn hfn;rw [hro];obtain ⟨lr,hlr⟩:∃ lr:LR,lr={ fn,tmps:=a.tmps,ps:=#[p1],assign,body,D:=w.heap.size }:=⟨_,rfl⟩
 obtain ⟨W1,hW1⟩:∃ W1,(w.alloc (.deferred (some []))).alloc (lr.ob .ready none)=W1:=⟨_,rfl⟩
 have hS1:Sat w0 M I ws (own (w.heap.size+1) (lr.ob .ready none)::own w.heap.size (.deferred (some []))::(RA g0++(CC y0++ow))) W1:=by
  have h1:Sat w0 M I ws (own w.heap.size (.deferred (some []))::(RA g0++(CC y0++ow))) (w.alloc (.deferred (some []))):=
   hw.fresh (Fr.alloc _ _) (Jdg _ _) (fun b hb=>by simp only [own] at hb;subst hb;simp)
  have h2:=h1.fresh (i:=own (w.heap.size+1) (lr.ob .ready none)) (Fr.alloc (w.alloc (.deferred (some []))) (lr.ob .ready none)) (by
   have:=Jdg (w.alloc (.deferred (some []))) (lr.ob .ready none);rwa [World.size_alloc] at this) (fun b hb=>by simp only [own] at hb;subst hb;simp)
  rw [hW1] at h2;exact h2
 have hfrW:Fr0 w W1:=by rw [← hW1];exact (Fr.alloc _ _).trans (Fr.alloc _ _)
 have hA0:Sat w0 M I ws ((RA g0++(own (w.heap.size+1) (lr.ob .ready none)::CC y0))++(own w.heap.size (.deferred (some []))::ow)) W1:=by
  refine hS1.perm ?_;refine List.Perm.trans (List.Perm.of_eq (xF _ _ _)) ?_;refine List.Perm.trans Jeh ?_;refine List.Perm.cons _ ?_;refine List.Perm.trans (List.Perm.append_left _ Jeh) ?_;exact Jeh
 have hturn:∀ {W:World} {A':List Item},Turns (RA g0++(own (w.heap.size+1) (lr.ob .ready none)::CC y0)) A' W1 W→Sat w0 M I ws (A'++(own w.heap.size (.deferred (some []))::ow)) W:=fun h=>hA0.turns h
 refine ⟨w.heap.size+1,[⟨.collected w.heap.size,#[]⟩],W1,⟨.fn (.func gf) caps.toArray,#[.func (.yield (w.heap.size+1)) #[] #[]]⟩,W1,gf,(.func (.yield (w.heap.size+1)) #[] #[]::caps).toArray,W1,?_,?_,fun _ _=>Jgj _ _,?_,fun h=>(by rw [Jkc] at h;cases h),?_⟩
 ·rw [← hW1,hlr];exact run_enterLoop_outer _ _ _ _ _
 ·simp only [resolve,ha.eval hg];simp [Deferred.ofValue];rfl
 ·simp only [invoke];rw [Jd6 hf];simp
 ·refine fen_in.2 ?_
  have hspec:=hs w hw (β:=β × Obj) (fun z=>own (w.heap.size+1) z.2::CC z.1) (fun k g1 z=>J k g1 z.1∧z.2=lr.ob .ready none) (fun k g1 z=>∃ c,Jx c k g1 z.1∧z.2=lr.ob .done (some c)) (y0,lr.ob .ready none) (w.heap.size+1) W1
   ⟨hfrW.mono (fun _ f=>f.elim),hA0.holds.φ,fun i hi b hb=>⟨hA0.holds.lt i hi b hb,.inl ⟨i,hi,hb⟩⟩,hA0.holds.disj⟩ (fun g1 h1=>⟨h0 g1 h1,rfl⟩) (fun k g1 z h=>hm k g1 z.1 h.1) ?_
  ·refine Calls.mono hspec ?_;rintro en w' ⟨rfl,g2,⟨y2,o⟩,k,hk,ht⟩;have hS2:=hturn ht
   have hS3:Sat w0 M I ws (own (w.heap.size+1) o::own w.heap.size (.deferred (some []))::(RA g2++(CC y2++ow))) w':=by
    refine hS2.perm ?_;refine List.Perm.symm ?_;refine List.Perm.trans (List.Perm.of_eq (xF _ _ _)) ?_;refine List.Perm.trans Jeh ?_;refine List.Perm.cons _ ?_;refine List.Perm.trans (List.Perm.append_left _ Jeh) ?_;exact Jeh
   have hl:w'.heap[w.heap.size+1]?=some o:=hS3.it _ yH;rcases hk with ⟨rfl,hJ,rfl⟩ | ⟨hk0,hkn,c,hJ,rfl⟩
   ·refine ⟨none,_,run_endLoop hl (by simp),?_⟩;exact hdone _ g2 y2 hJ _ _ ⟨ha.size,by show [_]++a.defers=_;rw [ha.defers];rfl,ha.ok⟩ (Sat.drop hS3.putObj)
   ·refine ⟨some c,_,run_endLoop hl (by simp),?_⟩;have:=hjump w.heap.size c k g2 y2 hJ hk0 hkn { a with defers:=[⟨.collected w.heap.size,#[]⟩]++a.defers } _ ⟨ha.size,by show [_]++a.defers=_;rw [ha.defers];rfl,ha.ok⟩ (Sat.drop (hS3.putObj (o':=lr.ob .exhausted (some c))));exact this
  ·rintro k g1 ⟨y,o⟩ d W x hx ⟨hJ,rfl⟩ ht;have hSW:=hturn ht;have hl:W.heap[w.heap.size+1]?=some (lr.ob .ready none):=ht.φ (own (w.heap.size+1) (lr.ob .ready none)) (by simp);have hy:=run_yield (P:=P) (args:=#[arg x d]) hl (by rw [hlr];rfl)
   have hperm:(own (w.heap.size+1) (lr.ob .ready none)::(EI x d++(RA g1++CC y))).Perm (EI x d++(RA g1++(own (w.heap.size+1) (lr.ob .ready none)::CC y))):=
    ((List.Perm.append_left _ Jeh).trans Jeh).symm
   have hcaller:Sat w0 M I ws (own (w.heap.size+1) (lr.ob .ready none)::(EI x d++(RA g1++(CC y++ow)))) W:=by
    refine Sat.drop (i:=own w.heap.size (.deferred (some []))) (hSW.perm ?_);simp only [xF,xX];refine List.Perm.symm ?_;refine List.Perm.trans (List.Perm.append_left _ Jeh) ?_;refine List.Perm.trans Jeh ?_;refine List.Perm.trans (List.Perm.cons _ (List.Perm.trans (List.Perm.append_left _ (List.Perm.append_left _ Jeh)) (List.Perm.trans (List.Perm.append_left _ Jeh) Jeh))) ?_;exact List.Perm.swap _ _ _
   have hR:=hround (w.heap.size+1) lr k g1 y d W x hx hJ hcaller;have hH:Holds (own (w.heap.size+1) (lr.ob .ready none)::(EI x d++(RA g1++CC y))) W:=ht.holds.perm hperm;rw [hlr] at hy;refine ⟨fn,_,assign,body,hy,?_⟩;refine RoundIn.mono (R:=fun en w'=>∃ b,en=.returned (.bool b)∧RR RA CC J Jx (w.heap.size+1) lr (own (w.heap.size+1) (lr.ob .ready none)::(EI x d++(RA g1++CC y))) k W b w') (roundIn_of_wpIn trivial ?_) ?_
   ·have h1:=hR { tmps:=a.tmps.setIfInBounds p1 (arg x d),defers:=[] } W ?_ (Sat.startA hH)
    ·have e1:((#[p1]:Array Tmp).zip #[arg x d]).foldl (fun tmps (q:Tmp × Value)=>tmps.setIfInBounds q.1 q.2) a.tmps=a.tmps.setIfInBounds p1 (arg x d):=by simp
     rw [e1];exact h1
    ·have hput:=ha.put hp (arg x d);exact ⟨hput.size,rfl,hput.ok⟩
   ·rintro en w' ⟨b,rfl,g2,y2,o2,hb1,hb2,ht2⟩;refine ⟨b,rfl,g2,(y2,o2),fun hb=>hb1 hb,fun hb=>hb2 hb,ht2.perm hperm.symm Jeh⟩
end Go.Hw
namespace Go.Hw
open Go Go.RowKit
section
variable {w0 ws:World} {M I:Nat→Prop} {ow:List Item} {P:Program} {ops:Array Oper} {Q:Post} {n:Nat} {ds:DS} {e:Env} {rest:List Oper} {t:TypeId} {p:String} {af:Array Edge} {k:Nat}
theorem WL.cT {ι:Type}{vv:ι→Value}{pp:ι→Prop}(A:List Item){AA:ι→List Item}{L:List Item}{f:FuncId}{xs:List Operand}{vs:List Value}{ats:Array TypeId}(hL:L=A++ow) 
  (hc:∀ w,Sat w0 M I ws (A++ow) w→Holds A w→Calls P f vs.toArray w fun en w'=>∃ x,en=.returned (vv x)∧pp x∧Turns A (AA x) w w')
  (h:∀ x,pp x→WL P ops Q n ds ((k,vv x)::e) (Sat w0 M I ws (AA x++ow)) rest) (hf:bodied P f=true:=by kernel_rfl) (hv:evs e xs=Option.some vs:=by exact rfl) (hk:Nat.blt k n=true:=by exact rfl):WL P ops Q n ds e (Sat w0 M I ws L) (⟨Option.some k,.call ⟨.value (.func f),xs.toArray,ats⟩,t,p,af,none⟩::rest):=WL.dl A hL hf hv hk hc h
end
end Go.Hw
