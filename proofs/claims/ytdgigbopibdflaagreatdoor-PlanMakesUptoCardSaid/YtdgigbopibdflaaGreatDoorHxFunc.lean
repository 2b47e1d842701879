/- Function values, calls of yield, ranges over a function, deferred calls. -/
import Derived.Test.YtdgigbopibdflaaGreatDoorHxMap
namespace Go.Hw
set_option linter.unusedVariables false
set_option linter.unusedSimpArgs false
open Go Go.RowKit
variable {w0 ws w:World} {M I:Nat→Prop} {A A' ow:List Item} {i j:Item}
variable {P:Program} {ops:Array Oper} {Q:Post} {n:Nat} {ds:DS} {e:Env} {rest:List Oper} {c:Code}
variable {dst:Option Tmp} {t lt:TypeId} {p:String} {af:Array Edge} {x y z:Operand} {v u:Value} {d:TypeDesc} {S S':World→Prop} {k:Nat}
theorem Calls.mono {f:FuncId}{args:Array Value}{R R':Ending→World→Prop}(h:Calls P f args w R)(hr:∀ e w',R e w'→R' e w'):Calls P f args w R':=Go.Calls.mono h hr
theorem OV.makeFunc {fn:Fn}{xs:List Operand}{vs:List Value}{g:Option (Nat × Bool)}(hv:evs e xs=some vs):OV P n ds e S ⟨dst,.makeFunc fn #[] xs.toArray,t,p,af,g⟩ (.func fn #[] vs.toArray):=fun a w ha _=>by
 have hxs:=Jeh ha hv;simp [execOp,Instr.makeFunc,← hxs]
section nils
variable {g:Option (Nat × Bool)} {xt yt el:TypeId}
theorem run_equal_step {xt:TypeId}{d:TypeDesc}{a b:Value}(hu:P.underlying xt=some d)(w:World)(r:Bool) 
  (h:(Op.equalIn (9999+1) xt a b).run P w=.ok r w):(Op.equal xt a b).run P w=.ok r w:=h
theorem OV.eqlPN {pa:Option Addr}(hu:P.underlying xt=some (.pointer el))(hx:ev e x=some (.pointer pa))(hy:ev e y=some (.pointer none)):OV P n ds e S ⟨dst,.binOp .eql xt x y yt,t,p,af,g⟩ (.bool pa.isNone):=fun _ w ha _=>by
 have h:(Op.equal xt (.pointer pa) (.pointer none)).run P w=.ok pa.isNone w:=by
  refine run_equal_step hu w _ ?_;unfold Op.equalIn;simp only [Sem.run_bind,run_underlying hu,Result.andThen_ok];cases pa <;> rfl
 simp [execOp,ha.eval hx,ha.eval hy,eqGuard,binOp,h]
end nils
theorem WL.buildSlice0 {T s:TypeId}(hu:P.underlying lt=some (.slice T))(hz:P.sz T=some s)(hk:Nat.blt k n=true) 
  (h:∀ b,WL P ops Q n ds ((k,.slice (some ⟨b,0,none⟩) 0 0)::e) (Sat w0 M I ws (row T s (some ⟨b,0,none⟩) 0 0 []::ow)) rest) :
  WL P ops Q n ds e (Sat w0 M I ws ow) (⟨some k,.buildSlice lt 0 #[],t,p,af,none⟩::rest):=by
 refine WL.fi (ι:=Nat) (vv:=fun b=>.slice (some ⟨b,0,none⟩) 0 0) (SS:=fun b=>Sat w0 M I ws (row T s (some ⟨b,0,none⟩) 0 0 []::ow)) ?_ hk h;intro a w ha hw;refine ⟨w.heap.size,w.alloc (.cells #[] T),?_,?_⟩
 ·have hr0:Array.range 0=#[]:=by decide
  simp [execOp,Instr.buildSlice,run_underlying hu,run_sizeOf hz,Instr.fill,newRow,newObj,Sem.run,hr0]
 ·refine hw.fresh (Fr.alloc _ _) ⟨by simp,.inr ⟨w.heap.size,0,#[],rfl,Nat.zero_le _,?_,Nat.le_refl _,Nat.zero_le _,by simp,by simp⟩⟩ (fun b hb=>?_)
  ·exact Jde w (.cells #[] T)
  ·obtain ⟨q,hq,rfl⟩:=hb;simp only [Option.some.injEq] at hq;subst hq;simp
theorem run_callV {g:Operand}{f:FuncId}{caps:List Value}{xs:List Operand}{vs:List Value}{ats:Array TypeId}{a:Act}{gd:Option (Nat × Bool)}(hf:bodied P f=true)(ha:Fits n ds e a)(hg:ev e g=some (.func (.func f) #[] caps.toArray))(hv:evs e xs=some vs)(w:World):
  (execOp a.eval ⟨dst,.call ⟨.value g,xs.toArray,ats⟩,t,p,af,gd⟩).run P w=.ok (.enter f (vs++caps).toArray) w:=by
 unfold bodied at hf
 split at hf
 ·rename_i fn hfn;simp only [xY,Bool.not_eq_true',beq_eq_false_iff_ne,ne_eq] at hf;have hb:fn.body.isNone=false:=by cases h:fn.body <;> simp_all
  have hargs:=Jeh ha hv;simp [execOp,resolve,ha.eval hg,Deferred.ofValue,invoke,callFunc,hfn,hf.2,← hargs];intro h;simp [h] at hb
 ·cases hf
theorem Jep {f:FuncId}(hf:bodied P f=true)(args:Array Value)(w:World):(callFunc f args).run P w=.ok (.enter f args) w:=by
 unfold bodied at hf
 split at hf
 ·rename_i fn hfn;simp only [xY,Bool.not_eq_true',beq_eq_false_iff_ne,ne_eq] at hf;have hb:fn.body.isNone=false:=by cases h:fn.body <;> simp_all
  simp [callFunc,hfn,hf.2];intro h;simp [h] at hb
 ·cases hf
theorem WL.ew {ι:Type}{vv:ι→Value}{SS:ι→World→Prop}{g:Operand}{f:FuncId}{caps:List Value}{xs:List Operand}{vs:List Value}{ats:Array TypeId}(hf:bodied P f=true)(hg:ev e g=some (.func (.func f) #[] caps.toArray))(hv:evs e xs=some vs)(hk:Nat.blt k n=true) 
  (hc:∀ w,S w→Calls P f (vs++caps).toArray w fun en w'=>∃ x,en=.returned (vv x)∧SS x w')
  (h:∀ x,WL P ops Q n ds ((k,vv x)::e) (SS x) rest):WL P ops Q n ds e S (⟨some k,.call ⟨.value g,xs.toArray,ats⟩,t,p,af,none⟩::rest):=by
 intro a w ha hw;unfold wpListIn;rw [if_pos (Jc0 rfl)];refine ⟨fun f _=>Jfa _ f,?_⟩;rw [Je0 (run_callV hf ha hg hv w) (fun _=>by simp)];refine ⟨fun h=>(by rw [fen_depth] at h;cases h),fen_in.2 (Calls.mono (hc w hw) ?_)⟩;rintro en w' ⟨x,rfl,hx⟩;exact h x _ _ (ha.put hk _) hx
theorem WL.extern {ι:Type}{vv:ι→Value}{SS:ι→World→Prop}{f:FuncId}{xs:List Operand}{vs:List Value}{ats:Array TypeId}(hv:evs e xs=some vs)(hk:Nat.blt k n=true) 
  (hc:∀ w,S w→∃ x w',(callFunc f vs.toArray).run P w=.ok (.value (vv x)) w'∧SS x w')
  (h:∀ x,WL P ops Q n ds ((k,vv x)::e) (SS x) rest):WL P ops Q n ds e S (⟨some k,.call ⟨.value (.func f),xs.toArray,ats⟩,t,p,af,none⟩::rest):=by
 refine WL.fi (fun a w ha hw=>?_) hk h;obtain ⟨x,w',h1,h2⟩:=hc w hw;have hargs:=Jeh ha hv;refine ⟨x,w',?_,h2⟩;simp [execOp,resolve,Deferred.ofValue,invoke,Act.eval,← hargs] at h1 ⊢;exact h1
def Yields (P:Program)(l:Nat)(args:List Value)(w:World)(R:Bool→World→Prop):Prop:=
 YieldAt Fence.wide 0 P l args.toArray w fun en w'=>∃ b,en=.returned (.bool b)∧R b w'
theorem Yields.mono {l:Nat}{args:List Value}{R R':Bool→World→Prop}(h:Yields P l args w R)(hr:∀ b w',R b w'→R' b w'):Yields P l args w R':=by
 obtain ⟨fn,tmps,assign,body,h1,h2⟩:=h;exact ⟨fn,tmps,assign,body,h1,h2.mono fun en w' ⟨b,e1,e2⟩=>⟨b,e1,hr _ _ e2⟩⟩
def WR (P:Program)(fn:Func)(R:Ending→World→Prop)(n:Nat)(l:List Deferred)(e:Env)(S:World→Prop):Prop:=
 ∀ a w,(∃ ds,Fits n ds e a)→S w→LeavesInM Fence.wide 0 P fn a.tmps R l .returning w
theorem WR.mark {fn:Func}{R:Ending→World→Prop}{l:List Deferred}{D:Nat}{as:Array Value}(h:WR P fn R n l e (Sat w0 M I ws (own D (.deferred none)::ow))):
  WR P fn R n (⟨.collected D,as⟩::l) e (Sat w0 M I ws (own D (.deferred (some []))::ow)):=by
 intro a w ha hw;have hD:w.heap[D]?=some (.deferred (some [])):=hw.it _ yF;exact ⟨by simp,.inl ⟨D,_,rfl,run_takeDeferred hD,h a _ ha hw.putObj⟩⟩
def CallsDef (P:Program)(f:FuncId)(args:Array Value)(w:World)(R:World→Prop):Prop:=
 CallsDIn Fence.wide 0 P f args .returning w fun en u w'=>(∃ v,en=.returned v)∧u=.returning∧R w'
theorem WR.fn {fn:Func}{R:Ending→World→Prop}{l:List Deferred}{f:FuncId}{vs:List Value}{SS:World→Prop}(hf:bodied P f=true)(hc:∀ w,S w→CallsDef P f vs.toArray w SS) 
  (h:WR P fn R n l e SS):WR P fn R n (⟨.fn (.func f) #[],vs.toArray⟩::l) e S:=by
 intro a w ha hw;refine ⟨by simp,.inr ⟨fun h=>(by cases h),.func f,#[],f,vs.toArray,rfl,?_,fun g hg=>trivial,?_⟩⟩
 ·simp [invoke,Jep hf]
 ·refine CallsDIn.mono (hc w hw) ?_;rintro en u w' ⟨⟨v,rfl⟩,rfl,hw'⟩;exact h a w' ha hw'
theorem WR.ret0 {fn:Func}{R:Ending→World→Prop}(hr:fn.results=#[])(h:∀ w,S w→R (.returned (.tuple #[])) w):WR P fn R n [] e S:=
 fun a w ha hw=>⟨_,results_none hr _ _ _,h w hw⟩
theorem WR.ret1 {fn:Func}{R:Ending→World→Prop}{tt:Tmp}(hr:fn.results=#[.tmp tt])(hv:look e tt=some v)(h:∀ w,S w→R (.returned v) w):WR P fn R n [] e S:=by
 intro a w ⟨ds,ha⟩ hw;refine ⟨_,?_,h w hw⟩;rw [results_tmp hr];simp [Array.getD_eq_getD_getElem?,ha.ok _ _ hv]
theorem WR.ret2 {fn:Func}{R:Ending→World→Prop}{t1 t2:Tmp}{v1 v2:Value}(hr:fn.results=#[.tmp t1,.tmp t2])(h1:look e t1=some v1)(h2:look e t2=some v2)(h:∀ w,S w→R (.returned (.tuple #[v1,v2])) w):WR P fn R n [] e S:=by
 intro a w ⟨ds,ha⟩ hw;refine ⟨_,?_,h w hw⟩;rw [results_tmp2 hr];simp [Array.getD_eq_getD_getElem?,ha.ok _ _ h1,ha.ok _ _ h2]
theorem WR.retC {fn:Func}{R:Ending→World→Prop}{tt:Tmp}{T:TypeId}{b:Nat}{cs:List Value}(hr:fn.results=#[.cell tt T])(hv:look e tt=some (yX b))(hu:P.underlying T=some d)(hd:aggD d=true)(hz:P.sz T=some cs.length) 
  (hc:∀ w,S w→∀ j v,cs[j]?=some v→w.cell? ⟨b,j,none⟩=some v) (h:∀ w,S w→R (.returned (.agg cs.toArray)) w):WR P fn R n [] e S:=by
 intro a w ⟨ds,ha⟩ hw;refine ⟨_,?_,h w hw⟩;have hcc:∀ j v,cs[j]?=some v→w.cell? ((⟨b,0,none⟩:Addr).add j)=some v:=fun j v hj=>by rw [Jav,xM];exact hc w hw j v hj
 simp [results,hr,Array.getD_eq_getD_getElem?,ha.ok _ _ hv,asAddr,loadVar,Jcy hu,hd,run_sizeOf hz,run_loadCells_list w _ cs hcc]
theorem WR.weak {fn:Func}{R:Ending→World→Prop}{l:List Deferred}(hS:∀ w,S w→S' w)(h:WR P fn R n l e S'):WR P fn R n l e S:=fun a w ha hw=>h a w ha (hS w hw)
theorem WR.focus {fn:Func}{R:Ending→World→Prop}{l:List Deferred}{ow':List Item}(hp:ow'.Perm ow)(h:WR P fn R n l e (Sat w0 M I ws ow')):WR P fn R n l e (Sat w0 M I ws ow):=h.weak (fun _ hw=>hw.perm hp)
theorem WL.defer {f:FuncId}{xs:List Operand}{vs:List Value}{ats:Array TypeId}(hr:ds.r=none)(hv:evs e xs=some vs) 
  (h:WL P ops Q n { ds with l:=⟨.fn (.func f) #[],vs.toArray⟩::ds.l } e S rest):WL P ops Q n ds e S (⟨none,.defer ⟨.value (.func f),xs.toArray,ats⟩,t,p,af,none⟩::rest):=by
 intro a w ha hw;unfold wpListIn;rw [if_pos (Jc0 rfl)];refine ⟨fun f _=>Jfa _ f,?_⟩;have hargs:=Jeh ha hv;have hro:(fen ds.r).round=none:=by rw [fen_round,hr]
 have hrun:(Oper.semAt (fen ds.r).round a.eval ⟨none,.defer ⟨.value (.func f),xs.toArray,ats⟩,t,p,af,none⟩).run P w=.ok (.defer ⟨.fn (.func f) #[],vs.toArray⟩) w:=by
  rw [hro,Oper.semAt_none];simp [execOp,resolve,Deferred.ofValue,Act.eval,← hargs]
 rw [hrun];exact h _ _ ⟨ha.size,by show _::a.defers=_;rw [ha.defers],ha.ok⟩ hw
theorem Turns.trans {A1 A2 A3:List Item}{w1 w2 w3:World}(h:Turns A1 A2 w1 w2)(k:Turns A2 A3 w2 w3):Turns A1 A3 w1 w3:=
 ⟨h.fr.trans_new k.fr (fun b ⟨i,hi,hb⟩=>(h.D i hi b hb).2),k.φ,fun i hi b hb=>⟨(k.D i hi b hb).1,(k.D i hi b hb).2.elim (fun ⟨q,hq,hqb⟩=>(h.D q hq b hqb).2) (fun hge=>.inr (Nat.le_trans h.fr.size hge))⟩,k.disj⟩
theorem Turns.holds {A1 A2:List Item}{w1 w2:World}(h:Turns A1 A2 w1 w2):Holds A2 w2:=⟨h.φ,fun i hi b hb=>(h.D i hi b hb).1,h.disj⟩
theorem Turns.refl {A1:List Item}(h:Holds A1 w):Turns A1 A1 w w:=⟨Fr.refl _ _,h.φ,fun i hi b hb=>⟨h.lt i hi b hb,.inl ⟨i,hi,hb⟩⟩,h.disj⟩
theorem Turns.perm {A1 A1' A2 A2':List Item}{w1 w2:World}(h:Turns A1 A2 w1 w2)(h1:A1'.Perm A1)(h2:A2'.Perm A2):Turns A1' A2' w1 w2:=by
 have hd:∀ b,DD A1 b→DD A1' b:=fun b ⟨i,hi,hb⟩=>⟨i,h1.mem_iff.2 hi,hb⟩
 exact ⟨h.fr.mono hd,fun i hi=>h.φ i (h2.mem_iff.1 hi),fun i hi b hb=>⟨(h.D i (h2.mem_iff.1 hi) b hb).1,(h.D i (h2.mem_iff.1 hi) b hb).2.imp (hd b) id⟩,(h2.pairwise_iff (fun h=>Disj.symm h)).2 h.disj⟩
theorem Holds.perm {A1 A1':List Item}(h:Holds A1 w)(h1:A1'.Perm A1):Holds A1' w:=
 ⟨fun i hi=>h.φ i (h1.mem_iff.1 hi),fun i hi=>h.lt i (h1.mem_iff.1 hi),(h1.pairwise_iff (fun h=>Disj.symm h)).2 h.disj⟩
theorem Turns.drop {A1 A2 B:List Item}{w1 w2:World}(h:Turns A1 (B++A2) w1 w2):Turns A1 A2 w1 w2:=
 ⟨h.fr,fun i hi=>h.φ i (xB _ hi),fun i hi=>h.D i (xB _ hi),(List.pairwise_append.1 h.disj).2.1⟩
theorem Holds.append {A1 B:List Item}(h:Holds (A1++B) w):Holds A1 w∧Holds B w:=by
 have hp:=List.pairwise_append.1 h.disj;exact ⟨⟨fun i hi=>h.φ i (xA _ hi),fun i hi=>h.lt i (xA _ hi),hp.1⟩,⟨fun i hi=>h.φ i (xB _ hi),fun i hi=>h.lt i (xB _ hi),hp.2.1⟩⟩
theorem Sat.holdsAll (h:Sat w0 M I ws ow w):Holds ow w:=⟨h.it,fun i hi b hb=>(h.lt i hi b hb).1,h.disj⟩
theorem WL.callT1 {ι:Type}{vv:ι→Value}{pp:ι→Prop}{jj:ι→Item}{f:FuncId}{xs:List Operand}{vs:List Value}{ats:Array TypeId}(hf:bodied P f=true)(hv:evs e xs=Option.some vs)(hk:Nat.blt k n=true) 
  (hc:∀ w,Sat w0 M I ws (i::ow) w→Holds [i] w→Calls P f vs.toArray w fun en w'=>∃ x,en=.returned (vv x)∧pp x∧Turns [i] [jj x] w w')
  (h:∀ x,pp x→WL P ops Q n ds ((k,vv x)::e) (Sat w0 M I ws (jj x::ow)) rest):WL P ops Q n ds e (Sat w0 M I ws (i::ow)) (⟨Option.some k,.call ⟨.value (.func f),xs.toArray,ats⟩,t,p,af,none⟩::rest):=
 WL.callT (A:=[i]) (AA:=fun x=>[jj x]) (ow:=ow) hf hv hk (fun w hw=>hc w hw (Sat.holds (A:=[i]) (ow:=ow) hw)) h
theorem WL.dh {ι:Type}{vv:ι→Value}{pp:ι→Prop}(A:List Item){AA:ι→List Item}{L:List Item}{f:FuncId}{xs:List Operand}{vs:List Value}{ats:Array TypeId}(hL:L=A++ow)(hf:bodied P f=true)(hv:evs e xs=Option.some vs)(hk:Nat.blt k n=true) 
  (hc:∀ w,Sat w0 M I ws (A++ow) w→Holds A w→Calls P f vs.toArray w fun en w'=>∃ x,en=.returned (vv x)∧pp x∧Turns A (AA x) w w')
  (h:∀ x,pp x→WL P ops Q n ds ((k,vv x)::e) (Sat w0 M I ws (AA x++ow)) rest):WL P ops Q n ds e (Sat w0 M I ws L) (⟨Option.some k,.call ⟨.value (.func f),xs.toArray,ats⟩,t,p,af,none⟩::rest):=by
 subst hL;exact WL.callT (AA:=AA) hf hv hk (fun w hw=>hc w hw hw.holds) h
structure LR where
 fn:FuncId
 tmps:Array Value
 ps:Array Tmp
 assign:Code
 body:Code
 D:Nat
def LR.ob (r:LR)(st:LoopState)(pe:Option Code):Obj:=.loop { state:=st,pending:=pe,fn:=r.fn,tmps:=r.tmps,params:=r.ps,assign:=r.assign,body:=r.body,defers:=r.D }
def RR {γ β:Type}(RA:γ→List Item)(CC:β→List Item)(J:Nat→γ→β→Prop)(Jx:Code→Nat→γ→β→Prop)(l:Nat)(lr:LR)(A:List Item)(k:Nat)(W:World)(b:Bool)(W':World):Prop:=
 ∃ g2 y2 o,(b=true→J (k+1) g2 y2∧o=lr.ob .ready none)∧(b=false→∃ c,Jx c (k+1) g2 y2∧o=lr.ob .done (some c))∧Turns A (own l o::(RA g2++CC y2)) W W'
abbrev SatR (W:World)(A0 A:List Item):World→Prop:=Sat W (DD A0) (fun b=>b<W.heap.size∧¬ DD A0 b) W A
end Go.Hw
namespace Go.Hw
open Go Go.RowKit
section
variable {w0 ws:World} {M I:Nat→Prop} {ow:List Item} {P:Program} {ops:Array Oper} {Q:Post} {n:Nat} {ds:DS} {e:Env} {rest:List Oper} {t:TypeId} {p:String} {af:Array Edge} {k:Nat}
theorem WL.cT {ι:Type}{vv:ι→Value}{pp:ι→Prop}(A:List Item){AA:ι→List Item}{L:List Item}{f:FuncId}{xs:List Operand}{vs:List Value}{ats:Array TypeId}(hL:L=A++ow) 
  (hc:∀ w,Sat w0 M I ws (A++ow) w→Holds A w→Calls P f vs.toArray w fun en w'=>∃ x,en=.returned (vv x)∧pp x∧Turns A (AA x) w w')
  (h:∀ x,pp x→WL P ops Q n ds ((k,vv x)::e) (Sat w0 M I ws (AA x++ow)) rest) (hf:bodied P f=true:=by kernel_rfl) (hv:evs e xs=Option.some vs:=by exact rfl) (hk:Nat.blt k n=true:=by exact rfl):WL P ops Q n ds e (Sat w0 M I ws L) (⟨Option.some k,.call ⟨.value (.func f),xs.toArray,ats⟩,t,p,af,none⟩::rest):=WL.dh A hL hf hv hk hc h
end
end Go.Hw
