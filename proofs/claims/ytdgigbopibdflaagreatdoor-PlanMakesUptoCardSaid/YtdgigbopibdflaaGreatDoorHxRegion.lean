/- Regions that draw their order, in a call or in a round; an operation that waits for every load (a bar): behind it the loads' cells may turn. -/
import Derived.Test.YtdgigbopibdflaaGreatDoorHxMem
import Derived.OrdersHeld
set_option linter.unusedVariables false
set_option linter.unusedSimpArgs false
namespace Go
section
variable {F:Fence} {n:Nat} {P:Program} {ops:Array Oper} {Q:Exit→Act→World→Prop} {md:Region.Mode} {S:World→Prop} {bar:Nat→Bool}
def NoDef (r:Option Nat)(ops:Array Oper):Prop:=∀ (j:Nat) (o:Oper),ops[j]?=some o→∀ ρ:Operand→Value,o.semAt r ρ=execOp ρ o
def Jiq (ops:Array Oper):Bool:=ops.all fun o=>match o.op with | .defer _=>false | _=>true
theorem noDef_spec (r:Option Nat)(h:Jiq ops=true):NoDef r ops:=fun j o ho ρ=>Oper.semAt_eq r ρ o (fun c hc=>by
 have:=Array.all_eq_true_iff_forall_mem.1 h o (Array.mem_of_getElem? ho);rw [hc] at this;cases this)
theorem YieldsIf.wpOpIn {i:Nat}{o:Oper}{v:Value}{a:Act}(hnd:NoDef F.round ops)(hF:∀ f,F.fn f)(hi:ops[i]?=some o)(hy:YieldsIf P ops S o v a) 
  {K:Act→World→Prop} {w:World} (hS:S w) (h:K (a.put o.dst v) w):wpOpIn F n P ops Q i K a w:=by
 unfold Go.wpOpIn;simp only [hi];rcases hy with ⟨hw,hv⟩ | ⟨hw,rfl⟩
 ·simp only [hw,if_true,Oper.wpIn,hnd _ _ hi,hv w hS,Oper.uponIn];exact ⟨fun f _=>hF f,h⟩
 ·simp only [hw,Bool.false_eq_true,if_false];exact ⟨fun f _=>hF f,h⟩
theorem wpOpIn_putIf {j:Nat}{oi oj:Oper}{v:Value}(hnd:NoDef F.round ops)(hF:∀ f,F.fn f)(hj:ops[j]?=some oj)(hap:oi.apart ops oj=true) 
  (hsi:∀ cs b,oi.op≠.select cs b) (hsj:∀ cs b,oj.op≠.select cs b)
  (hQ:∀ c a w,Q (.panic c) (a.put oi.dst v) w→Q (.panic c) a w) {K:Act→World→Prop} {a:Act} {w:World}
  (hy:YieldsIf P ops S oi v a) (h:wpOpIn F n P ops Q j K (a.put oi.dst v) w) :
  wpOpIn F n P ops Q j (fun a' w'=>YieldsIf P ops S oi v a'∧K (a'.put oi.dst v) w') a w:=by
 obtain ⟨h1,h2,h3⟩:=Oper.apart_spec hap
 have keep:∀ (a:Act),YieldsIf P ops S oi v a→∀ u,YieldsIf P ops S oi v (a.put oj.dst u):=fun a hy u=>
  hy.of_same (execOp_put oi hsi a oj.dst u h3) (wanted_put oi a oj.dst u h3)
 have keepD:∀ d,YieldsIf P ops S oi v { a with defers:=d::a.defers }:=fun d=>hy.of_same rfl rfl
 have hsem:=hnd _ _ hj;unfold wpOpIn at *;simp only [hj] at *;rw [wanted_put oj a oi.dst v h1] at h
 split
 ·rename_i hw;simp only [hw,if_true] at h;unfold Oper.wpIn at *;refine ⟨fun f _=>hF f,?_⟩;have h:=h.2;rw [hsem,execOp_put oj hsj a oi.dst v h1] at h;rw [hsem]
  generalize (execOp a.eval oj).run P w=r at *
  cases r with
  | ok x w'=>
   cases x <;> simp only [Oper.uponIn] at h ⊢
   case value u=>exact ⟨keep a hy u,by rw [← Act.put_comm a v u h2];exact h⟩
   case skip=>exact ⟨keep a hy _,by rw [← Act.put_comm a v undef h2];exact h⟩
   case defer d=>
    refine ⟨keep _ (keepD d) _,?_⟩;rw [← Act.put_comm _ v undef h2,← Act.put_defers];exact h
   case enter f args=>
    refine ⟨h.1,CallsIn.mono h.2 fun e w'' he=>?_⟩;cases e with
    | returned u=>exact ⟨keep a hy u,by rw [← Act.put_comm a v u h2];exact he⟩
    | panicked c=>exact hQ _ _ _ he
    | outgrown=>exact he
   case row row args=>exact ⟨h.1,RowsIn.mono h.2 fun u w'' he=>⟨keep a hy u,by rw [← Act.put_comm a v u h2];exact he⟩⟩
   case round l f tmps assign body=>
    refine ⟨h.1,RoundIn.mono h.2 fun e w'' he=>?_⟩;cases e with
    | returned u=>exact ⟨keep a hy u,by rw [← Act.put_comm a v u h2];exact he⟩
    | panicked c=>exact hQ _ _ _ he
    | outgrown=>exact he
  | halt x w'=>
   cases x <;> simp only [Oper.uponIn] at h ⊢
   case panic u=>exact hQ _ _ _ h
 ·rename_i hw;simp only [hw] at h;exact ⟨fun f _=>hF f,keep a hy _,by rw [← Act.put_comm a v undef h2];exact h.2⟩
def Je8 (F:Fence)(n:Nat)(P:Program)(md:Region.Mode)(ops:Array Oper)(Q:Exit→Act→World→Prop)(S:World→Prop)(bar:Nat→Bool):Nat→Bool→Array Bool→Act→World→Prop
 | 0,_,listed,a,w=>Region.ready md ops listed=[]∧Q .normal a w
 | fuel+1,fl,listed,a,w=>
  (Region.ready md ops listed=[]→Q .normal a w) ∧
  ∀ i∈Region.ready md ops listed,wpOpIn F n P ops Q i (fun a' w'=>((fl || bar i)=false→S w')∧Je8 F n P md ops Q S bar fuel (fl || bar i) (listed.setIfInBounds i true) a' w') a w
theorem wpAnyIn_of_bar:∀ (fuel:Nat) (fl:Bool) (listed:Array Bool) (a:Act) (w:World),Je8 F n P md ops Q S bar fuel fl listed a w→wpAnyIn F n P md ops Q fuel listed a w
 | 0,_,_,_,_,h=>h
 | fuel+1,fl,_,_,_,h=>⟨h.1,fun i hi=>wpOpIn_mono (fun a' w' h'=>wpAnyIn_of_bar fuel _ _ a' w' h'.2) (h.2 i hi)⟩
theorem wpAnyBI_first {i:Nat}{oi:Oper}{v:Value}(hnd:NoDef F.round ops)(hF:∀ f,F.fn f)(hi:ops[i]?=some oi)(hsel:∀ (j:Nat) (o:Oper) cs b,ops[j]?=some o→o.op≠.select cs b) 
  (hQ:∀ c a w,Q (.panic c) (a.put oi.dst v) w→Q (.panic c) a w) (hbi:bar i=false) (hdep:∀ j oj,ops[j]?=some oj→bar j=true→∃ e∈oj.after,Region.binds md e=true∧e.on=i) :
  ∀ (fuel:Nat) (listed:Array Bool) (a:Act) (w:World),
   (∀ j oj,ops[j]?=some oj→j≠i→listed.getD j true=false→(∀ e∈oj.after,Region.binds md e=true→e.on≠i)→oi.apart ops oj=true) →
   i∈Region.ready md ops listed→YieldsIf P ops S oi v a→S w →
   Je8 F n P md ops Q S bar fuel false (listed.setIfInBounds i true) (a.put oi.dst v) w→Je8 F n P md ops Q S bar (fuel+1) false listed a w:=by
 intro fuel
 induction fuel with
 | zero=>
  intro listed a w _ hr hy hS H;refine ⟨fun h=>(by rw [h] at hr;cases hr),fun j hj=>?_⟩
  by_cases hji:j=i
  ·subst hji;rw [hbi];exact hy.wpOpIn hnd hF hi hS ⟨fun _=>hS,H⟩
  ·have:=ready_mono hj hji;rw [H.1] at this;cases this
 | succ fuel ih=>
  intro listed a w hfree hr hy hS H;refine ⟨fun h=>(by rw [h] at hr;cases hr),fun j hj=>?_⟩
  by_cases hji:j=i
  ·subst hji;rw [hbi];exact hy.wpOpIn hnd hF hi hS ⟨fun _=>hS,H⟩
  ·have h1:=H.2 j (ready_mono hj hji);obtain ⟨hjun,oj,hoj,hall⟩:=mem_ready.1 hj
   have hnot:∀ e∈oj.after,Region.binds md e=true→e.on≠i:=fun e he hb heq=>by
    have h1:=hall e he hb;have h0:=(mem_ready.1 hr).1;rw [heq] at h1;rcases Nat.lt_or_ge i listed.size with h' | h'
    ·simp [h'] at h0 h1;rw [h0] at h1;cases h1
    ·simp [Array.getElem?_eq_none h'] at h1
   have hbj:bar j=false:=by
    cases hb:bar j with
    | false=>rfl
    | true=>
     obtain ⟨e,he,hbe,heq⟩:=hdep j oj hoj hb;exact absurd heq (hnot e he hbe)
   rw [hbj] at h1 ⊢;have h2:=wpOpIn_putIf hnd hF hoj (hfree j oj hoj hji hjun hnot) (fun cs b=>hsel i oi cs b hi) (fun cs b=>hsel j oj cs b hoj) hQ hy h1
   have hfree':∀ k ok,ops[k]?=some ok→k≠i→(listed.setIfInBounds j true).getD k true=false →
     (∀ e∈ok.after,Region.binds md e=true→e.on≠i)→oi.apart ops ok=true:=fun k ok hk hki hun hno=>by
    refine hfree k ok hk hki ?_ hno
    by_cases hjk:j=k
    ·subst hjk;exact hjun
    ·rw [getD_set_ne true hjk] at hun;exact hun
   refine wpOpIn_mono (fun a' w' h3=>⟨h3.2.1,ih (listed.setIfInBounds j true) a' w' hfree' (ready_mono hr (Ne.symm hji)) h3.1 (h3.2.1 rfl) ?_⟩) h2;rw [Array.setIfInBounds_comm _ _ hji];exact h3.2.2
theorem Jea {i:Nat}{oi:Oper}{v:Value}(hnd:NoDef F.round ops)(hF:∀ f,F.fn f)(hi:ops[i]?=some oi)(hsel:∀ (j:Nat) (o:Oper) cs b,ops[j]?=some o→o.op≠.select cs b) 
  (hQ:∀ c a w,Q (.panic c) (a.put oi.dst v) w→Q (.panic c) a w) (hbi:bar i=false) :
  ∀ (fuel:Nat) (fl:Bool) (listed:Array Bool) (a:Act) (w:World),
   (∀ j oj,ops[j]?=some oj→j≠i→listed.getD j true=false→(∀ e∈oj.after,Region.binds md e=true→e.on≠i)→oi.apart ops oj=true) →
   i∈Region.ready md ops listed→YieldsIf P ops (fun _=>True) oi v a→(fl=false→S w) →
   Je8 F n P md ops Q S bar fuel fl (listed.setIfInBounds i true) (a.put oi.dst v) w→Je8 F n P md ops Q S bar (fuel+1) fl listed a w:=by
 intro fuel
 induction fuel with
 | zero=>
  intro fl listed a w _ hr hy hS H;refine ⟨fun h=>(by rw [h] at hr;cases hr),fun j hj=>?_⟩
  by_cases hji:j=i
  ·subst hji;rw [hbi,Bool.or_false];exact hy.wpOpIn hnd hF hi trivial ⟨hS,H⟩
  ·have:=ready_mono hj hji;rw [H.1] at this;cases this
 | succ fuel ih=>
  intro fl listed a w hfree hr hy hS H;refine ⟨fun h=>(by rw [h] at hr;cases hr),fun j hj=>?_⟩
  by_cases hji:j=i
  ·subst hji;rw [hbi,Bool.or_false];exact hy.wpOpIn hnd hF hi trivial ⟨hS,H⟩
  ·have h1:=H.2 j (ready_mono hj hji);obtain ⟨hjun,oj,hoj,hall⟩:=mem_ready.1 hj
   have hnot:∀ e∈oj.after,Region.binds md e=true→e.on≠i:=fun e he hb heq=>by
    have h1:=hall e he hb;have h0:=(mem_ready.1 hr).1;rw [heq] at h1;rcases Nat.lt_or_ge i listed.size with h' | h'
    ·simp [h'] at h0 h1;rw [h0] at h1;cases h1
    ·simp [Array.getElem?_eq_none h'] at h1
   have h2:=wpOpIn_putIf hnd hF hoj (hfree j oj hoj hji hjun hnot) (fun cs b=>hsel i oi cs b hi) (fun cs b=>hsel j oj cs b hoj) hQ hy h1
   have hfree':∀ k ok,ops[k]?=some ok→k≠i→(listed.setIfInBounds j true).getD k true=false →
     (∀ e∈ok.after,Region.binds md e=true→e.on≠i)→oi.apart ops ok=true:=fun k ok hk hki hun hno=>by
    refine hfree k ok hk hki ?_ hno
    by_cases hjk:j=k
    ·subst hjk;exact hjun
    ·rw [getD_set_ne true hjk] at hun;exact hun
   refine wpOpIn_mono (fun a' w' h3=>⟨h3.2.1,ih (fl || bar j) (listed.setIfInBounds j true) a' w' hfree' (ready_mono hr (Ne.symm hji)) h3.1 h3.2.1 ?_⟩) h2;rw [Array.setIfInBounds_comm _ _ hji];exact h3.2.2
end
def Jfq (ops:Array Oper)(bars:List Nat)(i:Nat):Bool:=
 (!bars.contains i) && bars.all fun j=>match ops[j]? with
  | some o=>o.after.toList.any fun e=>Region.binds .any e && (e.on == i)
  | none=>true
theorem barsWait_spec {ops:Array Oper}{bars:List Nat}{i:Nat}(h:Jfq ops bars i=true):
  bars.contains i=false∧∀ j oj,ops[j]?=some oj→bars.contains j=true→∃ e∈oj.after,Region.binds .any e=true∧e.on=i:=by
 unfold Jfq at h;simp only [xY,Bool.not_eq_true',List.all_eq_true] at h;refine ⟨h.1,fun j oj hj hb=>?_⟩;have h2:=h.2 j (by simpa using hb);rw [hj] at h2;simp only [List.any_eq_true,xY,beq_iff_eq] at h2;obtain ⟨e,he,h3,h4⟩:=h2;exact ⟨e,by simpa using he,h3,h4⟩
def Jdb (Q:Exit→Act→World→Prop):Exit→Act→World→Prop
 | .panic _,_,_=>False
 | e,a,w=>Q e a w
theorem Jdb.imp {Q:Exit→Act→World→Prop}:∀ (e:Exit) (a:Act) (w:World),Jdb Q e a w→Q e a w:=fun e a w h=>by
 cases e <;> first | exact h | exact (h:False).elim
end Go
namespace Go.Hw
open Go Go.RowKit
variable {w0 ws w:World} {M I:Nat→Prop} {ow:List Item} {i j:Item}
variable {P:Program} {ops:Array Oper} {Q:Post} {n:Nat} {ds:DS} {e:Env} {rest:List Oper} {c:Code}
variable {dst:Option Tmp} {t lt:TypeId} {p:String} {af:Array Edge} {x y z:Operand} {v u:Value} {d:TypeDesc} {S S' C:World→Prop} {k:Nat}
theorem Fits.known {a:Act}(h:Fits n ds e a){t:Nat}{v:Value}(ht:look e t=some v):Fits n ds ((t,v)::e) a:=
 ⟨h.size,h.defers,fun t' u hu=>by
  by_cases htt:t=t'
  ·subst htt;rw [Jdv] at hu;rw [← hu];exact h.ok _ _ ht |>.trans (by rfl)
  ·rw [Jec _ _ htt] at hu;exact h.ok _ _ hu⟩
theorem WL.split {t:Nat}{b:Bool}{l:List Oper}(h:look e t=some (.bool b))(ht:b=true→WL P ops Q n ds ((t,.bool true)::e) S l)(hf:b=false→WL P ops Q n ds ((t,.bool false)::e) S l):WL P ops Q n ds e S l:=by
 intro a w ha hw;cases b with
 | true=>exact ht rfl a w (ha.known h) hw
 | false=>exact hf rfl a w (ha.known h) hw
theorem WL.known {t:Nat}{b b':Bool}{l:List Oper}(h:look e t=some (.bool b'))(hb:b'=b)(ht:WL P ops Q n ds ((t,.bool b)::e) S l):WL P ops Q n ds e S l:=by
 intro a w ha hw;subst hb;exact ht a w (ha.known h) hw
def WH (P:Program)(ops:Array Oper)(Q:Post)(n:Nat)(ds:DS)(e:Env)(S C:World→Prop)(bars:List Nat)(fuel:Nat)(fl:Bool)(listed:List Bool):Prop:=
 NoDef ds.r ops→∀ a w,Fits n ds e a→S w→Je8 (fen ds.r) 0 P .any ops Q C (fun j=>bars.contains j) fuel fl listed.toArray a w
theorem WC.drawn {id:Nat}{l:List Oper}(C:World→Prop)(bars:List Nat)(hm:P.follows .mixedOrders=true)(hd:Jiq l.toArray=true){m:Nat}(hl:l.length=m) 
  (h:WH P l.toArray (Jdb Q) n ds e (Sat w0 M I ws ow) C bars m false (List.replicate m false)):WC P Q n ds e (Sat w0 M I ws ow) (.region id l.toArray true):=by
 intro a w ha hw;refine Go.wpIn_mono (wpIn_region_any hm (wpAnyIn_of_bar (S:=C) (bar:=fun j=>bars.contains j) _ false _ _ _ ?_)) Jdb.imp;have:=h (noDef_spec _ hd) a { w with drawn:=w.drawn+1 } ha (hw.draw rfl rfl rfl rfl (Nat.le_succ _))
 simpa [hl] using this
section
variable {l:List Oper} {op:Op} {fuel:Nat} {listed:List Bool} {bars:List Nat} {fl:Bool}
theorem Jdm {ops:Array Oper}(h:NoDef ds.r ops):NoDef (fen ds.r).round ops:=by rw [fen_round];exact h
theorem WH.take (i:Nat)(hi:l[i]?=some ⟨some k,op,t,p,af,none⟩) 
  (hs:Region.noSelect l.toArray=true) (hf:Region.free .any l.toArray listed.toArray i=true) (hr:(Region.ready .any l.toArray listed.toArray).contains i=true) (hb:Jfq l.toArray bars i=true)
  (hC:∀ w,S w→C w) (hv:OV P n ds e C ⟨some k,op,t,p,af,none⟩ v) (hk:Nat.blt k n=true) {listed':List Bool} (hl':listed.set i true=listed')
  (h:WH P l.toArray (Jdb Q) n ds ((k,v)::e) S C bars fuel false listed'):WH P l.toArray (Jdb Q) n ds e S C bars (fuel+1) false listed:=by
 intro hnd a w ha hw;have hi':=hi;rw [← List.getElem?_toArray] at hi';obtain ⟨hb1,hb2⟩:=barsWait_spec hb;refine wpAnyBI_first (Jdm hnd) (Jfa _) hi' (Region.noSelect_spec hs) (fun _ _ _ h=>h) hb1 hb2 fuel _ a w (Region.free_spec hi' hf) (by simpa using hr) (Or.inl ⟨by simp [Region.wanted],fun w' hw'=>hv a w' ha hw'⟩) (hC w hw) ?_;have:=h hnd _ w (ha.put hk v) hw;rw [List.setIfInBounds_toArray,hl'];exact this
theorem WH.takeG (i:Nat){jj:Nat}{want b:Bool}{dj:Nat}(hi:l[i]?=some ⟨some k,op,t,p,af,some (jj,want)⟩) 
  (hs:Region.noSelect l.toArray=true) (hf:Region.free .any l.toArray listed.toArray i=true) (hr:(Region.ready .any l.toArray listed.toArray).contains i=true) (hb:Jfq l.toArray bars i=true)
  (hC:∀ w,S w→C w) (hj:(l.toArray[jj]?).bind (·.dst)=some dj) (hb0:look e dj=some (.bool b)) (hne:(b == want)=true) (hv:OV P n ds e C ⟨some k,op,t,p,af,none⟩ v) (hk:Nat.blt k n=true) {listed':List Bool} (hl':listed.set i true=listed')
  (h:WH P l.toArray (Jdb Q) n ds ((k,v)::e) S C bars fuel false listed'):WH P l.toArray (Jdb Q) n ds e S C bars (fuel+1) false listed:=by
 intro hnd a w ha hw;have hi':=hi;rw [← List.getElem?_toArray] at hi';obtain ⟨hb1,hb2⟩:=barsWait_spec hb;have hy:yielded l.toArray a.tmps jj=some b:=by simp only [yielded,hj,Option.bind_some,ha.ok _ _ hb0]
 refine wpAnyBI_first (Jdm hnd) (Jfa _) hi' (Region.noSelect_spec hs) (fun _ _ _ h=>h) hb1 hb2 fuel _ a w (Region.free_spec hi' hf) (by simpa using hr) (Or.inl ⟨by simp only [Region.wanted,hy];simpa using hne,fun w' hw'=>hv a w' ha hw'⟩) (hC w hw) ?_;have:=h hnd _ w (ha.put hk v) hw;rw [List.setIfInBounds_toArray,hl'];exact this
theorem WH.free (i:Nat)(hi:l[i]?=some ⟨some k,op,t,p,af,none⟩) 
  (hs:Region.noSelect l.toArray=true) (hf:Region.free .any l.toArray listed.toArray i=true) (hr:(Region.ready .any l.toArray listed.toArray).contains i=true) (hb:bars.contains i=false)
  (hC:fl=false→∀ w,S w→C w) (hv:OV P n ds e (fun _=>True) ⟨some k,op,t,p,af,none⟩ v) (hk:Nat.blt k n=true) {listed':List Bool} (hl':listed.set i true=listed')
  (h:WH P l.toArray (Jdb Q) n ds ((k,v)::e) S C bars fuel fl listed'):WH P l.toArray (Jdb Q) n ds e S C bars (fuel+1) fl listed:=by
 intro hnd a w ha hw;have hi':=hi;rw [← List.getElem?_toArray] at hi';refine Jea (Jdm hnd) (Jfa _) hi' (Region.noSelect_spec hs) (fun _ _ _ h=>h) hb fuel fl _ a w (Region.free_spec hi' hf) (by simpa using hr) (Or.inl ⟨by simp [Region.wanted],fun w' _=>hv a w' ha trivial⟩) (fun hfl=>hC hfl w hw) ?_;have:=h hnd _ w (ha.put hk v) hw;rw [List.setIfInBounds_toArray,hl'];exact this
theorem WH.freeG (i:Nat){jj:Nat}{want b:Bool}{dj:Nat}(hi:l[i]?=some ⟨some k,op,t,p,af,some (jj,want)⟩) 
  (hs:Region.noSelect l.toArray=true) (hf:Region.free .any l.toArray listed.toArray i=true) (hr:(Region.ready .any l.toArray listed.toArray).contains i=true) (hb:bars.contains i=false)
  (hC:fl=false→∀ w,S w→C w) (hj:(l.toArray[jj]?).bind (·.dst)=some dj) (hb0:look e dj=some (.bool b)) (hne:(b == want)=true) (hv:OV P n ds e (fun _=>True) ⟨some k,op,t,p,af,none⟩ v) (hk:Nat.blt k n=true) {listed':List Bool} (hl':listed.set i true=listed')
  (h:WH P l.toArray (Jdb Q) n ds ((k,v)::e) S C bars fuel fl listed'):WH P l.toArray (Jdb Q) n ds e S C bars (fuel+1) fl listed:=by
 intro hnd a w ha hw;have hi':=hi;rw [← List.getElem?_toArray] at hi';have hy:yielded l.toArray a.tmps jj=some b:=by simp only [yielded,hj,Option.bind_some,ha.ok _ _ hb0]
 refine Jea (Jdm hnd) (Jfa _) hi' (Region.noSelect_spec hs) (fun _ _ _ h=>h) hb fuel fl _ a w (Region.free_spec hi' hf) (by simpa using hr) (Or.inl ⟨by simp only [Region.wanted,hy];simpa using hne,fun w' _=>hv a w' ha trivial⟩) (fun hfl=>hC hfl w hw) ?_;have:=h hnd _ w (ha.put hk v) hw;rw [List.setIfInBounds_toArray,hl'];exact this
theorem WH.skip (i:Nat){jj:Nat}{want b:Bool}{dj:Nat}(hi:l[i]?=some ⟨some k,op,t,p,af,some (jj,want)⟩) 
  (hs:Region.noSelect l.toArray=true) (hf:Region.free .any l.toArray listed.toArray i=true) (hr:(Region.ready .any l.toArray listed.toArray).contains i=true) (hb:bars.contains i=false)
  (hC:fl=false→∀ w,S w→C w) (hj:(l.toArray[jj]?).bind (·.dst)=some dj) (hb0:look e dj=some (.bool b)) (hne:(b == want)=false) (hk:Nat.blt k n=true) {listed':List Bool} (hl':listed.set i true=listed')
  (h:WH P l.toArray (Jdb Q) n ds ((k,undef)::e) S C bars fuel fl listed'):WH P l.toArray (Jdb Q) n ds e S C bars (fuel+1) fl listed:=by
 intro hnd a w ha hw;have hi':=hi;rw [← List.getElem?_toArray] at hi';have hy:yielded l.toArray a.tmps jj=some b:=by simp only [yielded,hj,Option.bind_some,ha.ok _ _ hb0]
 refine Jea (Jdm hnd) (Jfa _) hi' (Region.noSelect_spec hs) (fun _ _ _ h=>h) hb fuel fl _ a w (Region.free_spec hi' hf) (by simpa using hr) (Or.inr ⟨by simp only [Region.wanted,hy];simpa using hne,rfl⟩) (fun hfl=>hC hfl w hw) ?_;have:=h hnd _ w (ha.put hk undef) hw;rw [List.setIfInBounds_toArray,hl'];exact this
theorem WH.split {t:Nat}{b:Bool}(h:look e t=some (.bool b))(ht:b=true→WH P ops Q n ds ((t,.bool true)::e) S C bars fuel fl listed)(hf:b=false→WH P ops Q n ds ((t,.bool false)::e) S C bars fuel fl listed):WH P ops Q n ds e S C bars fuel fl listed:=by
 intro hnd a w ha hw;cases b with
 | true=>exact ht rfl hnd a w (ha.known h) hw
 | false=>exact hf rfl hnd a w (ha.known h) hw
theorem WH.known {t:Nat}{b b':Bool}(h:look e t=some (.bool b'))(hb:b'=b)(ht:WH P ops Q n ds ((t,.bool b)::e) S C bars fuel fl listed):WH P ops Q n ds e S C bars fuel fl listed:=by
 intro hnd a w ha hw;subst hb;exact ht hnd a w (ha.known h) hw
def HCont (P:Program)(ops:Array Oper)(Q:Post)(r:Option Nat)(C:World→Prop)(bars:List Nat)(fuel:Nat)(fl:Bool)(listed:List Bool):Post:=
 Exit.then (fun a w=>(fl=false→C w)∧Je8 (fen r) 0 P .any ops Q C (fun j=>bars.contains j) fuel fl listed.toArray a w) Q
theorem Jd2 {o:Oper}{j:Nat}(hi:l[j]?=some o){listed':List Bool}(hl':listed.set j true=listed'){fl':Bool}(hfl:(fl || bars.contains j)=fl') 
  (h:WL P l.toArray (HCont P l.toArray Q ds.r C bars fuel fl' listed') n ds e S [o]) {a:Act} {w:World} (ha:Fits n ds e a) (hw:S w) :
  wpOpIn (fen ds.r) 0 P l.toArray Q j (fun a' w'=>((fl || bars.contains j)=false→C w')∧Je8 (fen ds.r) 0 P .any l.toArray Q C (fun j=>bars.contains j) fuel (fl || bars.contains j) (listed.toArray.setIfInBounds j true) a' w') a w:=by
 have h1:=h a w ha hw;unfold wpOpIn;have hi':l.toArray[j]?=some o:=by simpa using hi
 rw [hi'];unfold wpListIn at h1;have hset:listed.toArray.setIfInBounds j true=listed'.toArray:=by rw [List.setIfInBounds_toArray,hl']
 rw [hset,hfl];have hK:wpListIn (fen ds.r) 0 P l.toArray (HCont P l.toArray Q ds.r C bars fuel fl' listed') []=(fun a w=>(fl'=false→C w)∧Je8 (fen ds.r) 0 P .any l.toArray Q C (fun j=>bars.contains j) fuel fl' listed'.toArray a w):=rfl;rw [hK] at h1;show if Region.wanted o (yielded l.toArray a.tmps)=true then _ else _
 split
 ·rename_i hw';rw [if_pos hw'] at h1;unfold Oper.wpIn at h1 ⊢;refine ⟨h1.1,?_⟩;have h1:=h1.2
  revert h1
  generalize (o.semAt (fen ds.r).round a.eval).run P w=r
  intro h1;cases r with
  | ok nn w'=>
   cases nn <;> simp only [Oper.uponIn] at h1 ⊢ <;> first
    | exact h1
    | (
      refine ⟨h1.1,CallsIn.mono h1.2 (fun en w'' he=>?_)⟩;cases en with
      | returned u=>exact he
      | panicked ch=>exact he
      | outgrown=>obtain ⟨a1,w1,hq⟩:=he;exact ⟨a1,w1,hq⟩)
    | (
      refine ⟨h1.1,RoundIn.mono h1.2 (fun en w'' he=>?_)⟩;cases en with
      | returned u=>exact he
      | panicked ch=>exact he
      | outgrown=>obtain ⟨a1,w1,hq⟩:=he;exact ⟨a1,w1,hq⟩)
  | halt hh w'=>cases hh <;> simp only [Oper.uponIn] at h1 ⊢ <;> exact h1
 ·rename_i hw';rw [if_neg hw'] at h1;exact h1
theorem WH.only {o:Oper}(i:Nat)(hi:l[i]?=some o)(hr:Region.ready .any l.toArray listed.toArray=[i]){listed':List Bool}(hl':listed.set i true=listed'){fl':Bool}(hf':(fl || bars.contains i)=fl') 
  (h0:WL P l.toArray (HCont P l.toArray Q ds.r C bars fuel fl' listed') n ds e S [o]):WH P l.toArray Q n ds e S C bars (fuel+1) fl listed:=by
 intro hnd a w ha hw;refine ⟨fun h0=>absurd (hr ▸ h0) (by simp),fun j hj=>?_⟩;rw [hr] at hj;simp only [yE,List.not_mem_nil,or_false] at hj;subst hj;exact Jd2 hi hl' hf' h0 ha hw
theorem WH.two {o1 o2:Oper}(i1 i2:Nat)(hi1:l[i1]?=some o1)(hi2:l[i2]?=some o2)(hr:Region.ready .any l.toArray listed.toArray=[i1,i2]){listed1 listed2:List Bool}(hl1:listed.set i1 true=listed1)(hl2:listed.set i2 true=listed2){fl1 fl2:Bool}(hf1:(fl || bars.contains i1)=fl1)(hf2:(fl || bars.contains i2)=fl2) 
  (h1:WL P l.toArray (HCont P l.toArray Q ds.r C bars fuel fl1 listed1) n ds e S [o1]) (h2:WL P l.toArray (HCont P l.toArray Q ds.r C bars fuel fl2 listed2) n ds e S [o2]):WH P l.toArray Q n ds e S C bars (fuel+1) fl listed:=by
 intro hnd a w ha hw;refine ⟨fun h0=>absurd (hr ▸ h0) (by simp),fun j hj=>?_⟩;rw [hr] at hj;simp only [yE,List.not_mem_nil,or_false] at hj;rcases hj with rfl | rfl
 ·exact Jd2 hi1 hl1 hf1 h1 ha hw
 ·exact Jd2 hi2 hl2 hf2 h2 ha hw
theorem WH.three {o1 o2 o3:Oper}(i1 i2 i3:Nat)(hi1:l[i1]?=some o1)(hi2:l[i2]?=some o2)(hi3:l[i3]?=some o3)(hr:Region.ready .any l.toArray listed.toArray=[i1,i2,i3]){listed1 listed2 listed3:List Bool}(hl1:listed.set i1 true=listed1)(hl2:listed.set i2 true=listed2)(hl3:listed.set i3 true=listed3){fl1 fl2 fl3:Bool}(hf1:(fl || bars.contains i1)=fl1)(hf2:(fl || bars.contains i2)=fl2)(hf3:(fl || bars.contains i3)=fl3) 
  (h1:WL P l.toArray (HCont P l.toArray Q ds.r C bars fuel fl1 listed1) n ds e S [o1]) (h2:WL P l.toArray (HCont P l.toArray Q ds.r C bars fuel fl2 listed2) n ds e S [o2]) (h3:WL P l.toArray (HCont P l.toArray Q ds.r C bars fuel fl3 listed3) n ds e S [o3]):WH P l.toArray Q n ds e S C bars (fuel+1) fl listed:=by
 intro hnd a w ha hw;refine ⟨fun h0=>absurd (hr ▸ h0) (by simp),fun j hj=>?_⟩;rw [hr] at hj;simp only [yE,List.not_mem_nil,or_false] at hj;rcases hj with rfl | rfl | rfl
 ·exact Jd2 hi1 hl1 hf1 h1 ha hw
 ·exact Jd2 hi2 hl2 hf2 h2 ha hw
 ·exact Jd2 hi3 hl3 hf3 h3 ha hw
theorem WX.cont (hC:fl=false→∀ w,S w→C w)(hnd:NoDef ds.r ops)(h:WH P ops Q n ds e S C bars fuel fl listed):WX (HCont P ops Q ds.r C bars fuel fl listed) n ds e S .normal:=
 fun a w ha hw=>⟨fun hfl=>hC hfl w hw,h hnd a w ha hw⟩
theorem WX.contD {l:List Oper}(hd:Jiq l.toArray=true)(hC:fl=false→∀ w,S w→C w)(h:WH P l.toArray Q n ds e S C bars fuel fl listed):WX (HCont P l.toArray Q ds.r C bars fuel fl listed) n ds e S .normal:=
 WX.cont hC (noDef_spec _ hd) h
theorem WH.done (hr:Region.ready .any ops listed.toArray=[])(h:WX Q n ds e S .normal):WH P ops (Jdb Q) n ds e S C bars fuel fl listed:=by
 intro _ a w ha hw;have hq:Jdb Q .normal a w:=h a w ha hw;cases fuel with
 | zero=>exact ⟨hr,hq⟩
 | succ f=>exact ⟨fun _=>hq,by rw [hr];simp⟩
end
end Go.Hw
