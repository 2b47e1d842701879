/- Maps: an object whose entries stand in the order of their coming; look-ups, stores, ranges. -/
import Derived.Test.YtdgigbopibdflaaGreatDoorHxTurn
namespace Go.Hw
set_option linter.unusedVariables false
set_option linter.unusedSimpArgs false
open Go Go.RowKit
variable {w0 ws w:World} {M I:Nat→Prop} {ow:List Item} {i j:Item}
variable {P:Program} {ops:Array Oper} {Q:Post} {n:Nat} {ds:DS} {e:Env} {rest:List Oper} {c:Code}
variable {dst:Option Tmp} {t lt:TypeId} {p:String} {af:Array Edge} {x y z:Operand} {v u:Value} {d:TypeDesc} {S S':World→Prop} {k:Nat}
variable {κ:Type} {enc:κ→Value} {kt el b r:Nat} {kv:List (κ × Value)}
def mapEs (enc:κ→Value)(k:Nat)(kv:List (κ × Value)):List MapEntry:=(kv.zipIdx k).map fun q=>⟨enc q.1.1,q.1.2,q.2⟩
def mapK (enc:κ→Value)(kv:List (κ × Value)):Obj:=.map (mapEs enc 0 kv).toArray kv.length
def spot [DecidableEq κ]:List (κ × Value)→κ→Nat→Option (Nat × Value)
 | [],_,_=>none
 | q::l,a,i=>if a=q.1 then some (i,q.2) else spot l a (i+1)
def got [DecidableEq κ](kv:List (κ × Value))(a:κ):Option Value:=(spot kv a 0).map (·.2)
def ups [DecidableEq κ]:List (κ × Value)→κ→Value→List (κ × Value)
 | [],a,v=>[(a,v)]
 | q::l,a,v=>if a=q.1 then (a,v)::l else q::ups l a v
theorem Jgb (q:κ × Value)(l:List (κ × Value))(i:Nat):mapEs enc i (q::l)=⟨enc q.1,q.2,i⟩::mapEs enc (i+1) l:=by simp [mapEs]
theorem mapEs_length (l:List (κ × Value))(i:Nat):(mapEs enc i l).length=l.length:=by simp [mapEs]
theorem Jff (l:List (κ × Value))(i j:Nat):(mapEs enc i l)[j]?=(l[j]?).map fun q=>⟨enc q.1,q.2,i+j⟩:=by
 simp only [mapEs,xG,List.getElem?_zipIdx];cases l[j]? <;> rfl
theorem Jek [DecidableEq κ]:∀ (l:List (κ × Value)) (a:κ) (i:Nat),spot l a i=(spot l a 0).map fun q=>(i+q.1,q.2)
 | [],_,_=>rfl
 | q::l,a,i=>by
  unfold spot
  split
  ·rfl
  ·rw [Jek l a (i+1),Jek l a (0+1)];cases spot l a 0 <;> simp [yC]
theorem spot_spec [DecidableEq κ]:∀ {l:List (κ × Value)} {a:κ} {i:Nat} {v:Value},spot l a 0=some (i,v)→l[i]?=some (a,v)
 | q::l,a,i,v,h=>by
  unfold spot at h
  split at h
  ·rename_i hq;simp only [Option.some.injEq,Prod.mk.injEq] at h;obtain ⟨rfl,rfl⟩:=h;subst hq;rfl
  ·rw [Jek] at h;cases hs:spot l a 0 with
   | none=>rw [hs] at h;cases h
   | some q2=>
    rw [hs] at h;simp only [Option.map_some,Option.some.injEq,Prod.mk.injEq] at h;have:=spot_spec (l:=l) (a:=a) (i:=q2.1) (v:=q2.2) (by rw [hs]);obtain ⟨rfl,rfl⟩:=h;rw [show 0+1+q2.1=q2.1+1 by omega,List.getElem?_cons_succ];exact this
theorem spot_none [DecidableEq κ]:∀ {l:List (κ × Value)} {a:κ} {i:Nat},spot l a i=none↔∀ q∈l,q.1≠a
 | [],a,i=>by simp [spot]
 | q::l,a,i=>by
  unfold spot
  split
  ·rename_i h;simp [h]
  ·rename_i h;rw [spot_none];simp only [yE,forall_eq_or_imp];exact ⟨fun h2=>⟨fun h3=>h h3.symm,h2⟩,fun h2=>h2.2⟩
theorem ups_new [DecidableEq κ]{l:List (κ × Value)}{a:κ}{v:Value}(h:∀ q∈l,q.1≠a):ups l a v=l++[(a,v)]:=by
 induction l with
 | nil=>rfl
 | cons q l ih=>
  unfold ups;rw [if_neg (fun h2=>h q yF h2.symm),ih (fun q hq=>h q (.tail _ hq))];rfl
theorem ups_old [DecidableEq κ]{l:List (κ × Value)}{a:κ}{v u:Value}{i:Nat}(h:spot l a 0=some (i,u)):ups l a v=l.set i (a,v):=by
 induction l generalizing i with
 | nil=>cases h
 | cons q l ih=>
  unfold spot at h;unfold ups
  split at h
  ·rename_i hq;simp only [Option.some.injEq,Prod.mk.injEq] at h;obtain ⟨rfl,_⟩:=h;rw [if_pos hq];rfl
  ·rename_i hq;rw [if_neg hq];rw [Jek] at h;cases hs:spot l a 0 with
   | none=>rw [hs] at h;cases h
   | some q2=>
    rw [hs] at h;simp only [Option.map_some,Option.some.injEq,Prod.mk.injEq] at h;rw [ih (i:=q2.1) (by rw [hs,← h.2])];rw [← h.1,show 0+1+q2.1=q2.1+1 by omega];rfl
structure KeyLaw {κ:Type} [DecidableEq κ] (P:Program) (kt:TypeId) (enc:κ→Value):Prop where
 check:∀ b a w,(Instr.checkKey b 10000 kt (enc a)).run P w=.ok () w
 find:∀ a (l:List (κ × Value)) w,(Instr.findKey kt (enc a) (mapEs enc 0 l)).run P w=.ok (spot l a 0) w
 stays:∀ a,Instr.sameBits 10000 (enc a) (enc a)=true
theorem findNow_spot [DecidableEq κ]{kind:TypeDesc}{enc:κ→Value}(hs:∀ a b,Instr.sameNow kind (enc a) (enc b)=some (decide (a=b)))(a:κ):∀ (l:List (κ × Value)) (i:Nat),Instr.findNow kind (enc a) (mapEs enc i l) i=some (spot l a i)
 | [],i=>rfl
 | q::l,i=>by
  rw [Jgb];unfold Instr.findNow spot;simp only [hs]
  by_cases h:a=q.1
  ·simp [h]
  ·simp [h,findNow_spot hs a l (i+1)]
theorem KeyLaw.int {kt:TypeId}{ik:IntKind}(hu:P.underlying kt=some (.int ik)):KeyLaw P kt (Value.int ik) where
 check b a w:=by
  rw [show (10000:Nat)=9999+1 from rfl];unfold Instr.checkKey;simp only [Sem.run_bind,run_underlying hu,Result.andThen_ok];rfl
 find a l w:=by
  have h:=findNow_spot (kind:=.int ik) (enc:=Value.int ik) (fun a b=>by simp only [Instr.sameNow,if_true,Option.some.injEq];rw [Bool.eq_iff_iff];simp) a l 0;simp [Instr.findKey,run_underlying hu,h]
 stays a:=by
  show (ik == ik && a == a)=true;simp
theorem Jdc {es:Array MapEntry}{ck:Nat}(h:w.heap[b]?=some (.map es ck)):(getObj b).run P w=.ok (.map es ck) w:=by simp [getObj,Sem.run,h]
theorem run_setObj_map {es:Array MapEntry}{ck:Nat}(o:Obj)(h:w.heap[b]?=some (.map es ck)):(setObj b o).run P w=.ok () (w.putObj b o):=by simp [setObj,Sem.run,h,World.putObj]
theorem Fr.putObj (w:World)(b:Nat)(o:Obj):Fr (fun i=>i=b) w (w.putObj b o):=
 ⟨rfl,rfl,rfl,by simp [World.putObj],fun i _ hn=>World.putObj_heap_other hn,Nat.le_refl _⟩
theorem Sat.putObj {b:Nat}{o o':Obj}(h:Sat w0 M I ws (own b o::ow) w):Sat w0 M I ws (own b o'::ow) (w.putObj b o'):=by
 have hb:w.heap[b]?=some o:=h.it _ yF;exact h.turn (Fr.putObj _ _ _) (World.putObj_heap_same (Array.getElem?_eq_some_iff.1 hb).1) (fun b' hb'=>.inl hb')
theorem WL.makeMap (enc:κ→Value)(hk:Nat.blt k n=true)(h:∀ b,WL P ops Q n ds ((k,.map (some b))::e) (Sat w0 M I ws (own b (mapK enc [])::ow)) rest):
  WL P ops Q n ds e (Sat w0 M I ws ow) (⟨some k,.makeMap lt none,t,p,af,none⟩::rest):=by
 refine WL.fi (ι:=Nat) (vv:=fun b=>.map (some b)) (SS:=fun b=>Sat w0 M I ws (own b (mapK enc [])::ow)) ?_ hk h;intro a w ha hw;refine ⟨w.heap.size,w.alloc (.map #[] 0),?_,hw.fresh (Fr.alloc _ _) (Jde _ _) (fun b hb=>by simp only [own] at hb;subst hb;simp)⟩;simp [execOp,Instr.makeMap,newObj,Sem.run]
def _root_.Go.Program.zv (P:Program)(t:TypeId):Option Value:=(P.info? t).bind (·.zero)
theorem run_zv {z:Value}(hz:P.zv lt=some z)(w:World):(zeroValue lt).run P w=.ok z w:=by
 unfold Program.zv at hz;obtain ⟨i,hi,h⟩:=Option.bind_eq_some_iff.1 hz;simp [zeroValue,typeInfo,hi,h]
theorem run_lookup [DecidableEq κ](K:KeyLaw P kt enc)(hu:P.underlying lt=some (.map kt el)){zv:Value}(hz:P.zv el=some zv)(hb:w.heap[b]?=some (mapK enc kv))(a:κ)(ok:Bool):
  (Instr.lookup lt (.map (some b)) (enc a) ok).run P w=.ok (if ok then .tuple #[(got kv a).getD zv,.bool (got kv a).isSome] else (got kv a).getD zv) w:=by
 have hg:(getObj b).run P w=.ok (.map (mapEs enc 0 kv).toArray kv.length) w:=Jdc hb;unfold Instr.lookup;simp only [Sem.run_bind,run_underlying hu,Result.andThen_ok,hg,Sem.run_pure,K.check,K.find,List.toList_toArray];unfold got;cases h:spot kv a 0 with
 | none=>simp [run_zv hz]
 | some q=>cases ok <;> simp
theorem OV.lookup [DecidableEq κ]{g:Option (Nat × Bool)}{a:κ}{zv:Value}(K:KeyLaw P kt enc)(hu:P.underlying lt=some (.map kt el))(hz:P.zv el=some zv)(hx:ev e x=some (.map (some b)))(hy:ev e y=some (enc a)) 
  (hc:∀ w,S w→w.heap[b]?=some (mapK enc kv)):OV P n ds e S ⟨dst,.lookup lt x y false,t,p,af,g⟩ ((got kv a).getD zv):=fun _ w ha hw=>by
 have:=run_lookup K hu hz (hc w hw) a false;simp [execOp,ha.eval hx,ha.eval hy,this]
theorem OV.lenMap {g:Option (Nat × Bool)}(hu:P.underlying lt=some (.map kt el))(hx:ev e x=some (.map (some b)))(hc:∀ w,S w→w.heap[b]?=some (mapK enc kv)):
  OV P n ds e S ⟨dst,.call ⟨.builtin .len,#[x],#[lt]⟩,t,p,af,g⟩ (.int .i64 kv.length):=fun _ w ha hw=>by
 have hg:(getObj b).run P w=.ok (.map (mapEs enc 0 kv).toArray kv.length) w:=Jdc (hc w hw);simp [execOp,resolve,invoke,builtin,ha.eval hx,Builtin.len_,run_underlying hu,goInt,hg,mapEs_length]
theorem mapEs_append (l m:List (κ × Value))(i:Nat):mapEs enc i (l++m)=mapEs enc i l++mapEs enc (i+l.length) m:=by
 simp [mapEs,List.zipIdx_append,Nat.add_comm]
theorem run_mapUpdate [DecidableEq κ](K:KeyLaw P kt enc)(hu:P.underlying lt=some (.map kt el))(hb:w.heap[b]?=some (mapK enc kv))(a:κ)(v:Value):
  (Instr.mapUpdate lt (.map (some b)) (enc a) v).run P w=.ok () (w.putObj b (mapK enc (ups kv a v))):=by
 have hg:(getObj b).run P w=.ok (.map (mapEs enc 0 kv).toArray kv.length) w:=Jdc hb;unfold Instr.mapUpdate;simp only [Sem.run_bind,run_underlying hu,Result.andThen_ok,hg,Sem.run_pure,K.check,K.find,List.toList_toArray];cases h:spot kv a 0 with
 | none=>
  simp only [run_setObj_map _ hb];rw [ups_new (spot_none.1 h)];simp only [mapK,mapEs_append,xL,xQ,xM];simp [mapEs]
 | some q=>
  obtain ⟨i,u⟩:=q;have hs:=spot_spec h
  have hkey:(((mapEs enc 0 kv).toArray[i]?).map (·.key)).getD (enc a)=enc a:=by
   simp [Jff,hs]
  simp only [hkey,Instr.keyThatStays,K.stays,if_true,Sem.run_bind,Sem.run_pure,Result.andThen_ok];rw [run_setObj_map _ hb,ups_old h];congr 2;simp only [mapK,List.length_set];congr 1;apply Array.ext';apply List.ext_getElem?;intro j;simp only [Array.toList_modify,Jff,List.getElem?_modify,List.getElem?_set]
  by_cases hj:i=j
  ·subst hj;have hlt:i<kv.length:=(List.getElem?_eq_some_iff.1 hs).1;simp [hs,hlt]
  ·simp [hj]
theorem WL.mapUpdate [DecidableEq κ]{a:κ}{v:Value}(K:KeyLaw P kt enc)(hu:P.underlying lt=some (.map kt el))(hx:ev e x=some (.map (some b)))(hy:ev e y=some (enc a))(hz:ev e z=some v) 
  (h:WL P ops Q n ds e (Sat w0 M I ws (own b (mapK enc (ups kv a v))::ow)) rest) :
  WL P ops Q n ds e (Sat w0 M I ws (own b (mapK enc kv)::ow)) (⟨none,.mapUpdate lt x y z,t,p,af,none⟩::rest):=by
 refine WL.jd (fun ac w ha hw=>⟨w.putObj b (mapK enc (ups kv a v)),?_,hw.putObj⟩) h;have hb:w.heap[b]?=some (mapK enc kv):=hw.it _ yF;have:=run_mapUpdate K hu hb a v;simp [execOp,ha.eval hx,ha.eval hy,ha.eval hz,this]
def iterK (b n:Nat)(vis:List Nat):Obj:=.mapIter (some b) n vis.toArray n
theorem WL.range (hu:P.underlying lt=some (.map kt el))(hx:ev e x=some (.map (some b)))(hc:∀ w,Sat w0 M I ws ow w→w.heap[b]?=some (mapK enc kv))(hk:Nat.blt k n=true) 
  (h:∀ r,WL P ops Q n ds ((k,yX r)::e) (Sat w0 M I ws (own r (iterK b kv.length [])::ow)) rest) :
  WL P ops Q n ds e (Sat w0 M I ws ow) (⟨some k,.range lt x,t,p,af,none⟩::rest):=by
 refine WL.fi (ι:=Nat) (vv:=fun r=>.pointer (some ⟨r,0,none⟩)) (SS:=fun r=>Sat w0 M I ws (own r (iterK b kv.length [])::ow)) ?_ hk h;intro a w ha hw;have hg:(getObj b).run P w=.ok (.map (mapEs enc 0 kv).toArray kv.length) w:=Jdc (hc w hw);refine ⟨w.heap.size,w.alloc (iterK b kv.length []),?_,hw.fresh (Fr.alloc _ _) (Jde _ _) (fun b hb=>by simp only [own] at hb;subst hb;simp)⟩;simp [execOp,ha.eval hx,Instr.range,run_underlying hu,hg,newObj,Sem.run,iterK]
theorem run_getObj_iter {vis:List Nat}{m:Nat}(h:w.heap[r]?=some (iterK b m vis)):(getObj r).run P w=.ok (iterK b m vis) w:=by simp [getObj,Sem.run,h,iterK]
theorem run_setObj_iter {vis:List Nat}{m:Nat}(o:Obj)(h:w.heap[r]?=some (iterK b m vis)):(setObj r o).run P w=.ok () (w.putObj r o):=by simp [setObj,Sem.run,h,iterK,World.putObj]
def cands (kv:List (κ × Value))(enc:κ→Value)(vis:List Nat):List MapEntry:=(mapEs enc 0 kv).filter fun e=>!vis.contains e.born
theorem mem_cands {q:MapEntry}{vis:List Nat}:q∈cands kv enc vis↔∃ i a,kv[i]?=some a∧i∉vis∧q=⟨enc a.1,a.2,i⟩:=by
 unfold cands;rw [List.mem_filter,List.mem_iff_getElem?];constructor
 ·rintro ⟨⟨i,hi⟩,hv⟩;rw [Jff] at hi;cases hk:kv[i]? with
  | none=>rw [hk] at hi;cases hi
  | some a=>
   rw [hk] at hi;simp only [Option.map_some,Option.some.injEq,xM] at hi;subst hi;exact ⟨i,a,hk,by simpa using hv,rfl⟩
 ·rintro ⟨i,a,hk,hv,rfl⟩;exact ⟨⟨i,by rw [Jff,hk];simp⟩,by simpa using hv⟩
theorem run_choose (q:Question)(w:World):∃ m w',(choose q).run P w=.ok m w'∧w'.heap=w.heap∧w'.os=w.os∧w'.tape=w.tape∧w'.output=w.output∧(∀ k,q=.mapNext k→0<k→m<k):=by
 by_cases hf:q.forced=true
 ·exact ⟨0,w,by simp [choose,Sem.run,hf],rfl,rfl,rfl,rfl,fun k _ hk=>hk⟩
 ·refine ⟨q.cut (w.tape w.drawn q),{ w with drawn:=w.drawn+1 },by simp [choose,Sem.run,hf],rfl,rfl,rfl,rfl,fun k hq hk=>?_⟩;subst hq;exact Nat.mod_lt _ hk
theorem run_next {vis:List Nat}(hr:w.heap[r]?=some (iterK b kv.length vis))(hb:w.heap[b]?=some (mapK enc kv)):
  ((∀ i,i<kv.length→i∈vis)∧∃ w':World,(Instr.next (yX r) false t).run P w=.ok (.tuple #[.bool false]) w'∧w'.heap=w.heap∧w'.os=w.os∧w'.tape=w.tape∧w'.output=w.output) ∨
  (∃ i a,kv[i]?=some a∧i∉vis∧∃ w1:World,(Instr.next (yX r) false t).run P w=.ok (.tuple #[.bool true,enc a.1,a.2]) (w1.putObj r (iterK b kv.length (vis++[i])))∧w1.heap=w.heap∧w1.os=w.os∧w1.tape=w.tape∧w1.output=w.output):=by
 have hg:(getObj b).run P w=.ok (.map (mapEs enc 0 kv).toArray kv.length) w:=Jdc hb;have hgr:(getObj r).run P w=.ok (.mapIter (some b) kv.length vis.toArray kv.length) w:=run_getObj_iter hr
 have hlt:∀ q∈mapEs enc 0 kv,q.born<kv.length:=by
  intro q hq;obtain ⟨i,hi⟩:=List.mem_iff_getElem?.1 hq;rw [Jff] at hi;cases hk:kv[i]? with
  | none=>rw [hk] at hi;cases hi
  | some a=>
   rw [hk] at hi;simp only [Option.map_some,Option.some.injEq] at hi;subst hi;have:=(List.getElem?_eq_some_iff.1 hk).1
   simpa using this
 have hgone:(!vis.toArray.isEmpty && !(mapEs enc 0 kv).toArray.isEmpty && (mapEs enc 0 kv).toArray.all fun x=>decide (x.born≥kv.length))=false:=by
  cases hm:mapEs enc 0 kv with
  | nil=>simp
  | cons q l=>
   have h1:=hlt q (by rw [hm];exact .head _);have:¬ (kv.length≤q.born):=by omega
   simp [this]
 have hleft:((mapEs enc 0 kv).toArray.filter fun e=>!vis.toArray.contains e.born)=(cands kv enc vis).toArray:=by simp [cands]
 have hold:((cands kv enc vis).toArray.filter fun x=>decide (x.born<kv.length))=(cands kv enc vis).toArray:=by
  rw [Array.filter_eq_self];intro q hq;simp only [List.mem_toArray] at hq;have:=hlt q (List.mem_filter.1 hq).1
  simpa using this
 have hnew:((cands kv enc vis).toArray.filter fun x=>decide (x.born≥kv.length))=#[]:=by
  rw [Array.filter_eq_empty_iff];intro q hq;simp only [List.mem_toArray] at hq;have:=hlt q (List.mem_filter.1 hq).1;simp only [ge_iff_le,decide_eq_true_eq];omega
 cases hc:cands kv enc vis with
 | nil=>
  left;refine ⟨fun i hi=>?_,?_⟩
  ·by_cases hv:i∈vis
   ·exact hv
   ·have:(⟨enc kv[i].1,kv[i].2,i⟩:MapEntry)∈cands kv enc vis:=mem_cands.2 ⟨i,kv[i],xD hi,hv,rfl⟩;rw [hc] at this;cases this
  ·obtain ⟨m,w',hm,h1,h2,h3,h4,h5⟩:=run_choose (P:=P) (.mapNext 1) w;have hm0:m=0:=by have:=h5 1 rfl (by decide);omega
   subst hm0;refine ⟨w',?_,h1,h2,h3,h4⟩;simp only [Instr.next,Sem.run_bind,hgr,Result.andThen_ok,hg,hgone,Bool.false_eq_true,if_false,Sem.run_pure];rw [hleft,hold,hnew,hc];have hcc:((if (List.toArray ([]:List MapEntry)).isEmpty=true then #[none] else #[])++Array.map some ((List.toArray ([]:List MapEntry))++#[]))=(#[none]:Array (Option MapEntry)):=by simp
   rw [hcc];have hsz:(#[none]:Array (Option MapEntry)).size=1:=rfl;rw [hsz];simp only [Sem.run_bind,hm,Result.andThen_ok];rfl
 | cons q0 l0=>
  right;have hne:(cands kv enc vis).toArray.isEmpty=false:=by rw [hc];rfl
  obtain ⟨m,w',hm,h1,h2,h3,h4,h5⟩:=run_choose (P:=P) (.mapNext (cands kv enc vis).length) w;have hmlt:m<(cands kv enc vis).length:=h5 _ rfl (by rw [hc];simp);obtain ⟨i,a,hk,hv,hq⟩:=mem_cands.1 (List.getElem_mem hmlt);refine ⟨i,a,hk,hv,w',?_,h1,h2,h3,h4⟩;have hr':w'.heap[r]?=some (iterK b kv.length vis):=by rw [h1];exact hr
  simp only [Instr.next,Sem.run_bind,hgr,Result.andThen_ok,hg,hgone,Bool.false_eq_true,if_false,Sem.run_pure];rw [hleft,hold,hnew]
  have hcc:((if (cands kv enc vis).toArray.isEmpty=true then #[none] else #[])++Array.map some ((cands kv enc vis).toArray++#[]))=(((cands kv enc vis).map some).toArray:Array (Option MapEntry)):=by
   rw [hne];simp
  rw [hcc];simp only [List.size_toArray,xE,hm,Result.andThen_ok]
  have hget:((cands kv enc vis).map some).toArray[m]?=some (some (⟨enc a.1,a.2,i⟩:MapEntry)):=by
   simp [hmlt,hq]
  rw [hget];simp only [Sem.run_bind,run_setObj_iter _ hr',Result.andThen_ok,Sem.run_pure];simp [iterK]
theorem WL.next {vis:List Nat}(hx:ev e x=some (yX r))(hk:Nat.blt k n=true)(hc:∀ w,Sat w0 M I ws (own r (iterK b kv.length vis)::ow) w→w.heap[b]?=some (mapK enc kv)) 
  (h0:(∀ i,i<kv.length→i∈vis)→WL P ops Q n ds ((k,.tuple #[.bool false])::e) (Sat w0 M I ws (own r (iterK b kv.length vis)::ow)) rest)
  (h1:∀ i a,kv[i]?=some a→i∉vis→WL P ops Q n ds ((k,.tuple #[.bool true,enc a.1,a.2])::e) (Sat w0 M I ws (own r (iterK b kv.length (vis++[i]))::ow)) rest) :
  WL P ops Q n ds e (Sat w0 M I ws (own r (iterK b kv.length vis)::ow)) (⟨some k,.next x false,t,p,af,none⟩::rest):=by
 refine WL.fi (ι:=Option (Nat × (κ × Value))) (vv:=fun q=>match q with | none=>.tuple #[.bool false] | some (_,a)=>.tuple #[.bool true,enc a.1,a.2])
  (SS:=fun q w=>match q with
   | none=>(∀ i,i<kv.length→i∈vis)∧Sat w0 M I ws (own r (iterK b kv.length vis)::ow) w
   | some (i,a)=>(kv[i]?=some a∧i∉vis)∧Sat w0 M I ws (own r (iterK b kv.length (vis++[i]))::ow) w) ?_ hk ?_
 ·intro a w ha hw;have hr:w.heap[r]?=some (iterK b kv.length vis):=hw.it _ yF;rcases run_next (P:=P) (t:=t) hr (hc w hw) with ⟨hall,w',hrun,e1,e2,e3,e4⟩ | ⟨i,q,hi,hv,w1,hrun,e1,e2,e3,e4⟩
  ·exact ⟨none,w',by simp [execOp,ha.eval hx,hrun],hall,hw.draw e1 e2 e3 e4 (Jce _ _ hrun)⟩
  ·exact ⟨some (i,q),_,by simp [execOp,ha.eval hx,hrun],⟨hi,hv⟩,(hw.draw e1 e2 e3 e4 (show w.drawn≤_ from Jce (w':=World.putObj _ _ _) _ _ hrun)).putObj⟩
 ·intro q;cases q with
  | none=>exact WL.pure h0
  | some q=>exact WL.pure (fun h=>h1 q.1 q.2 h.1 h.2)
end Go.Hw
