/- What is known of memory: a snapshot of what stays, and the blocks of the call's own. -/
import Derived.Test.YtdgigbopibdflaaGreatDoorHxCore
import Derived.Test.YtdgigbopibdflaaGreatDoorHxDraw
import Derived.Laws.CopyRow
import Derived.Laws.AppendOwn
namespace Go.Hw
set_option linter.unusedVariables false
set_option linter.unusedSimpArgs false
open Go Go.RowKit
structure Fr (M:Nat→Prop) (w w':World):Prop where
 os:w'.os=w.os
 tape:w'.tape=w.tape
 output:w'.output=w.output
 size:w.heap.size≤w'.heap.size
 keep:∀ b,b<w.heap.size→¬ M b→w'.heap[b]?=w.heap[b]?
 draws:w.drawn≤w'.drawn
abbrev Fr0:World→World→Prop:=Fr (fun _=>False)
theorem Fr.refl (M:Nat→Prop)(w:World):Fr M w w:=⟨rfl,rfl,rfl,Nat.le_refl _,fun _ _ _=>rfl,Nat.le_refl _⟩
theorem Fr.trans {M:Nat→Prop}{a b c:World}(h:Fr M a b)(k:Fr M b c):Fr M a c:=
 ⟨k.os.trans h.os,k.tape.trans h.tape,k.output.trans h.output,Nat.le_trans h.size k.size,
  fun i hi hm=>(k.keep i (Nat.lt_of_lt_of_le hi h.size) hm).trans (h.keep i hi hm),Nat.le_trans h.draws k.draws⟩
theorem Fr.mono {M M':Nat→Prop}{a b:World}(h:Fr M a b)(hm:∀ i,M i→M' i):Fr M' a b:=
 ⟨h.os,h.tape,h.output,h.size,fun i hi hn=>h.keep i hi (fun hh=>hn (hm i hh)),h.draws⟩
theorem Fr.trans_new {M M':Nat→Prop}{a b c:World}(h:Fr M a b)(k:Fr M' b c)(hm:∀ i,M' i→M i∨a.heap.size≤i):Fr M a c:=
 ⟨k.os.trans h.os,k.tape.trans h.tape,k.output.trans h.output,Nat.le_trans h.size k.size,
  fun i hi hn=>(k.keep i (Nat.lt_of_lt_of_le hi h.size) (fun hh=>(hm i hh).elim hn (fun hge=>by omega))).trans (h.keep i hi hn),Nat.le_trans h.draws k.draws⟩
theorem Fr.below {w w':World}(h:Fr0 w w'):Below w.heap.size w w':=⟨h.os,h.tape,h.output,h.size,fun b hb=>h.keep b hb (fun hf=>hf)⟩
structure Item where
 D:Nat→Prop
 φ:World→Prop
 loc:∀ w w',(∀ b,D b→w'.heap[b]?=w.heap[b]?)→φ w→φ w'
def own (b:Nat)(o:Obj):Item:=⟨fun i=>i=b,fun w=>w.heap[b]?=some o,fun _ _ h hw=>(h b rfl).trans hw⟩
abbrev oQ (b:Nat)(l:List Value)(T:TypeId):Item:=own b (.cells l.toArray T (0,0))
def Disj (i j:Item):Prop:=∀ b,i.D b→¬ j.D b
theorem Disj.symm {i j:Item}(h:Disj i j):Disj j i:=fun b hb hi=>h b hi hb
structure Sat (w0:World) (M I:Nat→Prop) (ws:World) (ow:List Item) (w:World):Prop where
 fr:Fr M w0 w
 snap:∀ b,I b→b<w.heap.size∧w.heap[b]?=ws.heap[b]?
 it:∀ i∈ow,i.φ w
 lt:∀ i∈ow,∀ b,i.D b→b<w.heap.size∧¬ I b∧(M b∨w0.heap.size≤b)
 disj:ow.Pairwise Disj
variable {w0 ws w:World} {M I:Nat→Prop} {ow:List Item} {i j k l:Item}
theorem Sat.start (w:World)(M:Nat→Prop):Sat w M (fun b=>b<w.heap.size) w [] w:=
 ⟨Fr.refl _ _,fun _ h=>⟨h,rfl⟩,by simp,by simp,.nil⟩
theorem Sat.cell (h:Sat w0 M I ws ow w){a:Addr}(ha:I a.block):w.cell? a=ws.cell? a:=
 World.cell?_of_block (w:=ws) (h.snap a.block ha).2
theorem Sat.resnap (h:Sat w0 M I ws ow w):Sat w0 M (fun b=>b<w.heap.size∧∀ i∈ow,¬ i.D b) w ow w:=
 ⟨h.fr,fun _ hb=>⟨hb.1,rfl⟩,h.it,fun i hi b hb=>⟨(h.lt i hi b hb).1,fun hn=>hn.2 i hi hb,(h.lt i hi b hb).2.2⟩,h.disj⟩
theorem snapL {w w':World}(h:Sat w M (fun b=>b<w.heap.size) w ow w'){a:Addr}{v:Value}(hc:w.cell? a=some v):w'.cell? a=some v:=
 (h.cell (World.block_lt_of_cell? w a hc)).trans hc
theorem Sat.draw (h:Sat w0 M I ws ow w){w':World}(hh:w'.heap=w.heap)(ho:w'.os=w.os)(ht:w'.tape=w.tape)(hp:w'.output=w.output)(hd:w.drawn≤w'.drawn):Sat w0 M I ws ow w':=
 ⟨⟨ho.trans h.fr.os,ht.trans h.fr.tape,hp.trans h.fr.output,by rw [hh];exact h.fr.size,by rw [hh];exact h.fr.keep,Nat.le_trans h.fr.draws hd⟩,by rw [hh];exact h.snap,
  fun i hi=>i.loc w w' (by simp [hh]) (h.it i hi),by rw [hh];exact h.lt,h.disj⟩
theorem Sat.drop (h:Sat w0 M I ws (i::ow) w):Sat w0 M I ws ow w:=
 ⟨h.fr,h.snap,fun j hj=>h.it j (.tail _ hj),fun j hj=>h.lt j (.tail _ hj),(List.pairwise_cons.1 h.disj).2⟩
theorem Sat.perm {ow':List Item}(hp:ow'.Perm ow)(h:Sat w0 M I ws ow w):Sat w0 M I ws ow' w:=
 ⟨h.fr,h.snap,fun i hi=>h.it i (hp.mem_iff.1 hi),fun i hi=>h.lt i (hp.mem_iff.1 hi),(hp.pairwise_iff (fun h=>Disj.symm h)).2 h.disj⟩
theorem Sat.keep (h:Sat w0 M I ws ow w){w':World}(k:Fr0 w w'):Sat w0 M I ws ow w':=
 ⟨h.fr.trans (k.mono (fun _ f=>f.elim)),fun b hb=>⟨Nat.lt_of_lt_of_le (h.snap b hb).1 k.size,(k.keep b (h.snap b hb).1 id).trans (h.snap b hb).2⟩,
  fun i hi=>i.loc w w' (fun b hb=>k.keep b (h.lt i hi b hb).1 id) (h.it i hi),
  fun i hi b hb=>⟨Nat.lt_of_lt_of_le (h.lt i hi b hb).1 k.size,(h.lt i hi b hb).2⟩,h.disj⟩
theorem Sat.fresh (h:Sat w0 M I ws ow w){w':World}(k:Fr0 w w'){i:Item}(hi:i.φ w')(hD:∀ b,i.D b→w.heap.size≤b∧b<w'.heap.size):Sat w0 M I ws (i::ow) w':=by
 have h':=h.keep k;refine ⟨h'.fr,h'.snap,fun j hj=>?_,fun j hj b hb=>?_,List.pairwise_cons.2 ⟨fun j hj b hb hjb=>?_,h'.disj⟩⟩
 ·rcases List.mem_cons.1 hj with rfl | hj
  ·exact hi
  ·exact h'.it j hj
 ·rcases List.mem_cons.1 hj with rfl | hj
  ·have:=hD b hb;exact ⟨this.2,fun hI=>by have:=(h.snap b hI).1;omega,.inr (Nat.le_trans h.fr.size this.1)⟩
  ·exact h'.lt j hj b hb
 ·have:=hD b hb;have:=(h.lt j hj b hjb).1;omega
theorem Sat.turn (h:Sat w0 M I ws (i::ow) w){w':World}{i':Item}(k:Fr i.D w w')(hi:i'.φ w')(hD:∀ b,i'.D b→i.D b∨(w.heap.size≤b∧b<w'.heap.size)):Sat w0 M I ws (i'::ow) w':=by
 have hd:=List.pairwise_cons.1 h.disj;have hlt:=h.lt i yF;have others:∀ j∈ow,∀ b,j.D b→w'.heap[b]?=w.heap[b]?:=fun j hj b hb=>k.keep b (h.lt j (.tail _ hj) b hb).1 (fun hib=>hd.1 j hj b hib hb)
 refine ⟨h.fr.trans_new k (fun b hb=>(hlt b hb).2.2),fun b hb=>?_,fun j hj=>?_,fun j hj b hb=>?_,List.pairwise_cons.2 ⟨fun j hj b hb hjb=>?_,hd.2⟩⟩
 ·exact ⟨Nat.lt_of_lt_of_le (h.snap b hb).1 k.size,(k.keep b (h.snap b hb).1 (fun hib=>(hlt b hib).2.1 hb)).trans (h.snap b hb).2⟩
 ·rcases List.mem_cons.1 hj with rfl | hj
  ·exact hi
  ·exact j.loc w w' (others j hj) (h.it j (.tail _ hj))
 ·rcases List.mem_cons.1 hj with rfl | hj
  ·rcases hD b hb with hb | hb
   ·exact ⟨Nat.lt_of_lt_of_le (hlt b hb).1 k.size,(hlt b hb).2⟩
   ·exact ⟨hb.2,fun hI=>by have:=(h.snap b hI).1;omega,.inr (Nat.le_trans h.fr.size hb.1)⟩
  ·have:=h.lt j (.tail _ hj) b hb;exact ⟨Nat.lt_of_lt_of_le this.1 k.size,this.2⟩
 ·rcases hD b hb with hb | hb
  ·exact hd.1 j hj b hb hjb
  ·have:=(h.lt j (.tail _ hj) b hjb).1;omega
theorem Fr.alloc (w:World)(o:Obj):Fr0 w (w.alloc o):=
 ⟨rfl,rfl,rfl,by simp,fun b hb _=>Below.heap_alloc _ _ _ hb,Nat.le_refl _⟩
theorem Fr.setCell (w:World)(a:Addr)(u:Value):Fr (fun b=>b=a.block) w (w.setCell a u):=
 ⟨rfl,rfl,rfl,by simp [World.setCell],fun b _ hn=>Below.heap_setCell _ _ _ _ hn,Nat.le_refl _⟩
theorem Jde (w:World)(o:Obj):(own w.heap.size o).φ (w.alloc o):=by
 show (w.heap.push o)[w.heap.size]?=some o;simp
theorem perm1:(i::j::ow).Perm (j::i::ow):=List.Perm.swap _ _ _
theorem perm2:(i::j::k::ow).Perm (j::k::i::ow):=(List.perm_middle (l₁:=[j,k])).symm
theorem perm3 {a b c d:Item}:(d::a::b::c::ow).Perm (a::b::c::d::ow):=(List.perm_middle (l₁:=[a,b,c])).symm
theorem perm4 {a b c d f:Item}:(f::a::b::c::d::ow).Perm (a::b::c::d::f::ow):=(List.perm_middle (l₁:=[a,b,c,d])).symm
theorem perm5 {a b c d f g:Item}:(g::a::b::c::d::f::ow).Perm (a::b::c::d::f::g::ow):=(List.perm_middle (l₁:=[a,b,c,d,f])).symm
theorem perm6 {a b c d f g h:Item}:(h::a::b::c::d::f::g::ow).Perm (a::b::c::d::f::g::h::ow):=(List.perm_middle (l₁:=[a,b,c,d,f,g])).symm
variable {P:Program} {ops:Array Oper} {Q:Post} {n:Nat} {ds:DS} {e:Env} {rest:List Oper} {c:Code}
theorem WL.focus {ow':List Item}(hp:ow'.Perm ow){l:List Oper}(h:WL P ops Q n ds e (Sat w0 M I ws ow') l):WL P ops Q n ds e (Sat w0 M I ws ow) l:=
 h.weak (fun _ hw=>hw.perm hp)
theorem WC.focus {ow':List Item}(hp:ow'.Perm ow)(h:WC P Q n ds e (Sat w0 M I ws ow') c):WC P Q n ds e (Sat w0 M I ws ow) c:=
 h.weak (fun _ hw=>hw.perm hp)
theorem Jbp (h:Sat w0 M I ws ow w){b:Nat}{cs:Array Value}{T:TypeId}{f:Nat × Nat}(hm:own b (.cells cs T f)∈ow){o:Nat}{v:Value}(hv:cs[o]?=some v):w.cell? ⟨b,o,none⟩=some v:=by
 have:w.heap[b]?=some (.cells cs T f):=h.it _ hm;simp [World.cell?,this,hv]
def aggD:TypeDesc→Bool
 | .struct _ | .array _ _=>true
 | _=>false
variable {dst:Option Tmp} {t lt:TypeId} {p:String} {af:Array Edge} {g:Option (Nat × Bool)} {x y:Operand} {v u:Value} {d:TypeDesc} {a:Addr} {S:World→Prop}
theorem Jcy (hu:P.underlying lt=some d)(w:World):(isAgg lt).run P w=.ok (aggD d) w:=by
 simp only [isAgg,Sem.run_bind,run_underlying hu,Result.andThen];cases d <;> rfl
def _root_.Go.Program.sz (P:Program)(t:TypeId):Option Nat:=(P.info? t).map (·.size)
theorem run_sizeOf {m:Nat}(hz:P.sz t=some m)(w:World):(sizeOf t).run P w=.ok m w:=by
 unfold Program.sz at hz;obtain ⟨i,hi,rfl⟩:=Option.map_eq_some_iff.1 hz;simp [sizeOf,typeInfo,hi]
theorem OV.ap (hx:ev e x=some (.pointer (some a)))(hu:P.underlying lt=some d)(hd:aggD d=false)(hc:∀ w,S w→w.cell? a=some v):
  OV P n ds e S ⟨dst,.load lt x,t,p,af,g⟩ v:=fun _ w ha hw=>by
 simp [execOp,ha.eval hx,Instr.loadAt,Instr.sureAddr,loadVar,Jcy hu,hd,load,Sem.run,hc w hw]
theorem OV.am {cs:List Value}(hx:ev e x=some (.pointer (some a)))(hu:P.underlying lt=some d)(hd:aggD d=true)(hz:P.sz lt=some cs.length) 
  (hc:∀ w,S w→∀ j v,cs[j]?=some v→w.cell? (a.add j)=some v):OV P n ds e S ⟨dst,.load lt x,t,p,af,g⟩ (.agg cs.toArray):=fun _ w ha hw=>by
 simp [execOp,ha.eval hx,Instr.loadAt,Instr.sureAddr,loadVar,Jcy hu,hd,run_sizeOf hz,run_loadCells_list w a cs (hc w hw)]
section
variable {w0 ws w:World} {M I:Nat→Prop} {ow:List Item} {i j:Item}
variable {P:Program} {ops:Array Oper} {Q:Post} {n:Nat} {ds:DS} {e:Env} {rest:List Oper} {c:Code}
variable {dst:Option Tmp} {t lt:TypeId} {p:String} {af:Array Edge} {x y z:Operand} {v u:Value} {d:TypeDesc} {S S':World→Prop} {k:Nat}
theorem setRow_drawn (w:World)(b:Nat)(cs:Array Value):(w.setRow b cs).drawn=w.drawn:=by
 first | rfl | (unfold World.setRow;split <;> rfl) | simp [World.setRow]
theorem Fr.setRow (w:World)(b:Nat)(cs:Array Value):Fr (fun i=>i=b) w (w.setRow b cs):=
 ⟨rfl,rfl,rfl,by simp,fun i _ hn=>setRow_other _ _ _ _ hn,Nat.le_of_eq (setRow_drawn w b cs).symm⟩
theorem WL.run {op:Op}{r:World→World}{vv:World→Value}(hr:∀ a w,Fits n ds e a→S w→(execOp a.eval ⟨some k,op,t,p,af,none⟩).run P w=.ok (.value (vv w)) (r w))(hk:Nat.blt k n=true) 
  (h:∀ w,S w→WL P ops Q n ds ((k,vv w)::e) (fun w'=>w'=r w) rest):WL P ops Q n ds e S (⟨some k,op,t,p,af,none⟩::rest):=by
 intro a w ha hw;unfold wpListIn;rw [if_pos (Jc0 rfl)];refine ⟨fun f _=>Jfa _ f,?_⟩;rw [Je0 (hr a w ha hw) (fun _=>by simp)];exact h w hw _ _ (ha.put hk _) rfl
theorem WL.jd {op:Op}(hr:∀ a w,Fits n ds e a→S w→∃ w',(execOp a.eval ⟨none,op,t,p,af,none⟩).run P w=.ok .skip w'∧S' w') 
  (h:WL P ops Q n ds e S' rest):WL P ops Q n ds e S (⟨none,op,t,p,af,none⟩::rest):=by
 intro a w ha hw;unfold wpListIn;rw [if_pos (Jc0 rfl)];refine ⟨fun f _=>Jfa _ f,?_⟩;obtain ⟨w',h1,h2⟩:=hr a w ha hw;rw [Je0 h1 (fun _=>by simp)];exact h _ _ ha h2
theorem WL.fi {ι:Type}{vv:ι→Value}{SS:ι→World→Prop}{op:Op}(hr:∀ a w,Fits n ds e a→S w→∃ x w',(execOp a.eval ⟨some k,op,t,p,af,none⟩).run P w=.ok (.value (vv x)) w'∧SS x w')(hk:Nat.blt k n=true) 
  (h:∀ x,WL P ops Q n ds ((k,vv x)::e) (SS x) rest):WL P ops Q n ds e S (⟨some k,op,t,p,af,none⟩::rest):=by
 intro a w ha hw;unfold wpListIn;rw [if_pos (Jc0 rfl)];refine ⟨fun f _=>Jfa _ f,?_⟩;obtain ⟨x,w',h1,h2⟩:=hr a w ha hw;rw [Je0 h1 (fun _=>by simp)];exact h x _ _ (ha.put hk _) h2
def _root_.Go.Program.zr (P:Program)(t:TypeId):Option (Array Value):=(P.info? t).bind fun i=>i.zero.map (·.cells)
theorem Jfl {zc:Array Value}(hz:P.zr lt=some zc)(w:World):∃ z,(zeroValue lt).run P w=.ok z w∧z.cells=zc:=by
 unfold Program.zr at hz;obtain ⟨i,hi,h⟩:=Option.bind_eq_some_iff.1 hz;obtain ⟨z,hz',rfl⟩:=Option.map_eq_some_iff.1 h;exact ⟨z,by simp [zeroValue,typeInfo,hi,hz'],rfl⟩
theorem WL.alloc {cs:List Value}(hz:P.zr lt=some cs.toArray)(hk:Nat.blt k n=true) 
  (h:∀ b,WL P ops Q n ds ((k,yX b)::e) (Sat w0 M I ws (own b (.cells cs.toArray lt (0,0))::ow)) rest) :
  WL P ops Q n ds e (Sat w0 M I ws ow) (⟨some k,.alloc lt,t,p,af,none⟩::rest):=by
 refine WL.fi (ι:=Nat) (vv:=fun b=>.pointer (some ⟨b,0,none⟩)) (SS:=fun b=>Sat w0 M I ws (own b (.cells cs.toArray lt (0,0))::ow)) ?_ hk h;intro a w _ hw;obtain ⟨zv,hzv,hc⟩:=Jfl hz w;refine ⟨w.heap.size,w.alloc (.cells cs.toArray lt),?_,?_⟩
 ·simp [execOp,Instr.alloc,hzv,newVar,newRow,newObj,Sem.run,hc]
 ·exact hw.fresh (Fr.alloc _ _) (Jde _ _) (fun b hb=>by simp only [own] at hb;subst hb;simp)
theorem WL.box {cs:List Value}(hx:ev e x=some v)(hc:v.cells=cs.toArray)(hk:Nat.blt k n=true) 
  (h:∀ b,WL P ops Q n ds ((k,yX b)::e) (Sat w0 M I ws (own b (.cells cs.toArray lt (0,0))::ow)) rest) :
  WL P ops Q n ds e (Sat w0 M I ws ow) (⟨some k,.box lt x,t,p,af,none⟩::rest):=by
 refine WL.fi (ι:=Nat) (vv:=fun b=>.pointer (some ⟨b,0,none⟩)) (SS:=fun b=>Sat w0 M I ws (own b (.cells cs.toArray lt (0,0))::ow)) ?_ hk h;intro a w ha hw;refine ⟨w.heap.size,w.alloc (.cells cs.toArray lt),?_,?_⟩
 ·simp [execOp,Instr.box,newVar,newRow,newObj,Sem.run,ha.eval hx,hc]
 ·exact hw.fresh (Fr.alloc _ _) (Jde _ _) (fun b hb=>by simp only [own] at hb;subst hb;simp)
theorem Sat.store {b:Nat}{cs cs':List Value}{T:TypeId}(h:Sat w0 M I ws (own b (.cells cs.toArray T (0,0))::ow) w){w':World}(hw:w'=w.setRow b cs'.toArray):
  Sat w0 M I ws (own b (.cells cs'.toArray T (0,0))::ow) w':=by
 subst hw;have hb:w.heap[b]?=some (.cells cs.toArray T (0,0)):=h.it _ yF;exact h.turn (Fr.setRow _ _ _) (setRow_heap w b _ cs'.toArray T (0,0) hb) (fun b' hb'=>Or.inl hb')
theorem Jgv (h1:v.oneCell'=true):v.cells=#[v]:=by cases v <;> first | rfl | (simp [Value.oneCell'] at h1)
theorem WL.cd {b o:Nat}{cs:List Value}{T:TypeId}(hx:ev e x=some (.pointer (some ⟨b,o,none⟩)))(hy:ev e y=some v)(h1:v.oneCell'=true)(hz:P.sz lt=some 1)(ho:o<cs.length) 
  (h:WL P ops Q n ds e (Sat w0 M I ws (own b (.cells (cs.set o v).toArray T (0,0))::ow)) rest) :
  WL P ops Q n ds e (Sat w0 M I ws (own b (.cells cs.toArray T (0,0))::ow)) (⟨none,.store lt x y,t,p,af,none⟩::rest):=by
 refine WL.jd (fun a w ha hw=>⟨w.setRow b (cs.set o v).toArray,?_,hw.store rfl⟩) h;have hb:w.heap[b]?=some (.cells cs.toArray T (0,0)):=hw.it _ yF;have hs:=run_storeCells_at P b o T [v] 0 cs.toArray w hb (by simp;omega) (by simpa using h1)
 have hl:cs.take o++[v]++cs.drop (o+1)=cs.set o v:=by
  rw [List.set_eq_take_append_cons_drop,if_pos ho];simp
 simp only [Nat.add_zero,xQ,hl,List.toList_toArray] at hs;simp only [execOp,Instr.storeAt,Instr.sureAddr,storeVar,ha.eval hx,ha.eval hy,Jgv h1];simp [run_sizeOf hz,hs]
theorem WL.aj {b:Nat}{cs vs:List Value}{T:TypeId}(hx:ev e x=some (yX b))(hy:ev e y=some (.agg vs.toArray))(h1:vs.all (·.oneCell')=true)(hz:P.sz lt=some vs.length)(hl:cs.length=vs.length) 
  (h:WL P ops Q n ds e (Sat w0 M I ws (own b (.cells vs.toArray T (0,0))::ow)) rest) :
  WL P ops Q n ds e (Sat w0 M I ws (own b (.cells cs.toArray T (0,0))::ow)) (⟨none,.store lt x y,t,p,af,none⟩::rest):=by
 refine WL.jd (fun a w ha hw=>⟨w.setRow b vs.toArray,?_,hw.store rfl⟩) h;have hb:w.heap[b]?=some (.cells cs.toArray T (0,0)):=hw.it _ yF;have hs:=run_storeCells_at P b 0 T vs 0 cs.toArray w hb (by simp [hl]) (by simpa using h1);have hd:cs.drop vs.length=[]:=xV (by omega);simp only [Nat.add_zero,xM,List.take_zero,xW,List.toList_toArray,hd,xX] at hs;simp only [execOp,Instr.storeAt,Instr.sureAddr,storeVar,ha.eval hx,ha.eval hy,Value.cells];simp [run_sizeOf hz,hs]
theorem OV.ae {a:Addr}{m cap s:Nat}{k':IntKind}{ix:Int}{el:TypeId}{g:Option (Nat × Bool)}(hx:ev e x=some (.slice (some a) m cap))(hy:ev e y=some (.int k' ix))(hu:P.underlying lt=some (.slice el))(hz:P.sz el=some s) 
  (hb:0≤ix∧ix<m):OV P n ds e S ⟨dst,.indexAddr lt x y,t,p,af,g⟩ (.pointer (some (a.add (ix.toNat*s)))):=fun _ w ha _=>by
 simp [execOp,ha.eval hx,ha.eval hy,Instr.indexAt,run_underlying hu,asIntOf,hb,run_sizeOf hz]
theorem Jav (b o m:Nat):(⟨b,o,none⟩:Addr).add m=⟨b,o+m,none⟩:=Addr.add_lit b o m
theorem OV.da {b m cap i:Nat}{k':IntKind}{el:TypeId}{g:Option (Nat × Bool)}(hx:ev e x=some (.slice (some ⟨b,0,none⟩) m cap))(hy:ev e y=some (.int k' (i:Int)))(hu:P.underlying lt=some (.slice el))(hz:P.sz el=some 1) 
  (hb:i<m):OV P n ds e S ⟨dst,.indexAddr lt x y,t,p,af,g⟩ (.pointer (some ⟨b,i,none⟩)):=(OV.ae hx hy hu hz (by omega)).cast (by rw [Nat.mul_one,Jav,xM,xN])
theorem OV.indexSliceA {a:Addr}{m cap i:Nat}{k':IntKind}{el:TypeId}{g:Option (Nat × Bool)}(hx:ev e x=some (.slice (some a) m cap))(hy:ev e y=some (.int k' (i:Int)))(hu:P.underlying lt=some (.slice el))(hz:P.sz el=some 1) 
  (hb:i<m):OV P n ds e S ⟨dst,.indexAddr lt x y,t,p,af,g⟩ (.pointer (some (a.add i))):=(OV.ae hx hy hu hz (by omega)).cast (by rw [Nat.mul_one,xN])
theorem OV.ag {b o f off s:Nat}{fs:Array Field}{g:Option (Nat × Bool)}(hx:ev e x=some (.pointer (some ⟨b,o,none⟩)))(hu:P.underlying lt=some (.struct fs))(hf:(fs[f]?).map (fun q=>(q.offset,P.sz q.type))=some (off,some (s+1))):
  OV P n ds e S ⟨dst,.fieldAddr lt x f,t,p,af,g⟩ (.pointer (some ⟨b,o+off,none⟩)):=fun _ w ha _=>by
 obtain ⟨q,hq,h⟩:=Option.map_eq_some_iff.1 hf;simp only [Prod.mk.injEq] at h;simp [execOp,ha.eval hx,Instr.fieldAt,run_underlying hu,Instr.sureAddr,hq,fieldPlace,run_sizeOf h.2,h.1,Jav]
theorem OV.fieldAddr0 {b f off s:Nat}{fs:Array Field}{g:Option (Nat × Bool)}(hx:ev e x=some (yX b))(hu:P.underlying lt=some (.struct fs))(hf:(fs[f]?).map (fun q=>(q.offset,P.sz q.type))=some (off,some (s+1))):
  OV P n ds e S ⟨dst,.fieldAddr lt x f,t,p,af,g⟩ (.pointer (some ⟨b,off,none⟩)):=(OV.ag hx hu hf).cast (by rw [xM])
theorem OV.d9 {s:ByteArray}{k':IntKind}{ix:Int}{r:UInt8}{g:Option (Nat × Bool)}(hx:ev e x=some (.string s))(hy:ev e y=some (.int k' ix))(hu:P.underlying lt=some .string) 
  (hb:0≤ix∧s[ix.toNat]?=some r):OV P n ds e S ⟨dst,.index lt x y,t,p,af,g⟩ (.int .u8 r.toNat):=fun _ w ha _=>by
 simp [execOp,ha.eval hx,ha.eval hy,Instr.index,run_underlying hu,asIntOf,hb]
theorem OV.extract {vs:List Value}{m:Nat}{g:Option (Nat × Bool)}(hx:ev e x=some (.tuple vs.toArray))(hv:vs[m]?=some v):OV P n ds e S ⟨dst,.extract x m,t,p,af,g⟩ v:=fun _ w ha _=>by
 simp [execOp,ha.eval hx,Instr.extract,hv]
section len
variable {g:Option (Nat × Bool)} {ct:Array TypeId}
theorem OV.ad {a:Option Addr}{m cap:Nat}{el:TypeId}(hx:ev e x=some (.slice a m cap))(hu:P.underlying lt=some (.slice el)):OV P n ds e S ⟨dst,.call ⟨.builtin .len,#[x],#[lt]⟩,t,p,af,g⟩ (.int .i64 m):=fun _ w ha _=>by
 simp [execOp,resolve,invoke,builtin,ha.eval hx,Builtin.len_,run_underlying hu,goInt]
theorem OV.bg {s:ByteArray}(hx:ev e x=some (.string s))(hu:P.underlying lt=some .string):OV P n ds e S ⟨dst,.call ⟨.builtin .len,#[x],#[lt]⟩,t,p,af,g⟩ (.int .i64 s.size):=fun _ w ha _=>by
 simp [execOp,resolve,invoke,builtin,ha.eval hx,Builtin.len_,run_underlying hu,goInt]
end len
theorem Jeh {a:Act}(h:Fits n ds e a):∀ {xs:List Operand} {vs:List Value},evs e xs=some vs→xs.map a.eval=vs
 | [],vs,hh=>by simp [evs] at hh;simp [hh]
 | x::xs,vs,hh=>by
  simp only [evs,Option.bind_eq_some_iff,Option.some.injEq] at hh;obtain ⟨v,hv,us,hus,rfl⟩:=hh;simp [h.eval hv,Jeh h hus]
def bodied (P:Program)(f:FuncId):Bool:=match P.funcs[f]? with
 | some fn=>fn.body.isSome && !(fn.name == "runtime.NumGoroutine")
 | none=>false
theorem run_call {f:FuncId}{xs:List Operand}{vs:List Value}{ats:Array TypeId}{a:Act}{g:Option (Nat × Bool)}(hf:bodied P f=true)(ha:Fits n ds e a)(hv:evs e xs=some vs)(w:World):
  (execOp a.eval ⟨dst,.call ⟨.value (.func f),xs.toArray,ats⟩,t,p,af,g⟩).run P w=.ok (.enter f vs.toArray) w:=by
 unfold bodied at hf
 split at hf
 ·rename_i fn hfn;simp only [xY,Bool.not_eq_true',beq_eq_false_iff_ne,ne_eq] at hf;have hb:fn.body.isNone=false:=by cases h:fn.body <;> simp_all
  have hargs:=Jeh ha hv;simp [execOp,resolve,Deferred.ofValue,invoke,Act.eval,callFunc,hfn,hf.2,← hargs];intro h;simp [h] at hb
 ·cases hf
theorem WL.i5 {ι:Type}{vv:ι→Value}{SS:ι→World→Prop}{f:FuncId}{xs:List Operand}{vs:List Value}{ats:Array TypeId}(hf:bodied P f=true)(hv:evs e xs=some vs)(hk:Nat.blt k n=true) 
  (hc:∀ w,S w→Calls P f vs.toArray w fun en w'=>∃ x,en=.returned (vv x)∧SS x w')
  (h:∀ x,WL P ops Q n ds ((k,vv x)::e) (SS x) rest):WL P ops Q n ds e S (⟨some k,.call ⟨.value (.func f),xs.toArray,ats⟩,t,p,af,none⟩::rest):=by
 intro a w ha hw;unfold wpListIn;rw [if_pos (Jc0 rfl)];refine ⟨fun f _=>Jfa _ f,?_⟩;rw [Je0 (run_call hf ha hv w) (fun _=>by simp)];refine ⟨fun h=>(by rw [fen_depth] at h;cases h),fen_in.2 (Calls.mono (hc w hw) ?_)⟩;rintro en w' ⟨x,rfl,hx⟩;exact h x _ _ (ha.put hk _) hx
theorem WL.aw {f:FuncId}{xs:List Operand}{vs:List Value}{ats:Array TypeId}(hf:bodied P f=true)(hv:evs e xs=some vs)(hk:Nat.blt k n=true) 
  (hc:∀ w,Sat w0 M I ws ow w→Calls P f vs.toArray w fun en w'=>en=.returned v∧Fr0 w w')
  (h:WL P ops Q n ds ((k,v)::e) (Sat w0 M I ws ow) rest):WL P ops Q n ds e (Sat w0 M I ws ow) (⟨some k,.call ⟨.value (.func f),xs.toArray,ats⟩,t,p,af,none⟩::rest):=
 WL.i5 (ι:=Unit) (vv:=fun _=>v) (SS:=fun _=>Sat w0 M I ws ow) hf hv hk
  (fun w hw=>(hc w hw).mono (fun _ _ ⟨h1,h2⟩=>⟨(),h1,hw.keep h2⟩)) (fun _=>h)
theorem enter {f:FuncId}{fn:Func}{c:Code}{args:List Value}{R:Ending→World→Prop}(hf:P.funcs[f]?=some fn)(hb:fn.body=some c){N:Nat}(hn:fn.ntmps=N)(hN:Nat.ble args.length N=true) 
  (h:WC P (bodyPostM Fence.wide 0 P fn R) N {} (args.zipIdx.map fun (v,k)=>(k,v)) (fun w'=>w'=w) c):Calls P f args.toArray w R:=by
 have hN:=Nat.le_of_ble_eq_true hN;refine callsIn_wide.1 (callsIn_of_wp_marks (n:=0) hf hb trivial (h _ _ ?_ rfl));refine ⟨by simp [hn];omega,rfl,fun t v ht=>?_⟩
 have key:∀ (l:List Value) (k:Nat),look ((l.zipIdx k).map fun (v,k)=>(k,v)) t=some v→∃ j,t=k+j∧l[j]?=some v:=by
  intro l
  induction l with
  | nil=>intro k h;simp [look] at h
  | cons u l ih=>
   intro k h;simp only [List.zipIdx_cons,yA] at h
   by_cases hk:k=t
   ·subst hk;rw [Jdv] at h;exact ⟨0,rfl,by simpa using h⟩
   ·rw [Jec _ _ hk] at h;obtain ⟨j,rfl,hj⟩:=ih (k+1) h;exact ⟨j+1,by omega,by simpa using hj⟩
 obtain ⟨j,rfl,hj⟩:=key args 0 ht;have hj':j<args.length:=(List.getElem?_eq_some_iff.1 hj).1;simp only [xM];rw [Array.getElem?_append_left (by simpa using hj')]
 simpa using hj
def Jiz:Nat→List Value→Env
 | _,[]=>[]
 | k,v::vs=>(k,v)::Jiz (k+1) vs
theorem Jg4:∀ (l:List Value) (k:Nat),((l.zipIdx k).map fun (v,k)=>(k,v))=Jiz k l
 | [],_=>rfl
 | v::l,k=>by simp [Jiz,Jg4 l (k+1)]
theorem Jbi {f:FuncId}{fn:Func}{c:Code}{args:List Value}{R:Ending→World→Prop}(M:Nat→Prop)(hf:P.funcs[f]?=some fn)(hb:fn.body=some c){N:Nat}(hn:fn.ntmps=N)(hN:Nat.ble args.length N=true){e:Env}(he:Jiz 0 args=e) 
  (h:WC P (bodyPostM Fence.wide 0 P fn R) N {} e (Sat w M (fun b=>b<w.heap.size) w []) c):Calls P f args.toArray w R:=by
 refine enter hf hb hn hN ?_;rw [Jg4,he];intro a w' ha hw;subst hw;exact h a _ ha (Sat.start _ M)
theorem leaves0 {fn:Func}{R:Ending→World→Prop}{a:Act}{w:World}{v:Value}(hd:a.defers=[])(hr:(results fn a.tmps).run P w=.ok v w)(hR:R (.returned v) w):LeavesInM Fence.wide 0 P fn a.tmps R a.defers .returning w:=by
 rw [hd];exact ⟨v,hr,hR⟩
def isEnd:Exit→Bool
 | .normal | .ret=>true
 | _=>false
theorem WX.i4 {fn:Func}{R:Ending→World→Prop}{ex:Exit}(hx:isEnd ex=true)(h:WX (bodyPostM Fence.wide 0 P fn R) n ds e S .ret):WX (bodyPostM Fence.wide 0 P fn R) n ds e S ex:=by
 cases ex <;> first | exact h | (simp [isEnd] at hx)
theorem WX.ret1 {fn:Func}{ex:Exit}(hx:isEnd ex=true){R:Ending→World→Prop}{tt:Tmp}(hr:fn.results=#[.tmp tt])(hv:look e tt=some v)(h:∀ w,S w→R (.returned v) w):WX (bodyPostM Fence.wide 0 P fn R) n {} e S ex:=by
 refine WX.i4 hx ?_;intro a w ha hw;refine leaves0 ha.defers ?_ (h w hw);rw [results_tmp hr];simp [Array.getD_eq_getD_getElem?,ha.ok _ _ hv]
theorem WX.ret0 {fn:Func}{ex:Exit}(hx:isEnd ex=true){R:Ending→World→Prop}(hr:fn.results=#[])(h:∀ w,S w→R (.returned (.tuple #[])) w):WX (bodyPostM Fence.wide 0 P fn R) n {} e S ex:=by
 refine WX.i4 hx ?_;intro a w ha hw;exact leaves0 ha.defers (results_none hr _ _ _) (h w hw)
theorem WX.ret2 {fn:Func}{ex:Exit}(hx:isEnd ex=true){R:Ending→World→Prop}{t1 t2:Tmp}{v1 v2:Value}(hr:fn.results=#[.tmp t1,.tmp t2])(h1:look e t1=some v1)(h2:look e t2=some v2)(h:∀ w,S w→R (.returned (.tuple #[v1,v2])) w):WX (bodyPostM Fence.wide 0 P fn R) n {} e S ex:=by
 refine WX.i4 hx ?_;intro a w ha hw;refine leaves0 ha.defers ?_ (h w hw);rw [results_tmp2 hr];simp [Array.getD_eq_getD_getElem?,ha.ok _ _ h1,ha.ok _ _ h2]
theorem WX.retC {fn:Func}{ex:Exit}(hx:isEnd ex=true){R:Ending→World→Prop}{tt:Tmp}{T:TypeId}{b:Nat}{cs:List Value}(hr:fn.results=#[.cell tt T])(hv:look e tt=some (yX b))(hu:P.underlying T=some d)(hd:aggD d=true)(hz:P.sz T=some cs.length) 
  (hc:∀ w,S w→∀ j v,cs[j]?=some v→w.cell? ⟨b,j,none⟩=some v) (h:∀ w,S w→R (.returned (.agg cs.toArray)) w):WX (bodyPostM Fence.wide 0 P fn R) n {} e S ex:=by
 refine WX.i4 hx ?_;intro a w ha hw;refine leaves0 ha.defers ?_ (h w hw);have hcc:∀ j v,cs[j]?=some v→w.cell? ((⟨b,0,none⟩:Addr).add j)=some v:=fun j v hj=>by rw [Jav,xM];exact hc w hw j v hj
 simp [results,hr,Array.getD_eq_getD_getElem?,ha.ok _ _ hv,asAddr,loadVar,Jcy hu,hd,run_sizeOf hz,run_loadCells_list w _ cs hcc]
theorem WX.gn {fn:Func}{ex:Exit}(hx:isEnd ex=true){R:Ending→World→Prop}{tt t2:Tmp}{T:TypeId}{b:Nat}{cs:List Value}(hr:fn.results=#[.cell tt T,.tmp t2])(hv:look e tt=some (yX b))(h2:look e t2=some u)(hu:P.underlying T=some d)(hd:aggD d=true)(hz:P.sz T=some cs.length) 
  (hc:∀ w,S w→∀ j v,cs[j]?=some v→w.cell? ⟨b,j,none⟩=some v) (h:∀ w,S w→R (.returned (.tuple #[.agg cs.toArray,u])) w):WX (bodyPostM Fence.wide 0 P fn R) n {} e S ex:=by
 refine WX.i4 hx ?_;intro a w ha hw;refine leaves0 ha.defers ?_ (h w hw);have hcc:∀ j v,cs[j]?=some v→w.cell? ((⟨b,0,none⟩:Addr).add j)=some v:=fun j v hj=>by rw [Jav,xM];exact hc w hw j v hj
 simp [results,hr,Array.getD_eq_getD_getElem?,ha.ok _ _ hv,ha.ok _ _ h2,asAddr,loadVar,Jcy hu,hd,run_sizeOf hz,run_loadCells_list w _ cs hcc]
theorem Jbt (h:Sat w0 M I ws ow w){b:Nat}{cs:List Value}{T:TypeId}{f:Nat × Nat}(hm:own b (.cells cs.toArray T f)∈ow):∀ j v,cs[j]?=some v→w.cell? ⟨b,j,none⟩=some v:=
 fun j v hj=>Jbp h hm (by simpa using hj)
end
end Go.Hw
namespace Go.Hw
open Go Go.RowKit
section
variable {w0 ws:World} {M I:Nat→Prop} {ow:List Item} {P:Program} {ops:Array Oper} {Q:Post} {n:Nat} {ds:DS} {e:Env} {rest:List Oper} {dst:Option Tmp} {t lt:TypeId} {p:String} {af:Array Edge} {x y:Operand} {v:Value} {d:TypeDesc} {k:Nat} {g:Option (Nat × Bool)}
theorem OV.lN {b:Nat}{cs:List Value}{T:TypeId}(hx:ev e x=some (yX b))(hu:P.underlying lt=some d)(hd:aggD d=true)(hz:P.sz lt=some cs.length)(hm:own b (.cells cs.toArray T (0,0))∈ow):OV P n ds e (Sat w0 M I ws ow) ⟨dst,.load lt x,t,p,af,g⟩ (.agg cs.toArray):=
 OV.am hx hu hd hz (fun _ hw j v hj=>by rw [Jav,xM];exact Jbt hw hm j v hj)
theorem OV.l1 {b o:Nat}{cs:List Value}{T:TypeId}(hx:ev e x=some (.pointer (some ⟨b,o,none⟩)))(hu:P.underlying lt=some d)(hd:aggD d=false)(hm:own b (.cells cs.toArray T (0,0))∈ow)(hv:cs[o]?=some v):OV P n ds e (Sat w0 M I ws ow) ⟨dst,.load lt x,t,p,af,g⟩ v:=
 OV.ap hx hu hd (fun _ hw=>Jbt hw hm o v hv)
theorem OV.f0 {S:World→Prop}{b f s:Nat}{fs:Array Field}(off:Nat)(hx:ev e x=some (yX b))(hu:P.underlying lt=some (.struct fs))(hf:(fs[f]?).map (fun q=>(q.offset,P.sz q.type))=some (off,some (s+1))):OV P n ds e S ⟨dst,.fieldAddr lt x f,t,p,af,g⟩ (.pointer (some ⟨b,off,none⟩)):=OV.fieldAddr0 hx hu hf
theorem WL.c0 {f:FuncId}{xs:List Operand}{vs:List Value}{ats:Array TypeId} 
  (hc:∀ w,Sat w0 M I ws ow w→Calls P f vs.toArray w fun en w'=>en=.returned v∧Fr0 w w')
  (h:WL P ops Q n ds ((k,v)::e) (Sat w0 M I ws ow) rest) (hf:bodied P f=true:=by kernel_rfl) (hv:evs e xs=some vs:=by exact rfl) (hk:Nat.blt k n=true:=by exact rfl):WL P ops Q n ds e (Sat w0 M I ws ow) (⟨some k,.call ⟨.value (.func f),xs.toArray,ats⟩,t,p,af,none⟩::rest):=WL.aw hf hv hk hc h
end
end Go.Hw
