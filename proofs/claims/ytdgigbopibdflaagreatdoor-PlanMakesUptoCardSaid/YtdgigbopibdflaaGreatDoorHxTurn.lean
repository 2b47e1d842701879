/- Arguments as they lie; callees that turn several items. -/
import Derived.Test.YtdgigbopibdflaaGreatDoorHxShort
import Derived.MakeChecks
import Derived.Lay
import Derived.SevenTiedAt
namespace Go.Hw
set_option linter.unusedVariables false
set_option linter.unusedSimpArgs false
open Go Go.RowKit Go.ChangeShapes Go.WideShapes Go.ChangeAt
variable {H:Type} {enc:TypeId × Value→H} {P:Program} {w:World} {base:Nat} {spare:Nat→Bool} {held:Bool} {r:Reach} {b0:Nat}
theorem exists_list {α:Type}(d:α)(Q:Nat→α→Prop):∀ n:Nat,(∀ i,i<n→∃ x,Q i x)→∃ l:List α,l.length=n∧∀ i,i<n→Q i (l.getD i d)
 | 0,_=>⟨[],rfl,fun i hi=>by omega⟩
 | n+1,h=>by
  obtain ⟨l,hl,hq⟩:=exists_list d Q n (fun i hi=>h i (by omega));obtain ⟨x,hx⟩:=h n (by omega);refine ⟨l++[x],by simp [hl],fun i hi=>?_⟩
  by_cases hin:i<n
  ·have e:(l++[x]).getD i d=l.getD i d:=by simp only [yD,List.getElem?_append_left (show i<l.length by omega)]
   rw [e];exact hq i hin
  ·have hin:i=n:=by omega
   subst hin;have e:(l++[x]).getD i d=x:=by simp only [yD,List.getElem?_append_right (show l.length≤i by omega),hl,Nat.sub_self];rfl
   rw [e];exact hx
end Go.Hw
namespace Go.Hw
set_option linter.unusedVariables false
set_option linter.unusedSimpArgs false
open Go Go.RowKit
variable {w0 ws w w':World} {M I:Nat→Prop} {A A' ow:List Item} {i j:Item}
def DD (A:List Item)(b:Nat):Prop:=∃ i∈A,i.D b
abbrev SatA (w:World)(A ow:List Item):World→Prop:=Sat w (DD A) (fun b=>b<w.heap.size∧¬ DD A b) w ow
structure Holds (A:List Item) (w:World):Prop where
 φ:∀ i∈A,i.φ w
 lt:∀ i∈A,∀ b,i.D b→b<w.heap.size
 disj:A.Pairwise Disj
structure Turns (A A':List Item) (w w':World):Prop where
 fr:Fr (DD A) w w'
 φ:∀ i∈A',i.φ w'
 D:∀ i∈A',∀ b,i.D b→b<w'.heap.size∧(DD A b∨w.heap.size≤b)
 disj:A'.Pairwise Disj
theorem Sat.holds (h:Sat w0 M I ws (A++ow) w):Holds A w:=
 ⟨fun i hi=>h.it i (xA _ hi),fun i hi b hb=>(h.lt i (xA _ hi) b hb).1,(List.pairwise_append.1 h.disj).1⟩
theorem Sat.turns (h:Sat w0 M I ws (A++ow) w)(t:Turns A A' w w'):Sat w0 M I ws (A'++ow) w':=by
 have hp:=List.pairwise_append.1 h.disj;have hsep:∀ b,DD A b→∀ j∈ow,¬ j.D b:=fun b ⟨i,hi,hb⟩ j hj=>hp.2.2 i hi j hj b hb
 have hltA:∀ b,DD A b→b<w.heap.size∧¬ I b∧(M b∨w0.heap.size≤b):=fun b ⟨i,hi,hb⟩=>h.lt i (xA _ hi) b hb
 refine ⟨h.fr.trans_new t.fr (fun b hb=>(hltA b hb).2.2),fun b hb=>?_,fun j hj=>?_,fun j hj b hb=>?_,List.pairwise_append.2 ⟨t.disj,hp.2.1,fun i hi j hj b hb hjb=>?_⟩⟩
 ·exact ⟨Nat.lt_of_lt_of_le (h.snap b hb).1 t.fr.size,(t.fr.keep b (h.snap b hb).1 (fun hd=>(hltA b hd).2.1 hb)).trans (h.snap b hb).2⟩
 ·rcases List.mem_append.1 hj with hj | hj
  ·exact t.φ j hj
  ·exact j.loc w w' (fun b hb=>t.fr.keep b (h.lt j (xB _ hj) b hb).1 (fun hd=>hsep b hd j hj hb)) (h.it j (xB _ hj))
 ·rcases List.mem_append.1 hj with hj | hj
  ·obtain ⟨h1,h2⟩:=t.D j hj b hb;rcases h2 with h2 | h2
   ·exact ⟨h1,(hltA b h2).2⟩
   ·exact ⟨h1,fun hI=>by have:=(h.snap b hI).1;omega,.inr (Nat.le_trans h.fr.size h2)⟩
  ·have:=h.lt j (xB _ hj) b hb;exact ⟨Nat.lt_of_lt_of_le this.1 t.fr.size,this.2⟩
 ·rcases (t.D i hi b hb).2 with h2 | h2
  ·exact hsep b h2 j hj hjb
  ·have:=(h.lt j (xB _ hj) b hjb).1;omega
theorem Sat.startA (h:Holds A w):Sat w (DD A) (fun b=>b<w.heap.size∧¬ DD A b) w A w:=
 ⟨Fr.refl _ _,fun b hb=>⟨hb.1,rfl⟩,h.φ,fun i hi b hb=>⟨h.lt i hi b hb,fun hn=>hn.2 ⟨i,hi,hb⟩,.inl ⟨i,hi,hb⟩⟩,h.disj⟩
theorem Sat.turned {I:Nat→Prop}{ws:World}(h:Sat w (DD A) I ws A' w'):Turns A A' w w':=
 ⟨h.fr,h.it,fun i hi b hb=>⟨(h.lt i hi b hb).1,(h.lt i hi b hb).2.2⟩,h.disj⟩
theorem Turns.fr0 (t:Turns [] A' w w'):Fr0 w w':=t.fr.mono (fun b ⟨i,hi,_⟩=>by cases hi)
section rules
variable {P:Program} {ops:Array Oper} {Q:Post} {n:Nat} {ds:DS} {e:Env} {rest:List Oper} {t lt:TypeId} {p:String} {af:Array Edge} {k:Nat}
theorem WL.callT {ι:Type}{vv:ι→Value}{pp:ι→Prop}{AA:ι→List Item}{f:FuncId}{xs:List Operand}{vs:List Value}{ats:Array TypeId}(hf:bodied P f=true)(hv:evs e xs=Option.some vs)(hk:Nat.blt k n=true) 
  (hc:∀ w,Sat w0 M I ws (A++ow) w→Calls P f vs.toArray w fun en w'=>∃ x,en=.returned (vv x)∧pp x∧Turns A (AA x) w w')
  (h:∀ x,pp x→WL P ops Q n ds ((k,vv x)::e) (Sat w0 M I ws (AA x++ow)) rest):WL P ops Q n ds e (Sat w0 M I ws (A++ow)) (⟨Option.some k,.call ⟨.value (.func f),xs.toArray,ats⟩,t,p,af,none⟩::rest):=
 WL.i5 (ι:=ι) (vv:=vv) (SS:=fun x w=>pp x∧Sat w0 M I ws (AA x++ow) w) hf hv hk
  (fun w hw=>(hc w hw).mono (fun _ _ ⟨x,h1,h2,h3⟩=>⟨x,h1,h2,hw.turns h3⟩)) (fun x=>WL.pure (h x))
theorem Jil {w:World}{f:FuncId}{fn:Func}{c:Code}{args:List Value}{R:Ending→World→Prop}(hA:Holds A w)(hf:P.funcs[f]?=Option.some fn)(hb:fn.body=Option.some c){N:Nat}(hn:fn.ntmps=N)(hN:Nat.ble args.length N=true){e:Env}(he:Jiz 0 args=e) 
  (h:WC P (bodyPostM Fence.wide 0 P fn R) N {} e (Sat w (DD A) (fun b=>b<w.heap.size∧¬ DD A b) w A) c):Calls P f args.toArray w R:=by
 refine enter hf hb hn hN ?_;rw [Jg4,he];intro a w' ha hw;subst hw;exact h a _ ha (Sat.startA hA)
end rules
theorem DD_nil (b:Nat):¬ DD [] b:=fun ⟨_,h,_⟩=>by cases h
theorem Ji9 {b:Nat}:DD (i::A) b↔i.D b∨DD A b:=by
 constructor
 ·rintro ⟨j,hj,hb⟩;rcases List.mem_cons.1 hj with rfl | hj
  ·exact .inl hb
  ·exact .inr ⟨j,hj,hb⟩
 ·rintro (h | ⟨j,hj,hb⟩)
  ·exact ⟨i,.head _,h⟩
  ·exact ⟨j,.tail _ hj,hb⟩
theorem Jib {b:Nat}{B:List Item}:DD (A++B) b↔DD A b∨DD B b:=by
 constructor
 ·rintro ⟨j,hj,hb⟩;rcases List.mem_append.1 hj with hj | hj
  ·exact .inl ⟨j,hj,hb⟩
  ·exact .inr ⟨j,hj,hb⟩
 ·rintro (⟨j,hj,hb⟩ | ⟨j,hj,hb⟩)
  ·exact ⟨j,xA _ hj,hb⟩
  ·exact ⟨j,xB _ hj,hb⟩
theorem Sat.newBlocks {w0:World}(h:Sat w0 (fun _=>False) I ws ow w):∀ b,DD ow b→w0.heap.size≤b:=fun b ⟨i,hi,hb⟩=>(h.lt i hi b hb).2.2.resolve_left (fun f=>f)
theorem Jdx {b:Nat}{cs:List Value}{T:TypeId}{f:Nat × Nat}{m size:Nat}(hm:own b (.cells cs.toArray T f)∈ow)(hl:cs.length=m*size):Src (Sat w0 M I ws ow) (Option.some ⟨b,0,none⟩) m size cs:=by
 refine ⟨hl,fun h=>(by cases h),fun w hw b' hb j u hj=>?_⟩;simp only [Option.some.injEq] at hb;subst hb;rw [Jav,xM];exact Jbt hw hm j u hj
theorem WL.bo {P:Program}{ops:Array Oper}{Q:Post}{n:Nat}{ds:DS}{e:Env}{rest:List Oper}{t lt T:TypeId}{p:String}{af:Array Edge}{k s:Nat}{q1:Operand}{cs zc:List Value}(hu:P.underlying lt=Option.some (.slice T))(hz:P.sz T=Option.some s)(hzr:P.zr T=Option.some zc.toArray)(hx:ev e q1=Option.some (.agg cs.toArray))(hs:cs.length=s)(hs2:s≤16777216)(h0:0<s)(hk:Nat.blt k n=true) 
  (h:∀ b,WL P ops Q n ds ((k,.slice (Option.some ⟨b,0,none⟩) 1 1)::e) (Sat w0 M I ws (oQ b cs T::ow)) rest) :
  WL P ops Q n ds e (Sat w0 M I ws ow) (⟨Option.some k,.buildSlice lt 1 #[(0,q1)],t,p,af,none⟩::rest):=by
 refine WL.fi (ι:=Nat) (vv:=fun b=>.slice (Option.some ⟨b,0,none⟩) 1 1) (SS:=fun b=>Sat w0 M I ws (oQ b cs T::ow)) ?_ hk h;intro a w ha hw;obtain ⟨zv,hzv,hc⟩:=Jfl hzr w;refine ⟨w.heap.size,w.alloc (.cells cs.toArray T),?_,hw.fresh (Fr.alloc _ _) (Jde _ _) (fun b hb=>by simp only [own] at hb;subst hb;simp)⟩
 have hlen:∀ (z:List Value),z.length=s→Instr.fill (fun i=>Option.some (i*s,s)) z.toArray [(0,.agg cs.toArray)]=Option.some cs.toArray:=by
  intro z hzl;refine Jax (us:=cs) rfl (by rw [hs,Nat.zero_mul]) (by omega) ?_;rw [List.take_zero,xV (by omega)];simp [Instr.fill]
 have hz2:∀ (f:Nat→Value),Instr.fill (fun i=>Option.some (i*s,s)) ((Array.range (1*s)).map f) [(0,.agg cs.toArray)]=Option.some cs.toArray:=by
  intro f;have h2:=hlen ((Array.range (1*s)).map f).toList (by simp);rwa [Array.toArray_toList] at h2
 have hs0:¬ (1*s=0):=by omega
 have hs3:¬ (1*s > 2 ^ 24):=by omega
 simp only [execOp,Instr.buildSlice,Sem.run_bind,run_underlying hu,Result.andThen_ok,run_sizeOf hz,if_neg hs3,if_neg hs0,hzv,Sem.run_pure];have e1:List.map (fun x:Nat × Operand=>match x with | (i,x)=>(i,a.eval x)) [(0,q1)]=[(0,.agg cs.toArray)]:=by simp [ha.eval hx]
 simp only [List.map_toArray,e1,hz2];simp [newRow,newObj,Sem.run]
section rows
variable {P:Program} {ops:Array Oper} {Q:Post} {n:Nat} {ds:DS} {e:Env} {rest:List Oper} {t lt:TypeId} {p:String} {af:Array Edge} {k:Nat} {x y:Operand} {v:Value}
end rows
end Go.Hw
