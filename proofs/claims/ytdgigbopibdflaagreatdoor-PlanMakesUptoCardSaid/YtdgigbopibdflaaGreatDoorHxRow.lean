/- Words of 8 and 32 bits; slices of the call's own that grow; literals of slices; texts and bytes. -/
import Derived.Test.YtdgigbopibdflaaGreatDoorHxRegion
import Derived.Laws.AppendOwnNone
import Derived.Lib.AppendStr
import Derived.Laws.BytesString
import Derived.Laws.BytesArg
import Derived.Lib.ConvBytes
namespace Go.Hw
set_option linter.unusedVariables false
set_option linter.unusedSimpArgs false
open Go Go.RowKit
variable {P:Program} {n:Nat} {ds:DS} {e:Env} {S:World→Prop} {dst:Option Tmp} {t t':TypeId} {p:String} {af:Array Edge} {g:Option (Nat × Bool)}
variable {x y z:Operand} {v u:Value} {xt yt:TypeId}
abbrev b8 (c:UInt8):Value:=.int .u8 (c.toNat:Int)
section u32
variable {a b:UInt32}
end u32
section u8
variable {a b:UInt8}
end u8
section conv
variable {src dst':TypeId} {d:TypeDesc}
end conv
section
variable {a b:Int}
theorem OV.subN {i j:Nat}{k:IntKind}(hx:ev e x=some (.int k (i:Int)))(hy:ev e y=some (.int k (j:Int)))(hk:k.wrap ((i - j:Nat):Int)=((i - j:Nat):Int))(h:j≤i):OV P n ds e S ⟨dst,.binOp .sub xt x y yt,t,p,af,g⟩ (.int k ((i - j:Nat):Int)):=
 (OV.sub hx hy).cast (by rw [← hk,Int.natCast_sub h])
end
end Go.Hw
namespace Go.Hw
set_option linter.unusedVariables false
set_option linter.unusedSimpArgs false
open Go Go.RowKit Go.Lib
variable {w0 ws w:World} {M I:Nat→Prop} {ow:List Item} {i j:Item}
variable {P:Program} {ops:Array Oper} {Q:Post} {n:Nat} {ds:DS} {e:Env} {rest:List Oper} {c:Code}
variable {dst:Option Tmp} {t lt:TypeId} {p:String} {af:Array Edge} {x y z:Operand} {v u:Value} {d:TypeDesc} {S S':World→Prop} {k:Nat} {g:Option (Nat × Bool)}
def row (T:TypeId)(size:Nat)(a:Option Addr)(m cap:Nat)(xs:List Value):Item:=
 ⟨fun b=>∃ q,a=some q∧q.block=b,fun w=>w.ownsRow 0 T size (.slice a m cap) m xs,by
  intro w w' h hw;refine ⟨hw.1,?_⟩;rcases hw.2 with h2 | ⟨g,c,cur,hv,hg,hh,r⟩
  ·exact .inl h2
  ·refine .inr ⟨g,c,cur,hv,hg,?_,r⟩;rw [h g ?_]
   ·exact hh
   ·simp only [Value.slice.injEq] at hv;exact ⟨_,hv.1,rfl⟩⟩
theorem row_nil (w:World)(T:TypeId)(size:Nat):(row T size none 0 0 []).φ w:=World.ownsRow_nil w 0 T size
theorem Sat.rowNil (T:TypeId)(size:Nat)(h:Sat w0 M I ws ow w):Sat w0 M I ws (row T size none 0 0 []::ow) w:=
 h.fresh (Fr.refl _ _) (row_nil w T size) (fun b ⟨q,hq,_⟩=>by cases hq)
theorem Jdu (h:Sat w0 M I ws ow w){T:TypeId}{size:Nat}{a:Addr}{m cap:Nat}{xs:List Value}(hm:row T size (some a) m cap xs∈ow):∀ j u,xs[j]?=some u→w.cell? (a.add j)=some u:=by
 intro j u hj;have h1:w.ownsRow 0 T size (.slice (some a) m cap) m xs:=h.it _ hm;have h2:=h1.cells (g:=a.block) rfl j u hj;rcases h1.2 with ⟨hv,_⟩ | ⟨g,c,cur,hv,_⟩
 ·cases hv
 ·simp only [Value.slice.injEq,Option.some.injEq] at hv;rw [hv.1] at h2 ⊢;exact h2
theorem Jdl (h:Sat w0 M I ws ow w){T:TypeId}{size:Nat}{a:Option Addr}{m cap:Nat}{xs:List Value}(hm:row T size a m cap xs∈ow):
  xs.length=m*size∧((a=none∧m=0∧cap=0)∨∃ b,a=some ⟨b,0,none⟩∧m≤cap):=by
 have h1:w.ownsRow 0 T size (.slice a m cap) m xs:=h.it _ hm;refine ⟨h1.1,?_⟩;rcases h1.2 with ⟨hv,_⟩ | ⟨g,c,cur,hv,_,_,hmc,_⟩
 ·simp only [Value.slice.injEq] at hv;exact .inl hv
 ·simp only [Value.slice.injEq] at hv;exact .inr ⟨g,hv.1,by omega⟩
theorem fr_of_grown {w w':World}{v:Value}(h:w.grownBy w' v.ownBlock){D:Nat→Prop}(hD:∀ b,v.ownBlock=some b→D b)(hd:w.drawn≤w'.drawn):Fr D w w':=
 ⟨h.os,h.tape,h.output,h.size,fun b hb hn=>h.block b hb (fun e=>hn (hD b e.symm)),hd⟩
def appB (P:Program)(t el size bytes:Nat):Bool:=
 (match P.underlying t with | some (.slice e')=>Nat.beq e' el | _=>false) &&
 (match P.info? el with | some i=>Nat.beq i.size size && Nat.beq i.bytes bytes && (match i.zero with | some z=>Nat.beq z.cells.size size | none=>false) | none=>false) && Nat.blt 0 size
theorem appB_spec {P:Program}{t el size bytes:Nat}(h:appB P t el size bytes=true):
  P.underlying t=some (.slice el)∧∃ i z,P.info? el=some i∧i.zero=some z∧i.size=size∧i.bytes=bytes∧z.cells.size=size∧0<size:=by
 unfold appB at h;simp only [xY] at h;obtain ⟨⟨h1,h2⟩,h3⟩:=h;have h3:0<size:=by simpa [Nat.blt_eq] using h3
 refine ⟨?_,?_⟩
 ·split at h1
  ·rename_i e' he;rw [he,Nat.eq_of_beq_eq_true h1]
  ·cases h1
 ·split at h2
  ·rename_i i hi;simp only [xY] at h2;obtain ⟨⟨ha,hb⟩,hc⟩:=h2
   split at hc
   ·rename_i z hz;exact ⟨i,z,hi,hz,Nat.eq_of_beq_eq_true ha,Nat.eq_of_beq_eq_true hb,Nat.eq_of_beq_eq_true hc,h3⟩
   ·cases hc
  ·cases h2
def Src (S:World→Prop)(a:Option Addr)(m size:Nat)(news:List Value):Prop:=
 news.length=m*size∧(a=none→m=0)∧∀ w,S w→∀ b,a=some b→∀ j u,news[j]?=some u→w.cell? (b.add j)=some u
theorem row_src {T:TypeId}{size:Nat}{a:Option Addr}{m cap:Nat}{xs:List Value}(hm:row T size a m cap xs∈ow)(hw:Sat w0 M I ws ow w):Src (Sat w0 M I ws ow) a m size xs:=by
 have h1:=Jdl hw hm;refine ⟨h1.1,fun ha=>?_,fun w hw b hb j u hj=>by subst hb;exact Jdu hw hm j u hj⟩;rcases h1.2 with h2 | ⟨b,h2,_⟩
 ·exact h2.2.1
 ·rw [ha] at h2;cases h2
theorem append_place {T size bytes:Nat}{t1:TypeId}{ti:TypeInfo}{z:Value}{ty:TypeId}(hu:P.underlying t1=some (.slice T))(hi:P.info? T=some ti)(hz:ti.zero=some z)(hsz:ti.size=size)(hby:ti.bytes=bytes)(hzs:z.cells.size=size)(hpos:0<size) 
  {a1:Option Addr} {m1 c1:Nat} {xs:List Value} (hown:w.ownsRow 0 T size (.slice a1 m1 c1) m1 xs) {b2:Addr} {m2 c2:Nat} {news:List Value} (hl:news.length=m2*size) (hnews:∀ j u,news[j]?=some u→w.cell? (b2.add j)=some u) (h1:∀ u∈news,u.oneCell'=true)
  (h63:m1+m2≤maxLen) (hbytes:(m1+m2)*bytes≤140737488355328) {v':Value} {w':World}
  (hrun:(Builtin.append_ #[t1,t1] ty #[.slice a1 m1 c1,.slice (some b2) m2 c2]).run P w=.ok v' w'):∀ q,v'.ownBlock=some q→(Value.slice a1 m1 c1).ownBlock=some q∨w.heap.size≤q:=by
 intro q hq;subst hsz;subst hby;have hsmall:m1+m2≤9223372036854775807:=by simp only [maxLen] at h63;omega
 rcases hown.2 with ⟨hv,h0⟩ | ⟨g,c,cur,hv,_,hg,hmc,hcm,hcs,htake⟩
 ·simp only [Value.slice.injEq] at hv;obtain ⟨rfl,rfl,rfl⟩:=hv;have hx:xs=[]:=List.eq_nil_of_length_eq_zero (by simpa using hown.1);subst hx;obtain ⟨v2,w2,hr2,ho2,_⟩:=run_append_own (P:=P) w w.heap.size t1 ty T ti z ti.size ti.bytes hu hi hz rfl rfl hzs hpos (.slice none 0 0) 0 [] (World.ownsRow_nil _ _ _ _) b2 m2 c2 news hl hnews h1 h63 hbytes (Nat.le_refl _);rw [hrun] at hr2;simp only [Result.ok.injEq] at hr2;obtain ⟨rfl,rfl⟩:=hr2;exact .inr (ho2.lt q hq).1
 ·simp only [Value.slice.injEq] at hv;obtain ⟨rfl,_,rfl⟩:=hv
  by_cases hroom:m1+m2≤c1
  ·have hfit:m1*ti.size+news.length≤cur.size:=by rw [hl,hcs,← Nat.add_mul];exact Nat.mul_le_mul_right _ hroom
   have hr:=run_append_room (P:=P) w t1 ty T ti hu hi g m1 c1 cur hg b2 m2 c2 news hl hnews h1 hroom hfit;rw [hrun] at hr;simp only [Result.ok.injEq] at hr;rw [hr.1] at hq;exact .inl hq
  ·have holds:∀ j u,xs[j]?=some u→w.cell? ((⟨g,0,none⟩:Addr).add j)=some u:=hown.cells (g:=g) rfl;have hr:=run_append_grow (P:=P) w t1 ty T ti z hu hi hz ⟨g,0,none⟩ m1 c1 xs hown.1 holds b2 m2 c2 news hl hnews (by omega) (by omega) (growslice_fits (by omega) hbytes);rw [hrun] at hr;simp only [Result.ok.injEq] at hr;rw [hr.1] at hq;simp only [Value.ownBlock,Option.some.injEq] at hq;exact .inr (by omega)
theorem WL.append {T size bytes:Nat}{a1 a2:Option Addr}{m1 c1 m2 c2:Nat}{xs news:List Value}{q1 q2:Operand}{t1:TypeId} 
  (hx:ev e q1=some (.slice a1 m1 c1)) (hy:ev e q2=some (.slice a2 m2 c2)) (hap:appB P t1 T size bytes=true) (hs:∀ w,Sat w0 M I ws (row T size a1 m1 c1 xs::ow) w→Src (Sat w0 M I ws (row T size a1 m1 c1 xs::ow)) a2 m2 size news)
  (h1:∀ u∈news,u.oneCell'=true) (hb:(m1+m2)*bytes≤140737488355328∧m1+m2≤maxLen) (hk:Nat.blt k n=true)
  (h:∀ a' c',WL P ops Q n ds ((k,.slice a' (m1+m2) c')::e) (Sat w0 M I ws (row T size a' (m1+m2) c' (xs++news)::ow)) rest) :
  WL P ops Q n ds e (Sat w0 M I ws (row T size a1 m1 c1 xs::ow)) (⟨some k,.call ⟨.builtin .append,#[q1,q2],#[t1,t1]⟩,t,p,af,none⟩::rest):=by
 obtain ⟨hu,ti,z,hi,hz,hsz,hby,hzs,hpos⟩:=appB_spec hap;refine WL.fi (ι:=Option Addr × Nat) (vv:=fun q=>.slice q.1 (m1+m2) q.2) (SS:=fun q=>Sat w0 M I ws (row T size q.1 (m1+m2) q.2 (xs++news)::ow)) ?_ hk (fun q=>h q.1 q.2);intro a w ha hw;have hS:=hs w hw;have hown:w.ownsRow 0 T size (.slice a1 m1 c1) m1 xs:=hw.it _ yF;cases a2 with
 | none=>
  have hm2:m2=0:=hS.2.1 rfl;subst hm2;have hnn:news=[]:=List.eq_nil_of_length_eq_zero (by simpa using hS.1);subst hnn;refine ⟨(a1,c1),w,?_,by simpa using hw⟩
  have hlen:∀ (w:World),(Builtin.append_ #[t1,t1] t #[.slice a1 m1 c1,.slice none 0 c2]).run P w=.ok (.slice a1 m1 c1) w:=by
   intro w
   have hle:m1≤c1:=by
    rcases hown.2 with ⟨hv,_⟩ | ⟨g,c,cur,hv,_,_,hmc,_⟩
    ·simp only [Value.slice.injEq] at hv;omega
    ·simp only [Value.slice.injEq] at hv;omega
   cases a1 <;> simp [Builtin.append_,run_underlying hu,sizeOf,typeInfo,hi,Builtin.lenOf,Builtin.firstCells,hle,storeCells]
  simp [execOp,resolve,invoke,builtin,ha.eval hx,ha.eval hy,hlen]
 | some b2=>
  obtain ⟨v',w',hrun,hown',hgr,_⟩:=run_append_own (P:=P) w 0 t1 t T ti z size bytes hu hi hz hsz hby hzs hpos _ m1 xs hown b2 m2 c2 news hS.1 (fun j u hj=>hS.2.2 w hw b2 rfl j u hj) h1 hb.2 hb.1 (Nat.zero_le _)
  have hv:∃ a' c',v'=.slice a' (m1+m2) c':=by
   rcases hown'.2 with ⟨hv,h0⟩ | ⟨g,c,cur,hv,_⟩
   ·exact ⟨none,0,by rw [hv,h0]⟩
   ·exact ⟨_,_,hv⟩
  obtain ⟨a',c',rfl⟩:=hv;refine ⟨(a',c'),w',?_,?_⟩
  ·simp [execOp,resolve,invoke,builtin,ha.eval hx,ha.eval hy,hrun]
  ·refine hw.turn (fr_of_grown hgr ?_ (Jce _ _ hrun)) hown' ?_
   ·intro b hb';cases a1 with
    | none=>simp [Value.ownBlock] at hb'
    | some q=>simp [Value.ownBlock] at hb';exact ⟨q,rfl,hb'⟩
   ·rintro b ⟨q,rfl,rfl⟩;have hlt:=hown'.lt q.block rfl;rcases append_place hu hi hz hsz hby hzs hpos hown hS.1 (fun j u hj=>hS.2.2 w hw b2 rfl j u hj) h1 hb.2 hb.1 hrun q.block rfl with h | h
    ·left;cases a1 with
     | none=>simp [Value.ownBlock] at h
     | some q1=>simp [Value.ownBlock] at h;exact ⟨q1,rfl,h⟩
    ·exact .inr ⟨h,hlt.2⟩
theorem WL.br {T:TypeId}{q1:Operand}{zc:Value}(hu:P.underlying lt=some (.slice T))(hz:P.sz T=some 1)(hzr:P.zr T=some #[zc])(hx:ev e q1=some v)(h1:v.oneCell'=true)(hk:Nat.blt k n=true) 
  (h:∀ b,WL P ops Q n ds ((k,.slice (some ⟨b,0,none⟩) 1 1)::e) (Sat w0 M I ws (oQ b [v] T::ow)) rest) :
  WL P ops Q n ds e (Sat w0 M I ws ow) (⟨some k,.buildSlice lt 1 #[(0,q1)],t,p,af,none⟩::rest):=by
 refine WL.fi (ι:=Nat) (vv:=fun b=>.slice (some ⟨b,0,none⟩) 1 1) (SS:=fun b=>Sat w0 M I ws (oQ b [v] T::ow)) ?_ hk h;intro a w ha hw;obtain ⟨zv,hzv,hc⟩:=Jfl hzr w;refine ⟨w.heap.size,w.alloc (.cells [v].toArray T),?_,?_⟩
 ·simp [execOp,Instr.buildSlice,run_underlying hu,run_sizeOf hz,hzv,hc,ha.eval hx,Instr.fill,Jgv h1,newRow,newObj,Sem.run,List.range_succ];have hr1:Array.range 1=#[0]:=by decide
  simp [hr1]
 ·exact hw.fresh (Fr.alloc _ _) (Jde _ _) (fun b hb=>by simp only [own] at hb;subst hb;simp)
theorem Jd5 {b:Nat}{cs:List Value}{T:TypeId}{f:Nat × Nat}{m:Nat}(hm:own b (.cells cs.toArray T f)∈ow)(hl:cs.length=m):Src (Sat w0 M I ws ow) (some ⟨b,0,none⟩) m 1 cs:=
 by
 refine ⟨by simp [hl],fun h=>(by cases h),fun w hw b' hb j u hj=>?_⟩;simp only [Option.some.injEq] at hb;subst hb;rw [Jav,xM];exact Jbt hw hm j u hj
def u8s (l:List UInt8):List Value:=l.map fun c=>b8 c
theorem Jfc (l:List UInt8):(u8s l).length=l.length:=by simp [u8s]
theorem WC.pure {pr:Prop}(h:pr→WC P Q n ds e S c):WC P Q n ds e (fun w=>pr∧S w) c:=fun a w ha hw=>h hw.1 a w ha hw.2
theorem u8s_getD (l:List UInt8){i:Nat}(h:i<l.length):(u8s l)[i]?=some (b8 (l.getD i 0)):=by simp [u8s,h]
theorem WL.pure {pr:Prop}{l:List Oper}(h:pr→WL P ops Q n ds e S l):WL P ops Q n ds e (fun w=>pr∧S w) l:=fun a w ha hw=>h hw.1 a w ha hw.2
end Go.Hw
