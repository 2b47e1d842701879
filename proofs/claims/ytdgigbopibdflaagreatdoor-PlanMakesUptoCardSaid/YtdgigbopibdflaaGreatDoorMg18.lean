/- Contracts of functions of the program: what each returns and leaves in memory. Printed by gen.py and walk.py. -/
import Derived.Test.YtdgigbopibdflaaGreatDoorMg17
import Derived.LaidMore
import Derived.Test.YtdgigbopibdflaaGreatDoorRows
import Derived.Test.YtdgigbopibdflaaGreatDoorHxA
import Derived.Test.YtdgigbopibdflaaGreatDoorMg14
set_option maxRecDepth 10000
namespace Go.Proofs.YtdgigbopibdflaaGreatDoor
open Go Go.Hw
set_option linter.unusedSimpArgs false
set_option linter.unusedVariables false
section
open Go.ChangeShapes Go.WideShapes Go.ChangeAt Go.RowKit
variable {H:Type} {enc:TypeId × Value→H} {w:World} {base:Nat} {spare:Nat→Bool} {held:Bool} {r:Reach} {b0:Nat}
def inI (k:Int):Prop:=-9223372036854775808≤k∧k≤9223372036854775807
theorem getD_at {α:Type}{l:List α}{i:Nat}{x d:α}(h:l[i]?=some x):l.getD i d=x:=by rw [yD,h];rfl
theorem Jjg {α:Type}(wt:α→Nat){k:Nat}(h:∀ y,k≤wt y)(ys:List α):k*ys.length≤(ys.map wt).sum:=by
 induction ys with
 | nil=>simp
 | cons x ys ih=>have:=h x;simp only [yA,List.sum_cons,List.length_cons];rw [Nat.mul_add];omega
theorem bulk_sum {α:Type}(dflt:α)(wt:α→Nat):∀ (elems:List (DataW H)) (ys:List α),elems.length=ys.length→(∀ i d,elems[i]?=some d→wt (ys.getD i dflt)≤Rows.uptoBulk d)→(ys.map wt).sum≤Rows.uptoBulkAll elems
 | [],[],_,_=>by simp [Rows.uptoBulkAll]
 | [],_::_,h,_=>by simp at h
 | _::_,[],h,_=>by simp at h
 | d::elems,y::ys,h,hd=>by
  have h1:=hd 0 d rfl;have h2:=bulk_sum dflt wt elems ys (by simpa using h) (fun i d hi=>hd (i+1) d hi);simp only [List.getD_cons_zero] at h1;simp only [yA,List.sum_cons,Rows.uptoBulkAll];omega
theorem Jf5 {α:Type}(dflt:α){tt t:TypeId}{s:Nat}{fuel:Nat}{cs:List Value}{x:DataW H × List MemPlace}(htt:Program.underlying Tryz.prog tt=some (.slice t))(hs:Program.cellsOf Tryz.prog t=s)(en:α→List Value)(hl:∀ y,(en y).length=s)(G:α→Prop)(wt:α→Nat) 
  (hel:∀ fuel cs x,DataW.trod enc Tryz.prog w base spare held fuel t cs=some x→∃ y,cs=en y∧G y∧wt y≤Rows.uptoBulk x.1) (h:DataW.trod enc Tryz.prog w base spare held fuel tt cs=some x) :
  ∃ a c,∃ ys:List α,cs=[.slice a ys.length c]∧(a=none→ys.length=0)∧(∀ q,a=some q→∀ i y,ys[i]?=some y→∀ j v,(en y)[j]?=some v→w.cell? ((q.add (i*s)).add j)=some v)∧(∀ y∈ys,G y)∧(ys.map wt).sum+1≤Rows.uptoBulk x.1:=by
 rcases DataW.trod_slice htt h with ⟨rfl,rfl⟩ | ⟨a,len,cap,elems,rest,n,rfl,rfl,rfl,hb,hlc,hcm,hlen,hele,_,_⟩
 ·exact ⟨none,0,[],rfl,fun _=>rfl,(fun q hq=>(by cases hq)),(fun y hy=>by cases hy),by simp [Rows.uptoBulk]⟩
 ·have key:∀ i,i<len→∃ y:α,((∀ j v,(en y)[j]?=some v→w.cell? ((a.add (i*s)).add j)=some v)∧G y)∧∀ d,(elems.map (·.1))[i]?=some d→wt y≤Rows.uptoBulk d:=by
   intro i hi;have h3:=hele i hi;rw [hs] at h3;have h4:i<elems.length:=by omega
   rw [xD h4] at h3;obtain ⟨us,hus,h5⟩:=Option.bind_eq_some_iff.1 h3;obtain ⟨y,rfl,h6,h7⟩:=hel _ _ _ h5;have h8:=(World.cells?_some hus).2.2;refine ⟨y,⟨fun j v hj=>?_,h6⟩,fun d hd=>?_⟩
   ·have hj7:j<s:=by have:=(List.getElem?_eq_some_iff.1 hj).1;rw [hl] at this;exact this
    rw [h8 j hj7];exact hj
   ·rw [xG,xD h4] at hd;simp only [Option.map_some,Option.some.injEq] at hd;rw [← hd];exact h7
  obtain ⟨ys,hyl,hq⟩:=exists_list dflt _ len key;refine ⟨some a,cap,ys,by rw [hyl],fun h=>(by cases h),fun q hq' i y hy=>?_,fun y hy=>?_,?_⟩
  ·simp only [Option.some.injEq] at hq';subst hq';have hi:i<len:=by have:=(List.getElem?_eq_some_iff.1 hy).1;omega
   have h9:=(hq i hi).1.1;rwa [getD_at hy] at h9
  ·obtain ⟨i,hi⟩:=List.mem_iff_getElem?.1 hy;have hil:i<len:=by have:=(List.getElem?_eq_some_iff.1 hi).1;omega
   have h9:=(hq i hil).1.2;rwa [getD_at hi] at h9
  ·have:=bulk_sum dflt wt (elems.map (·.1)) ys (by simp [hyl,hlen]) (fun i d hd=>by
    have hi:i<len:=by have:=(List.getElem?_eq_some_iff.1 hd).1;simp at this;omega
    exact (hq i hi).2 d hd)
   simp only [Rows.uptoBulk];omega
theorem inI_of {n:Int}(h:(Lit.int .i64 n).wf=true):inI n:=by simpa [inI,Lit.wf,IntKind.min,IntKind.max,IntKind.signed,IntKind.bits] using h
def wtT (t:Tm):Nat:=t.s.size+4
set_option maxRecDepth 100000 in
theorem Jd0 {fuel:Nat}{cs:List Value}{x:DataW H × List MemPlace}(h:DataW.trod enc Tryz.prog w base spare held fuel 23 cs=some x):
  ∃ t:Tm,cs=tmC t∧(inI t.kind∧inI t.n)∧wtT t≤Rows.uptoBulk x.1∧x.1=.agg [.lit (.int .i64 t.kind),.lit (.int .i64 t.n),.lit (.string t.s.data.toList)]:=by
 obtain ⟨xs,n,rfl,rfl,hl,hxs,hf⟩:=DataW.trod_struct T.u23 h;have hl3:cs.length=3:=by rw [hl];kernel_rfl
 have cI:Program.cellsOf Tryz.prog 3=1:=by kernel_rfl
 have cS:Program.cellsOf Tryz.prog 9=1:=by kernel_rfl
 match cs,hl3 with
 | [v0,v1,v2],_=>
  match xs,hxs with
  | [x0,x1,x2],_=>
   have k0:DataW.trod enc Tryz.prog w base spare held n 3 [v0]=some x0:=by
    have k:DataW.trod enc Tryz.prog w base spare held n 3 (List.take (Program.cellsOf Tryz.prog 3) (List.drop 0 [v0,v1,v2]))=some x0:=hf 0 _ rfl;rw [cI] at k;exact k
   have k1:DataW.trod enc Tryz.prog w base spare held n 3 [v1]=some x1:=by
    have k:DataW.trod enc Tryz.prog w base spare held n 3 (List.take (Program.cellsOf Tryz.prog 3) (List.drop 1 [v0,v1,v2]))=some x1:=hf 1 _ rfl;rw [cI] at k;exact k
   have k2:DataW.trod enc Tryz.prog w base spare held n 9 [v2]=some x2:=by
    have k:DataW.trod enc Tryz.prog w base spare held n 9 (List.take (Program.cellsOf Tryz.prog 9) (List.drop 2 [v0,v1,v2]))=some x2:=hf 2 _ rfl;rw [cS] at k;exact k
   obtain ⟨kind,e0,rfl,w0⟩:=DataW.trod_int T.u3 k0;obtain ⟨num,e1,rfl,w1⟩:=DataW.trod_int T.u3 k1;obtain ⟨s,e2,rfl,w2⟩:=DataW.trod_string T.u9 k2;simp only [List.cons.injEq,and_true] at e0 e1 e2;subst e0;subst e1;subst e2;refine ⟨⟨kind,num,s⟩,rfl,⟨inI_of w0,inI_of w1⟩,?_,rfl⟩;simp only [yA,yB,Rows.uptoBulk,Rows.uptoBulkAll,wtT];have:s.data.toList.length=s.size:=by simp
   omega
def wtA (y:AG):Nat:=y.x.name.size+y.x.args.length+7
set_option maxRecDepth 100000 in
theorem trod_atom {fuel:Nat}{cs:List Value}{x:DataW H × List MemPlace}(h:DataW.trod enc Tryz.prog w base spare held fuel 26 cs=some x):
  ∃ y:AG,cs=agC y∧RT w y.a y.x.args∧wtA y≤Rows.uptoBulk x.1:=by
 obtain ⟨xs,n,rfl,rfl,hl,hxs,hf⟩:=DataW.trod_struct T.u26 h;have hl5:cs.length=5:=by rw [hl];kernel_rfl
 have cT:Program.cellsOf Tryz.prog 23=3:=by kernel_rfl
 have cS:Program.cellsOf Tryz.prog 9=1:=by kernel_rfl
 have cL:Program.cellsOf Tryz.prog 24=1:=by kernel_rfl
 match cs,hl5 with
 | [v0,v1,v2,v3,v4],_=>
  match xs,hxs with
  | [x0,x1,x2],_=>
   have k0:DataW.trod enc Tryz.prog w base spare held n 23 [v0,v1,v2]=some x0:=by
    have k:DataW.trod enc Tryz.prog w base spare held n 23 (List.take (Program.cellsOf Tryz.prog 23) (List.drop 0 [v0,v1,v2,v3,v4]))=some x0:=hf 0 _ rfl;rw [cT] at k;exact k
   have k1:DataW.trod enc Tryz.prog w base spare held n 9 [v3]=some x1:=by
    have k:DataW.trod enc Tryz.prog w base spare held n 9 (List.take (Program.cellsOf Tryz.prog 9) (List.drop 3 [v0,v1,v2,v3,v4]))=some x1:=hf 1 _ rfl;rw [cS] at k;exact k
   have k2:DataW.trod enc Tryz.prog w base spare held n 24 [v4]=some x2:=by
    have k:DataW.trod enc Tryz.prog w base spare held n 24 (List.take (Program.cellsOf Tryz.prog 24) (List.drop 4 [v0,v1,v2,v3,v4]))=some x2:=hf 2 _ rfl;rw [cL] at k;exact k
   obtain ⟨t,e0,_,b0,_⟩:=Jd0 k0;obtain ⟨s,e1,rfl,w1⟩:=DataW.trod_string T.u9 k1
   obtain ⟨a,c,ts,e2,ha,hat,_,b2⟩:=Jf5 (default:Tm) T.u24 (by kernel_rfl) tmC Jdk (fun _=>True) wtT (fun fuel cs x hx=>by
    obtain ⟨t,e,_,hb,_⟩:=Jd0 hx;exact ⟨t,e,trivial,hb⟩) k2
   simp only [tmC,List.cons.injEq,and_true] at e0 e1 e2;obtain ⟨rfl,rfl,rfl⟩:=e0;subst e1;subst e2;refine ⟨⟨⟨t,s,ts⟩,a,c⟩,rfl,⟨ha,hat⟩,?_⟩;have h1:=Jjg wtT (k:=1) (fun y=>by unfold wtT;omega) ts;have h2:s.data.toList.length=s.size:=by simp
   unfold wtT at b0;simp only [yA,yB,Rows.uptoBulk,Rows.uptoBulkAll,wtA];omega
set_option maxRecDepth 100000 in
theorem trod_atoms {fuel:Nat}{cs:List Value}{x:DataW H × List MemPlace}(h:DataW.trod enc Tryz.prog w base spare held fuel 27 cs=some x):
  ∃ a c ys,cs=[.slice a ys.length c]∧RA w a ys∧(ys.map wtA).sum+1≤Rows.uptoBulk x.1:=by
 obtain ⟨a,c,ys,e,ha,hat,hg,hb⟩:=Jf5 (⟨default,none,0⟩:AG) T.u27 (by kernel_rfl) agC Jgj (fun y=>RT w y.a y.x.args) wtA (fun fuel cs x hx=>by
  obtain ⟨y,e,h1,h2⟩:=trod_atom hx;exact ⟨y,e,h1,h2⟩) h
 exact ⟨a,c,ys,e,⟨ha,hat,hg⟩,hb⟩
theorem le_sum {α:Type}(wt:α→Nat){ys:List α}{y:α}(h:y∈ys):wt y≤(ys.map wt).sum:=by
 induction ys with
 | nil=>cases h
 | cons x ys ih=>
  rw [yA,List.sum_cons];rcases List.mem_cons.1 h with rfl | h
  ·omega
  ·have:=ih h;omega
def T00:Ts:=⟨0,T0,T0⟩
set_option maxRecDepth 100000 in
theorem trod_test {fuel:Nat}{cs:List Value}{x:DataW H × List MemPlace}(h:DataW.trod enc Tryz.prog w base spare held fuel 85 cs=some x):
  ∃ t:Ts,cs=tsC t∧2≤Rows.uptoBulk x.1:=by
 obtain ⟨xs,n,rfl,rfl,hl,hxs,hf⟩:=DataW.trod_struct T.u85 h;have hl7:cs.length=7:=by rw [hl];kernel_rfl
 have cT:Program.cellsOf Tryz.prog 23=3:=by kernel_rfl
 have cI:Program.cellsOf Tryz.prog 3=1:=by kernel_rfl
 match cs,hl7 with
 | [v0,v1,v2,v3,v4,v5,v6],_=>
  match xs,hxs with
  | [x0,x1,x2],_=>
   have k0:DataW.trod enc Tryz.prog w base spare held n 3 [v0]=some x0:=by
    have k:DataW.trod enc Tryz.prog w base spare held n 3 (List.take (Program.cellsOf Tryz.prog 3) (List.drop 0 [v0,v1,v2,v3,v4,v5,v6]))=some x0:=hf 0 _ rfl;rw [cI] at k;exact k
   have k1:DataW.trod enc Tryz.prog w base spare held n 23 [v1,v2,v3]=some x1:=by
    have k:DataW.trod enc Tryz.prog w base spare held n 23 (List.take (Program.cellsOf Tryz.prog 23) (List.drop 1 [v0,v1,v2,v3,v4,v5,v6]))=some x1:=hf 1 _ rfl;rw [cT] at k;exact k
   have k2:DataW.trod enc Tryz.prog w base spare held n 23 [v4,v5,v6]=some x2:=by
    have k:DataW.trod enc Tryz.prog w base spare held n 23 (List.take (Program.cellsOf Tryz.prog 23) (List.drop 4 [v0,v1,v2,v3,v4,v5,v6]))=some x2:=hf 2 _ rfl;rw [cT] at k;exact k
   obtain ⟨op,e0,rfl,w0⟩:=DataW.trod_int T.u3 k0;obtain ⟨l,e1,_,b1,_⟩:=Jd0 k1;obtain ⟨r,e2,_,b2,_⟩:=Jd0 k2;simp only [tmC,List.cons.injEq,and_true] at e0 e1 e2;obtain ⟨rfl,rfl,rfl⟩:=e1;obtain ⟨rfl,rfl,rfl⟩:=e2;subst e0;refine ⟨⟨op,l,r⟩,rfl,?_⟩;simp only [yA,yB,Rows.uptoBulk,Rows.uptoBulkAll];omega
theorem trod_tests {fuel:Nat}{cs:List Value}{x:DataW H × List MemPlace}(h:DataW.trod enc Tryz.prog w base spare held fuel 28 cs=some x):
  ∃ a c ts,cs=[.slice a ts.length c]∧RS w a ts∧2*ts.length+1≤Rows.uptoBulk x.1:=by
 obtain ⟨a,c,ts,e,ha,hat,_,hb⟩:=Jf5 T00 (s:=7) T.u28 (by kernel_rfl) tsC (fun _=>rfl) (fun _=>True) (fun _=>2) (fun fuel cs x hx=>by
  obtain ⟨t,e,h2⟩:=trod_test hx;exact ⟨t,e,trivial,h2⟩) h
 have h1:=Jjg (fun _:Ts=>2) (k:=2) (fun _=>Nat.le_refl _) ts;exact ⟨a,c,ts,e,⟨ha,hat⟩,by omega⟩
def wtC (g:CG):Nat:=wtA g.hd+(g.bd.map wtA).sum+2*g.ts.length+3
set_option maxRecDepth 100000 in
theorem trod_clause {fuel:Nat}{cs:List Value}{x:DataW H × List MemPlace}(h:DataW.trod enc Tryz.prog w base spare held fuel 30 cs=some x):
  ∃ g:CG,cs=cgC g∧RC w g∧wtC g≤Rows.uptoBulk x.1:=by
 obtain ⟨xs,n,rfl,rfl,hl,hxs,hf⟩:=DataW.trod_struct T.u30 h;have hl7:cs.length=7:=by rw [hl];kernel_rfl
 have cA:Program.cellsOf Tryz.prog 26=5:=by kernel_rfl
 have cL:Program.cellsOf Tryz.prog 27=1:=by kernel_rfl
 have cS:Program.cellsOf Tryz.prog 28=1:=by kernel_rfl
 match cs,hl7 with
 | [v0,v1,v2,v3,v4,v5,v6],_=>
  match xs,hxs with
  | [x0,x1,x2],_=>
   have k0:DataW.trod enc Tryz.prog w base spare held n 26 [v0,v1,v2,v3,v4]=some x0:=by
    have k:DataW.trod enc Tryz.prog w base spare held n 26 (List.take (Program.cellsOf Tryz.prog 26) (List.drop 0 [v0,v1,v2,v3,v4,v5,v6]))=some x0:=hf 0 _ rfl;rw [cA] at k;exact k
   have k1:DataW.trod enc Tryz.prog w base spare held n 27 [v5]=some x1:=by
    have k:DataW.trod enc Tryz.prog w base spare held n 27 (List.take (Program.cellsOf Tryz.prog 27) (List.drop 5 [v0,v1,v2,v3,v4,v5,v6]))=some x1:=hf 1 _ rfl;rw [cL] at k;exact k
   have k2:DataW.trod enc Tryz.prog w base spare held n 28 [v6]=some x2:=by
    have k:DataW.trod enc Tryz.prog w base spare held n 28 (List.take (Program.cellsOf Tryz.prog 28) (List.drop 6 [v0,v1,v2,v3,v4,v5,v6]))=some x2:=hf 2 _ rfl;rw [cS] at k;exact k
   obtain ⟨y,e0,r0,b0⟩:=trod_atom k0;obtain ⟨ba,bc,bd,e1,r1,b1⟩:=trod_atoms k1;obtain ⟨ta,tc,ts,e2,r2,b2⟩:=trod_tests k2;simp only [agC,atC,List.cons.injEq,and_true] at e0 e1 e2;obtain ⟨rfl,rfl,rfl,rfl,rfl⟩:=e0;subst e1;subst e2;refine ⟨⟨y,ba,bc,bd,ta,tc,ts⟩,rfl,⟨r0,r1,r2⟩,?_⟩;simp only [yA,yB,Rows.uptoBulk,Rows.uptoBulkAll,wtC];omega
set_option maxRecDepth 100000 in
theorem open_clause {v:Value}{d:DataW H}{p:List MemPlace}(hv:Value.okWide Tryz.prog w r b0 30 v)(h:DataW.Trod enc Tryz.prog w base spare held 30 v d p):
  ∃ g:CG,v=cgV g∧RC w g∧wtC g≤Rows.uptoBulk d:=by
 obtain ⟨fuel,hf⟩:=h;obtain ⟨g,e,h1,h2⟩:=trod_clause hf
 have ha:∃ cs,v=.agg cs:=by
  unfold Value.okWide at hv;rw [T.u30] at hv;cases v <;> simp_all
 obtain ⟨cs,rfl⟩:=ha;refine ⟨g,?_,h1,h2⟩;have e2:cs.toList=cgC g:=e;show Value.agg cs=Value.agg (cgC g).toArray;rw [show cs=(cgC g).toArray from by rw [← e2]]
theorem clause_ok {g:CG}(h:wtC g≤1048576):(∀ y,y=g.hd∨y∈g.bd→y.x.args.length≤1048576∧y.x.name.size≤1099511627776)∧g.bd.length≤1048576∧g.ts.length≤1048576:=by
 unfold wtC at h;have h1:=Jjg wtA (k:=1) (fun y=>by unfold wtA;omega) g.bd;refine ⟨fun y hy=>?_,by omega,by omega⟩;have h3:wtA y=y.x.name.size+y.x.args.length+7:=rfl;rcases hy with rfl | hy
 ·omega
 ·have h2:=le_sum wtA hy;omega
theorem none_laid {fuel:Nat}{cs:Array Value}{q:List MemPlace}(hg:Program.globalNamed Tryz.prog "hearsay/term.none"=some 1)(hv:w.var? Tryz.prog "hearsay/term.none"=some cs)(hd:DataW.trod enc Tryz.prog w base spare held fuel 23 cs.toList=some (Rows.laid_hearsay_term_none,q)):Jdi w:=by
 obtain ⟨t,e,_,_,ht⟩:=Jd0 hd
 have ht0:t=T0:=by
  simp only [Rows.laid_hearsay_term_none,DataW.agg.injEq,List.cons.injEq,DataW.lit.injEq,Lit.int.injEq,true_and,Lit.string.injEq,and_true] at ht;obtain ⟨h1,h2,h3⟩:=ht;obtain ⟨k,n,s⟩:=t;simp only at h1 h2 h3;subst h1;subst h2
  have:s=E0:=by
   obtain ⟨⟨l⟩⟩:=s;have h4:([]:List UInt8)=l:=h3;subst h4;rfl
  rw [this];rfl
 intro j v hj;rw [World.var?_cell hg hv j,← Array.getElem?_toList,e,ht0];exact hj
theorem Jd6 {fuel:Nat}{v:Value}{x:DataW (List UInt8) × List MemPlace}{b:UInt8}{s:List UInt8}{f0:FuncId}(hone:((List.range (Tryz.prog).funcs.size).filter fun f=>((Tryz.prog).funcs[f]?).any (·.name.toUTF8.data.toList == b::s))=[f0]) 
  (h:DataW.trod (funcToken Tryz.prog) Tryz.prog w 0 (fun _=>true) true fuel 200 [v]=some x) (hx:x.1=.agg [.held (b::s)]):v=.func (.func f0) #[] #[]:=by
 obtain ⟨xs,n,rfl,rfl,hl,hxs,hf⟩:=DataW.trod_struct T.u200 h;have c1:Program.cellsOf Tryz.prog 161=1:=by kernel_rfl
 match xs,hxs with
 | [x0],_=>
  have k:DataW.trod (funcToken Tryz.prog) Tryz.prog w 0 (fun _=>true) true n 161 (List.take (Program.cellsOf Tryz.prog 161) (List.drop 0 [v]))=some x0:=hf 0 _ rfl;rw [c1] at k;have k1:DataW.trod (funcToken Tryz.prog) Tryz.prog w 0 (fun _=>true) true n 161 [v]=some x0:=k;simp only [yA,yB,DataW.agg.injEq,List.cons.injEq,and_true] at hx;obtain ⟨d,q⟩:=x0;simp only at hx;subst hx;exact func_of_trod T.u161 hone k1
set_option maxRecDepth 100000 in
theorem checks_laid {d:DataW Unit}(hd:d.funcsOut=.agg [.agg [.held [104,101,97,114,115,97,121,47,99,108,97,117,115,101,46,116,111,111,76,111,110,103]],.agg [.held [104,101,97,114,115,97,121,47,99,108,97,117,115,101,46,98,97,100,65,116,111,109]],.agg [.held [104,101,97,114,115,97,121,47,99,108,97,117,115,101,46,98,97,100,84,101,115,116]],.agg [.held [104,101,97,114,115,97,121,47,99,108,97,117,115,101,46,111,112,101,110,72,101,97,100]],.agg [.held [104,101,97,114,115,97,121,47,99,108,97,117,115,101,46,117,110,115,97,102,101]],.agg [.held [104,101,97,114,115,97,121,47,99,108,97,117,115,101,46,109,105,115,110,117,109,98,101,114,101,100]]])(h:funcsAt Tryz.prog w "hearsay/clause.checks" d):Jfk w:=by
 obtain ⟨g,t,cs,fuel,p,hg,ht,hv,h⟩:=h;obtain rfl:=xH ((show Program.globalNamed Tryz.prog "hearsay/clause.checks"=some 3 by kernel_rfl).symm.trans hg);obtain rfl:=xH ((show ((Tryz.prog).globals[3]?).map (·.type)=some 201 by kernel_rfl).symm.trans ht);rw [hd] at h;obtain ⟨xs,m,rfl,hx,hl,hxl,hf⟩:=DataW.trod_array T.u201 h;have hl6:cs.toList.length=6:=by rw [hl];kernel_rfl
 have c1:Program.cellsOf Tryz.prog 200=1:=by kernel_rfl
 rw [c1] at hf;have hvc:=World.var?_cell hg hv;obtain ⟨l⟩:=cs;simp only at hl6 hf
 match l,hl6,xs,hxl with
 | [v0,v1,v2,v3,v4,v5],_,[x0,x1,x2,x3,x4,x5],_=>
  simp only [yA,yB,Prod.mk.injEq,DataW.agg.injEq,List.cons.injEq,and_true] at hx;obtain ⟨⟨h0,h1,h2,h3,h4,h5⟩,_⟩:=hx;obtain rfl:=Jd6 (f0:=315) (by kernel_rfl) (hf 0 (by omega):_=some x0) h0.symm;obtain rfl:=Jd6 (f0:=316) (by kernel_rfl) (hf 1 (by omega):_=some x1) h1.symm;obtain rfl:=Jd6 (f0:=317) (by kernel_rfl) (hf 2 (by omega):_=some x2) h2.symm;obtain rfl:=Jd6 (f0:=318) (by kernel_rfl) (hf 3 (by omega):_=some x3) h3.symm;obtain rfl:=Jd6 (f0:=319) (by kernel_rfl) (hf 4 (by omega):_=some x4) h4.symm;obtain rfl:=Jd6 (f0:=320) (by kernel_rfl) (hf 5 (by omega):_=some x5) h5.symm;intro j v hj;rw [hvc j,← Array.getElem?_toList];exact hj
end
theorem misF_iff (l:List Tm):(misF l).2=false→(misF l).1=((dedV l).length:Int)∧∀ (i:Nat) (t:Tm),(dedV l)[i]?=some t→t.n=(i:Int):=by
 induction l using Jds with
 | h0=>intro _;exact ⟨rfl,fun i t h=>by simp [dedV] at h⟩
 | h1 l t ih=>
  rw [Je2,Jdg];unfold misS
  by_cases hv:varB t=true
  ·rw [if_pos hv];intro h;simp only [Bool.or_eq_false_iff,decide_eq_false_iff_not] at h;obtain ⟨h1,h2⟩:=ih h.1;have h0:0≤t.n:=by unfold varB at hv;simp only [xY,decide_eq_true_eq] at hv;exact hv.1.2
   by_cases he:t.n=(misF l).1
   ·have hn:t∉dedV l:=fun hm=>by
     obtain ⟨i,hi⟩:=List.mem_iff_getElem?.1 hm;have h3:=h2 i t hi;have h4:=(List.getElem?_eq_some_iff.1 hi).1;omega
    rw [if_pos (show varB t=true∧t∉dedV l from ⟨hv,hn⟩)];refine ⟨by simp only [if_pos he,xL,xQ];omega,fun i u hi=>?_⟩;rcases Nat.lt_or_ge i (dedV l).length with h5 | h5
    ·rw [List.getElem?_append_left h5] at hi;exact h2 i u hi
    ·rw [List.getElem?_append_right h5] at hi;obtain ⟨h6,h7⟩:=List.getElem?_eq_some_iff.1 hi;simp only [xQ] at h6;have h8:i=(dedV l).length:=by omega
     subst h8;simp only [Nat.sub_self,List.getElem_cons_zero] at h7;rw [← h7,he,h1]
   ·have hlt:t.n<(misF l).1:=by omega
    obtain ⟨u,hu⟩:∃ u,(dedV l)[t.n.toNat]?=some u:=⟨_,xD (by omega)⟩
    have h3:=h2 _ u hu;have h4:=((Jgf l u).1 (xC hu)).2;have h5:u=t:=Jje h4 hv (by omega);have hm:t∈dedV l:=by rw [← h5];exact xC hu
    rw [if_neg (show ¬ (varB t=true∧t∉dedV l) from fun h=>h.2 hm)];exact ⟨by simp only [if_neg he];exact h1,h2⟩
  ·rw [if_neg hv,if_neg (show ¬ (varB t=true∧t∉dedV l) from fun h=>hv h.1)];exact ih
theorem Jik (c:Cl):err5 c=0↔∀ (i:Nat) (t:Tm),(dedV (Jcb c))[i]?=some t→t.n=(i:Int):=by
 unfold err5;constructor
 ·intro h
  have h2:(misF (Jcb c)).2=false:=by
   cases hb:(misF (Jcb c)).2 with
   | false=>rfl
   | true=>rw [hb] at h;simp at h
  exact (misF_iff _ h2).2
 ·intro h;rw [misF_ok _ h];rfl
theorem Jg0 (c:Cl):err4 c=0↔∀ t∈dedV (plc c.hd++Jbx c),t∈Jbu c:=by
 have key:uns (bodyI c) (plc c.hd++Jbx c)=false↔∀ t∈dedV (plc c.hd++Jbx c),t∈Jbu c:=by
  unfold uns;rw [List.any_eq_false];constructor
  ·intro h t ht;obtain ⟨h1,hv⟩:=(Jgf _ t).1 ht;have h2:=h t h1;rw [hv,Bool.true_and,Bool.not_eq_true',decide_eq_false_iff_not,Classical.not_not] at h2;obtain ⟨u,hu,huv,hun⟩:=mem_vnums.1 (mem_bodyI.1 h2);rw [← Jje huv hv hun];exact hu
  ·intro h t ht;cases hv:varB t with
   | false=>simp
   | true=>
    have h1:=h t ((Jgf _ t).2 ⟨ht,hv⟩);have h2:t.n∈bodyI c:=mem_bodyI.2 (mem_vnums.2 ⟨t,h1,hv,rfl⟩);simp [h2]
 unfold err4;rw [← key];cases uns (bodyI c) (plc c.hd++Jbx c) <;> simp
theorem err0_pos {c:Cl}(h:8<c.bd.length∨8<c.ts.length):chkC c=31:=by
 have h1:err0 c=31:=by unfold err0;rw [if_pos h]
 exact Jeo (i:=0) (by unfold errL;rw [h1];rfl) (by decide) (fun u hu=>by simp at hu)
theorem err0_neg {c:Cl}(h:¬ (8<c.bd.length∨8<c.ts.length)):err0 c=0:=by unfold err0;rw [if_neg h]
theorem chkA_ne {c:Cl}(h0:err0 c=0){i:Nat}{x:At}(hx:(c.hd::c.bd)[i]?=some x)(hn:∀ y∈(c.hd::c.bd).take i,chkA y=0)(he:chkA x≠0):chkC c=chkA x:=by
 have h1:err1 c=chkA x:=by
  unfold err1
  exact Jeo (l:=(c.hd::c.bd).map chkA) (i:=i) (by rw [xG,hx];rfl) he (fun u hu=>by
   rw [← List.map_take] at hu;obtain ⟨y,hy,rfl⟩:=List.mem_map.1 hu;exact hn y hy)
 exact Jeo (i:=1) (by unfold errL;rw [h1];rfl) he (fun u hu=>by simp [errL] at hu;rw [hu,h0])
theorem err1_nil {c:Cl}(h:∀ y∈c.hd::c.bd,chkA y=0):err1 c=0:=by
 unfold err1
 exact Jfg (l:=(c.hd::c.bd).map chkA) fun u hu=>by
  obtain ⟨y,hy,rfl⟩:=List.mem_map.1 hu;exact h y hy
theorem chk2 {c:Cl}(h0:err0 c=0)(h1:err1 c=0){t:Ts}(ht:t∈c.ts)(hb:¬ tstB t=true):chkC c=32:=by
 have h2:err2 c=32:=by unfold err2;rw [if_neg (fun h=>hb (List.all_eq_true.1 h t ht))]
 exact Jeo (i:=2) (by unfold errL;rw [h2];rfl) (by decide) (fun u hu=>by simp [errL] at hu;rcases hu with h | h <;> rw [h] <;> assumption)
theorem err2_zero {c:Cl}(h:∀ t∈c.ts,tstB t=true):err2 c=0:=by unfold err2;rw [if_pos (List.all_eq_true.2 h)]
theorem hd_kind {x:At}(h:chkA x=0):x.b.kind=3↔varB x.b=true:=by
 have h1:=(chkA_zero.1 h).2.2.1;constructor
 ·intro hk;rcases h1 with h2 | h2 | h2
  ·rw [h2] at hk;cases hk
  ·unfold prinB at h2;simp only [xY,decide_eq_true_eq] at h2;omega
  ·exact h2
 ·intro hv;unfold varB at hv;simp only [xY,decide_eq_true_eq] at hv;exact hv.1.1
theorem chk3 {c:Cl}(h0:err0 c=0)(h1:err1 c=0)(h2:err2 c=0)(h:varB c.hd.b=true):chkC c=33:=by
 have h3:err3 c=33:=by unfold err3;rw [if_pos h]
 exact Jeo (i:=3) (by unfold errL;rw [h3];rfl) (by decide) (fun u hu=>by simp [errL] at hu;rcases hu with h | h | h <;> rw [h] <;> assumption)
theorem chk4 {c:Cl}(h0:err0 c=0)(h1:err1 c=0)(h2:err2 c=0)(h3:¬ varB c.hd.b=true){t:Tm}(ht:t∈dedV (plc c.hd++Jbx c))(hn:t∉Jbu c):chkC c=34:=by
 have h3':err3 c=0:=by unfold err3;rw [if_neg h3]
 have h4:err4 c=34:=by
  have h5:err4 c≠0:=fun h=>hn ((Jg0 c).1 h t ht)
  unfold err4 at h5 ⊢
  split
  ·rfl
  ·rename_i h6;rw [if_neg h6] at h5;exact absurd rfl h5
 exact Jeo (i:=4) (by unfold errL;rw [h4];rfl) (by decide) (fun u hu=>by simp [errL] at hu;rcases hu with h | h | h | h <;> rw [h] <;> assumption)
theorem chk5 {c:Cl}(h0:err0 c=0)(h1:err1 c=0)(h2:err2 c=0)(h3:¬ varB c.hd.b=true)(h4:∀ t∈dedV (plc c.hd++Jbx c),t∈Jbu c){i:Nat}{t:Tm}(ht:(dedV (Jcb c))[i]?=some t)(hn:t.n≠(i:Int)):chkC c=35:=by
 have h3':err3 c=0:=by unfold err3;rw [if_neg h3]
 have h4':err4 c=0:=(Jg0 c).2 h4
 have h5:err5 c=35:=by
  have h5:err5 c≠0:=fun h=>hn ((Jik c).1 h i t ht)
  unfold err5 at h5 ⊢
  split
  ·rfl
  ·rename_i h6;rw [if_neg h6] at h5;exact absurd rfl h5
 exact Jeo (i:=5) (by unfold errL;rw [h5];rfl) (by decide) (fun u hu=>by simp [errL] at hu;rcases hu with h | h | h | h | h <;> rw [h] <;> assumption)
theorem chk6 {c:Cl}(h0:err0 c=0)(h1:err1 c=0)(h2:err2 c=0)(h3:¬ varB c.hd.b=true)(h4:∀ t∈dedV (plc c.hd++Jbx c),t∈Jbu c)(h5:∀ (i:Nat) (t:Tm),(dedV (Jcb c))[i]?=some t→t.n=(i:Int)):chkC c=0:=by
 have h3':err3 c=0:=by unfold err3;rw [if_neg h3]
 exact Jfg fun u hu=>by
  simp [errL] at hu;rcases hu with h | h | h | h | h | h <;> rw [h]
  ·exact h0
  ·exact h1
  ·exact h2
  ·exact h3'
  ·exact (Jg0 c).2 h4
  ·exact (Jik c).2 h5
theorem VC.of_chk {c:Cl}(h:chkC c=0):VC c:=by
 have hz:∀ u∈errL c,u=0:=fun u hu=>by
  unfold chkC fstE at h;cases hf:(errL c).find? fun e=>e != 0 with
  | none=>have:=List.find?_eq_none.1 hf u hu;simpa using this
  | some e=>
   rw [hf] at h;have h1:=List.find?_some hf;simp only [Option.getD_some] at h;rw [h] at h1;simp at h1
 have e0:err0 c=0:=hz _ (by simp [errL]);have e1:err1 c=0:=hz _ (by simp [errL]);have e2:err2 c=0:=hz _ (by simp [errL]);have e3:err3 c=0:=hz _ (by simp [errL]);have e4:err4 c=0:=hz _ (by simp [errL]);have e5:err5 c=0:=hz _ (by simp [errL]);have h0:¬ (8<c.bd.length∨8<c.ts.length):=fun k=>by unfold err0 at e0;rw [if_pos k] at e0;cases e0
 have h1:∀ y∈c.hd::c.bd,chkA y=0:=fun y hy=>by
  unfold err1 at e1;cases hf:((c.hd::c.bd).map chkA).find? fun e=>e != 0 with
  | none=>have:=List.find?_eq_none.1 hf (chkA y) (List.mem_map.2 ⟨y,hy,rfl⟩);simpa using this
  | some e=>
   rw [hf] at e1;have h2:=List.find?_some hf;simp only [Option.getD_some] at e1;rw [e1] at h2;simp at h2
 have h3:varB c.hd.b=false:=by
  unfold err3 at e3;cases hv:varB c.hd.b with
  | false=>rfl
  | true=>rw [hv] at e3;simp at e3
 exact ⟨by omega,by omega,h1 _ (by simp),fun a ha=>h1 a (by simp [ha]),fun t ht=>by
  by_cases hb:tstB t=true
  ·exact hb
  ·exfalso;unfold err2 at e2;rw [if_neg (fun h=>hb (List.all_eq_true.1 h t ht))] at e2;exact absurd e2 (by decide),h3,fun t ht hv=>(Jg0 c).1 e4 t ((Jgf _ t).2 ⟨ht,hv⟩),(Jik c).1 e5⟩
theorem Jbv (t:Ts)(w:World):Calls Tryz.prog 138 #[tsV t] w fun e w'=>e=.returned (.int .i64 (if tstB t=true then 0 else 32))∧Fr0 w w':=by
 refine Jbi (args:=[tsV t]) (fun _=>False) Tryz.func138 rfl Tryz.ntmps138 rfl rfl ?_;refine Csr (WL.box rfl rfl rfl ?_);intro b1;refine Za rfl (Nn (Cs ?_));refine WC.fw [(1,yX b1),(3,.bool (Jcn t.l || varB t.l))] (Sat0 w (oQ b1 (tsC t) 85::[])) ?_ ?_
 ·refine Cr ?_
  first
  | (refine WL.val (OV.f0 1 rfl T.u85 rfl) rfl ?_;trace "ALT Jbv#0 d61bba88 0")
  | (refine WL.val (OV.ag (off:=1) rfl T.u85 rfl) rfl ?_;trace "ALT Jbv#0 d61bba88 1")
  refine Zv (OV.am (cs:=tmC t.l) rfl T.u23 rfl T.z23 (fun _ hw j v hj=>by rw [Jav];exact Jbk hw yF (o:=1) (cs':=tmC t.l) rfl j v hj)) (WL.aw (v:=.bool (Jcn t.l)) (by kernel_rfl) rfl rfl (fun w' hw'=>Jcw t.l w') ?_);refine Zm rfl ?_;refine Zp (t:=8) rfl (fun g8=>?_) (fun g8=>?_)
  ·refine yV (yV (yV (Zv (OV.ak rfl rfl) (Za rfl (Nl ?_)))));exact WX.dt ⟨rfl,by simp only [g8,Bool.true_or];rfl,trivial⟩ (fun w' hw=>hw)
  refine yW ?_
  first
  | (refine WL.val (OV.f0 1 rfl T.u85 rfl) rfl ?_;trace "ALT Jbv#1 d61bba88 0")
  | (refine WL.val (OV.ag (off:=1) rfl T.u85 rfl) rfl ?_;trace "ALT Jbv#1 d61bba88 1")
  refine yW (Zv (OV.am (cs:=tmC t.l) rfl T.u23 rfl T.z23 (fun _ hw j v hj=>by rw [Jav];exact Jbk hw yF (o:=1) (cs':=tmC t.l) rfl j v hj)) (yW (WL.aw (v:=.bool (varB t.l)) (by kernel_rfl) rfl rfl (fun w' hw'=>Jcv t.l w') ?_)));refine Zv (OV.ai rfl rfl) (Za rfl (Nl ?_));exact WX.dt ⟨rfl,by simp only [g8,Bool.false_or];rfl,trivial⟩ (fun w' hw=>hw)
 refine Cs ?_;refine WC.fw [(1,yX b1),(3,.bool (Jcn t.l || varB t.l)),(4,.bool (Jcn t.r || varB t.r))] (Sat0 w (oQ b1 (tsC t) 85::[])) ?_ ?_
 ·refine Cr ?_
  first
  | (refine WL.val (OV.f0 4 rfl T.u85 rfl) rfl ?_;trace "ALT Jbv#2 58177b57 0")
  | (refine WL.val (OV.ag (off:=4) rfl T.u85 rfl) rfl ?_;trace "ALT Jbv#2 58177b57 1")
  refine Zv (OV.am (cs:=tmC t.r) rfl T.u23 rfl T.z23 (fun _ hw j v hj=>by rw [Jav];exact Jbk hw yF (o:=4) (cs':=tmC t.r) rfl j v hj)) (WL.aw (v:=.bool (Jcn t.r)) (by kernel_rfl) rfl rfl (fun w' hw'=>Jcw t.r w') ?_);refine Zm rfl ?_;refine Zp (t:=16) rfl (fun g16=>?_) (fun g16=>?_)
  ·refine yV (yV (yV (Zv (OV.ak rfl rfl) (Za rfl (Nl ?_)))));exact WX.dt ⟨rfl,rfl,by simp only [g16,Bool.true_or];rfl,trivial⟩ (fun w' hw=>hw)
  refine yW ?_
  first
  | (refine WL.val (OV.f0 4 rfl T.u85 rfl) rfl ?_;trace "ALT Jbv#3 58177b57 0")
  | (refine WL.val (OV.ag (off:=4) rfl T.u85 rfl) rfl ?_;trace "ALT Jbv#3 58177b57 1")
  refine yW (Zv (OV.am (cs:=tmC t.r) rfl T.u23 rfl T.z23 (fun _ hw j v hj=>by rw [Jav];exact Jbk hw yF (o:=4) (cs':=tmC t.r) rfl j v hj)) (yW (WL.aw (v:=.bool (varB t.r)) (by kernel_rfl) rfl rfl (fun w' hw'=>Jcv t.r w') ?_)));refine Zv (OV.ai rfl rfl) (Za rfl (Nl ?_));exact WX.dt ⟨rfl,rfl,by simp only [g16,Bool.false_or];rfl,trivial⟩ (fun w' hw=>hw)
 refine Cs (Csr ?_)
 first
 | (refine WL.val (OV.f0 0 rfl T.u85 rfl) rfl ?_;trace "ALT Jbv#4 182ae830 0")
 | (refine WL.val (OV.ag (off:=0) rfl T.u85 rfl) rfl ?_;trace "ALT Jbv#4 182ae830 1")
 refine Zv (OV.l1 (v:=.int .i64 t.op) rfl T.u3 rfl yF rfl) (Zv (OV.cu rfl rfl) (Zm rfl ?_));refine Zp (t:=24) rfl (fun g24=>?_) (fun g24=>?_)
 ·refine yV (yV (yV (Zv (OV.ak rfl rfl) (Zm rfl (yV (yV (Zv (OV.ak rfl rfl) (Zm rfl (yV (yV (Zv (OV.ak rfl rfl) (Nn (WC.cm rfl ?_)))))))))))));refine Csr (Za rfl (Nn (WC.ay ?_)));refine Xr ?_;exact WX.ret1 rfl rfl rfl (fun w' hw=>⟨by clear hw;unfold tstB;simp_all <;> omega,hw.fr⟩)
 refine yW ?_
 first
 | (refine WL.val (OV.f0 0 rfl T.u85 rfl) rfl ?_;trace "ALT Jbv#5 182ae830 0")
 | (refine WL.val (OV.ag (off:=0) rfl T.u85 rfl) rfl ?_;trace "ALT Jbv#5 182ae830 1")
 refine yW (Zv (OV.l1 (v:=.int .i64 t.op) rfl T.u3 rfl yF rfl) (yW (Zv (OV.ia rfl rfl) (Zv (OV.ai rfl rfl) (Zm rfl ?_)))));refine Zp (t:=29) rfl (fun g29=>?_) (fun g29=>?_)
 ·refine yV (yV (Zv (OV.ak rfl rfl) (Zm rfl (yV (yV (Zv (OV.ak rfl rfl) (Nn (WC.cm rfl ?_))))))));refine Csr (Za rfl (Nn (WC.ay ?_)));refine Xr ?_;exact WX.ret1 rfl rfl rfl (fun w' hw=>⟨by clear hw;unfold tstB;simp_all <;> omega,hw.fr⟩)
 refine yW (Zm rfl (yW (Zv (OV.not rfl) (Zv (OV.ai rfl rfl) (Zm rfl ?_)))));refine Zp (t:=33) rfl (fun g33=>?_) (fun g33=>?_)
 ·refine yV (yV (Zv (OV.ak rfl rfl) (Nn (WC.cm rfl ?_))));refine Csr (Za rfl (Nn (WC.ay ?_)));refine Xr ?_;exact WX.ret1 rfl rfl rfl (fun w' hw=>⟨by clear hw;unfold tstB;simp_all <;> omega,hw.fr⟩)
 refine yW (Zm rfl (yW (Zv (OV.not rfl) (Zv (OV.ai rfl rfl) (Nn ?_)))));refine Cc rfl (fun c36=>?_) (fun c36=>?_)
 ·refine Csr (Za rfl (Nn (WC.ay ?_)));refine Xr ?_;exact WX.ret1 rfl rfl rfl (fun w' hw=>⟨by clear hw;unfold tstB;simp_all <;> omega,hw.fr⟩)
 refine Ck (Xn (Csr (Za rfl (Nn (WC.ay ?_)))));exact WX.ret1 rfl rfl rfl (fun w' hw=>⟨by clear hw;unfold tstB;simp_all <;> omega,hw.fr⟩)
theorem Src.of_ra {a:Option Addr}{ys:List AG}{S:World→Prop}(hn:a=none→ys.length=0)(h:∀ w,S w→RA w a ys):Src S a ys.length 5 (ys.flatMap agC):=by
 refine ⟨by rw [Jcp Jgj],hn,fun w hw q hq j v hj=>?_⟩;have hlen:j<ys.length*5:=by have:=(List.getElem?_eq_some_iff.1 hj).1;rwa [Jcp Jgj] at this
 have hi:j / 5<ys.length:=by omega
 obtain ⟨y,hy⟩:∃ y,ys[j / 5]?=some y:=⟨_,xD hi⟩
 have h1:=Jcq Jgj ys (j / 5) (j % 5) y hy (by omega);rw [show j / 5*5+j % 5=j by omega,hj] at h1;have h2:=(h w hw).at_ q hq (j / 5) y hy (j % 5) v h1.symm;rw [← Jdz,show j / 5*5+j % 5=j by omega] at h2;exact h2
set_option maxHeartbeats 4000000 in
theorem Jao (g:CG)(hs:CS g)(w:World)(hr:RC w g):Calls Tryz.prog 95 #[cgV g] w fun e w'=>e=.returned (.int .i64 (chkC g.cl))∧Fr0 w w':=by
 have hbl:g.cl.bd.length=g.bd.length:=xE _;have htl2:g.cl.ts.length=g.ts.length:=rfl;have hlc:(g.hd::g.bd).length=g.bd.length+1:=rfl;have hcl:g.cl.hd::g.cl.bd=(g.hd::g.bd).map AG.x:=rfl;have hsb:=hs.bl;have hst:=hs.tt;have htt0:(Jcb g.cl).length=(plc g.hd.x).length+((Jbu g.cl).length+(Jbx g.cl).length):=by unfold Jcb;simp only [xL];rfl
 have hbt:(Jbu g.cl).length≤1048576:=by omega
 have hhs:=(hs.at_ g.hd (Or.inl rfl)).1
 have htl3:(Jbx g.cl).length=g.ts.length*2:=by
  unfold Jbx;show (g.ts.flatMap plT).length=_;rw [List.length_flatMap]
  induction g.ts with
  | nil=>rfl
  | cons t l ih=>rw [yA,List.sum_cons,ih,List.length_cons];show 2+_=_;omega
 have hargs:∀ y∈g.hd::g.bd,RT w y.a y.x.args:=fun y hy=>by
  rcases List.mem_cons.1 hy with rfl | h
  ·exact hr.hd
  ·exact hr.bd.args y h
 refine Jbi (args:=[cgV g]) (fun _=>False) Tryz.func95 rfl Tryz.ntmps95 rfl rfl ?_;refine Csr (WL.box rfl rfl rfl ?_);intro b1;refine Za rfl (Nn (Cs (Csr ?_)))
 first
 | (refine WL.val (OV.f0 5 rfl T.u30 rfl) rfl ?_;trace "ALT Jao#0 75ec517c 0")
 | (refine WL.val (OV.ag (off:=5) rfl T.u30 rfl) rfl ?_;trace "ALT Jao#0 75ec517c 1")
 refine Zv (OV.l1 (v:=.slice g.ba g.bd.length g.bc) rfl T.u27 rfl yF rfl) ?_
 first
 | (refine WL.val (OV.ad rfl T.u27) rfl ?_;trace "ALT Jao#1 c04edde8 0")
 | (refine WL.val (OV.bg rfl T.u27) rfl ?_;trace "ALT Jao#1 c04edde8 1")
 refine Zv (OV.ia rfl rfl) (Zm rfl ?_);refine Zp (t:=18) rfl (fun g18=>?_) (fun g18=>?_)
 ·refine yV (yV (yV (yV (Zv (OV.ak rfl rfl) (Nn (WC.cm (show _=some (Value.bool true) from by rfl) ?_))))));refine Csr (Za rfl (Nn (WC.ay ?_)));refine Xr ?_;exact WX.ret1 rfl rfl rfl (fun w' hw=>⟨by rw [err0_pos (c:=g.cl) (Or.inl (by omega))],hw.fr⟩)
 refine yW ?_
 first
 | (refine WL.val (OV.f0 6 rfl T.u30 rfl) rfl ?_;trace "ALT Jao#2 13d2c21b 0")
 | (refine WL.val (OV.ag (off:=6) rfl T.u30 rfl) rfl ?_;trace "ALT Jao#2 13d2c21b 1")
 refine yW (Zv (OV.l1 (v:=.slice g.ta g.ts.length g.tc) rfl T.u28 rfl yF rfl) (yW ?_))
 first
 | (refine WL.val (OV.ad rfl T.u28) rfl ?_;trace "ALT Jao#3 c04edde8 0")
 | (refine WL.val (OV.bg rfl T.u28) rfl ?_;trace "ALT Jao#3 c04edde8 1")
 refine yW (Zv (OV.ia rfl rfl) (Zv (OV.ai rfl rfl) (Nn ?_)));refine Cc rfl (fun c23=>?_) (fun c23=>?_)
 ·refine Csr (Za rfl (Nn (WC.ay ?_)));refine Xr ?_;exact WX.ret1 rfl rfl rfl (fun w' hw=>⟨by rw [err0_pos (c:=g.cl) (Or.inr (by omega))],hw.fr⟩)
 refine Ck (Xn (Cs ?_));have e0:err0 g.cl=0:=err0_neg (by rw [hbl,htl2];omega);refine Cr ?_
 first
 | (refine WL.val (OV.f0 0 rfl T.u30 rfl) rfl ?_;trace "ALT Jao#4 182ae830 0")
 | (refine WL.val (OV.ag (off:=0) rfl T.u30 rfl) rfl ?_;trace "ALT Jao#4 182ae830 1")
 refine Zv (OV.am (cs:=agC g.hd) rfl T.u26 rfl T.z26 (fun _ hw j v hj=>by rw [Jav];exact Jbk hw yF (o:=0) (cs':=agC g.hd) rfl j v hj)) (WL.bo (cs:=agC g.hd) T.u27 T.z26 T.zr26 rfl rfl (by omega) (by omega) rfl ?_);intro b26;refine WL.weak (S':=Sat0 w (row 26 5 (some ⟨b26,0,none⟩) 1 1 (agC g.hd)::oQ b1 (cgC g) 30::[])) (fun w' hw=>hw.asRow (m:=1) rfl (by decide)) ?_;refine Za rfl (Nn (Csr (Zm rfl ?_)))
 first
 | (refine WL.val (OV.f0 5 rfl T.u30 rfl) rfl ?_;trace "ALT Jao#5 75ec517c 0")
 | (refine WL.val (OV.ag (off:=5) rfl T.u30 rfl) rfl ?_;trace "ALT Jao#5 75ec517c 1")
 refine Zv (OV.l1 (v:=.slice g.ba g.bd.length g.bc) rfl T.u27 rfl yG rfl) (WL.append (news:=g.bd.flatMap agC) rfl rfl T.apA (fun _ _=>Src.of_ra hr.bd.nil (fun _ hw=>hr.bd.keeps hw.keeps)) (ags_one _) ⟨by omega,by unfold maxLen;omega⟩ rfl ?_);intro za zc;rw [show agC g.hd++g.bd.flatMap agC=(g.hd::g.bd).flatMap agC from rfl,show 1+g.bd.length=(g.hd::g.bd).length by simp;omega];refine Za rfl (Nn (Cs (Csr (Za rfl (Nn (Cb ?_))))))
 refine WC.bz (fun (i:Nat)=>[(1,yX b1),(3,.slice za (g.hd::g.bd).length zc),(4,.int .i64 (i:Int))])
   (fun i w'=>(i≤(g.hd::g.bd).length∧∀ y∈(g.cl.hd::g.cl.bd).take i,chkA y=0)∧Sat0 w (rowAt za zc (g.hd::g.bd)::oQ b1 (cgC g) 30::[]) w')
   (fun i=>(g.hd::g.bd).length - i) 0 Y3 (fun w' hw=>⟨⟨by omega,fun y hy=>by simp at hy⟩,hw⟩) ?_
 intro i;refine WC.pure (fun hi=>?_);obtain ⟨hi,hz⟩:=hi;refine Cs (Csr (Zm rfl (Zm rfl ?_)))
 first
 | (refine WL.val (OV.ad rfl T.u27) rfl ?_;trace "ALT Jao#6 c04edde8 0")
 | (refine WL.val (OV.bg rfl T.u27) rfl ?_;trace "ALT Jao#6 c04edde8 1")
 refine Zv (OV.cu rfl rfl) (Nn ?_);refine Cc rfl (fun c34=>?_) (fun c34=>?_)
 ·refine Ck (Xn (Cs (Cb (Cs ?_))));have hx9:True:=trivial;refine Cr (Zm rfl (Zm rfl ?_));obtain ⟨y,hy⟩:∃ y,(g.hd::g.bd)[i]?=some y:=⟨_,xD (by omega)⟩
  have hym:=xC hy;have hys:y.x.args.length≤1048575∧y.x.name.size≤1099511627776:=hs.at_ y (by simpa using hym);refine WL.fj (fun w' hw'=>(Jdl (show Sat0 w (rowAt za zc (g.hd::g.bd)::oQ b1 (cgC g) 30::[]) w' from hw') yF).2) (fun hbq=>?_)
  obtain ⟨q8,hq8⟩:∃ q8,za=some q8:=by
   rcases hbq with ⟨_,h,_⟩ | ⟨b,hb9,_⟩
   ·simp at h
   ·exact ⟨_,hb9⟩
  refine Zv ((OV.ae (show _=some (Value.slice (some q8) (g.hd::g.bd).length zc) by rw [← hq8];rfl) rfl T.u27 T.z26 (by omega)).cast (u:=.pointer (some (q8.add (i*5)))) (by rw [xN])) ?_;refine WL.val (OV.am (cs:=agC y) rfl T.u26 rfl T.z26 (fun w' hw' j v hj=>by have h:=Jem (show Sat0 w (rowAt za zc (g.hd::g.bd)::oQ b1 (cgC g) 30::[]) w' from hw') hq8 yF (i*5+j) v (by rw [Jcq Jgj (g.hd::g.bd) i j y hy (by have:=(List.getElem?_eq_some_iff.1 hj).1;exact this),hj]);rwa [Jdz] at h)) rfl ?_;refine WL.aw (v:=.int .i64 (chkA y.x)) (by kernel_rfl) rfl rfl (fun w' hw'=>refChk_calls y.x y.a y.c (by omega) hys.2 w' ((hargs y hym).keeps hw'.keeps)) ?_;refine Za rfl (Nn (Cs ?_));have hyc:(g.cl.hd::g.cl.bd)[i]?=some y.x:=by rw [hcl,xG,hy];rfl
  refine Cr (Zm rfl (Zv (OV.fb rfl rfl) (Nn ?_)));refine Cc rfl (fun c43=>?_) (fun c43=>?_)
  ·refine Csr (Zm rfl (Za rfl (Nn (WC.ay ?_))));refine Xq (Xr (Xr (Xq (Xr ?_))));exact WX.ret1 rfl rfl rfl (fun w' hw=>⟨by rw [chkA_ne e0 hyc hz (by simpa using c43)],hw.fr⟩)
  refine Ck (Xb (Xn (Cr (Zm rfl (Zv (OV.bh (j:=1) rfl rfl (by omega)) (Za rfl (Nl ?_)))))))
  exact WX.au (i+1) Y3 (fun w' hw=>⟨⟨by omega,fun z hzz=>by
   rw [Jb1 hyc] at hzz;rcases List.mem_append.1 hzz with h1 | h1
   ·exact hz z h1
   ·simp only [xI] at h1;rw [h1];simpa using c43⟩,hw⟩) (by show (g.hd::g.bd).length - (i+1)<(g.hd::g.bd).length - i;omega)
 refine Ce (Xe (Xe (Xh (Xn (Cs (Csr (Za rfl (Nn (Cb ?_)))))))));have hi0:=hi;refine WC.weak (S':=Sat0 w (oQ b1 (cgC g) 30::[])) (fun w' hw=>hw.pik [[rowAt za zc (g.hd::g.bd)],[oQ b1 (cgC g) 30]] [1] 2) ?_
 refine WC.bz (fun (j:Nat)=>[(1,yX b1),(6,.int .i64 (j:Int))])
   (fun j w'=>(j≤g.ts.length∧∀ t∈g.ts.take j,tstB t=true)∧Sat0 w (oQ b1 (cgC g) 30::[]) w')
   (fun j=>g.ts.length - j) 0 Y2 (fun w' hw=>⟨⟨by omega,fun y hy=>by simp at hy⟩,hw⟩) ?_
 intro j;refine WC.pure (fun hi=>?_);obtain ⟨hj,hz2⟩:=hi;refine Cs (Csr (Zm rfl ?_))
 first
 | (refine WL.val (OV.f0 6 rfl T.u30 rfl) rfl ?_;trace "ALT Jao#7 13d2c21b 0")
 | (refine WL.val (OV.ag (off:=6) rfl T.u30 rfl) rfl ?_;trace "ALT Jao#7 13d2c21b 1")
 refine Zv (OV.l1 (v:=.slice g.ta g.ts.length g.tc) rfl T.u28 rfl yF rfl) ?_
 first
 | (refine WL.val (OV.ad rfl T.u28) rfl ?_;trace "ALT Jao#8 c04edde8 0")
 | (refine WL.val (OV.bg rfl T.u28) rfl ?_;trace "ALT Jao#8 c04edde8 1")
 refine Zv (OV.cu rfl rfl) (Nn ?_);refine Cc rfl (fun c49=>?_) (fun c49=>?_)
 ·refine Ck (Xn (Cs (Cb (Csr ?_))))
  first
  | (refine WL.val (OV.f0 6 rfl T.u30 rfl) rfl ?_;trace "ALT Jao#9 13d2c21b 0")
  | (refine WL.val (OV.ag (off:=6) rfl T.u30 rfl) rfl ?_;trace "ALT Jao#9 13d2c21b 1")
  refine Zv (OV.l1 (v:=.slice g.ta g.ts.length g.tc) rfl T.u28 rfl yF rfl) (Zm rfl ?_);obtain ⟨q1,t,hq,ht,htm,hc⟩:=hr.ts.get (i:=j) (by omega);refine Zv ((OV.ae (show _=some (Value.slice (some q1) g.ts.length g.tc) by rw [← hq];rfl) rfl T.u28 T.z85 (by omega)).cast (u:=.pointer (some (q1.add (j*7)))) (by rw [xN])) (Zv (OV.am (cs:=tsC t) rfl T.u85 rfl T.z85 (fun _ hw j v hj=>hw.keeps _ _ (hc j v hj))) (WL.aw (v:=.int .i64 (if tstB t=true then 0 else 32)) (by kernel_rfl) rfl rfl (fun w' hw'=>Jbv t w') ?_));refine Za rfl (Nn (Csr (Zm rfl (Zv (OV.fb rfl rfl) (Nn ?_)))));refine Cc rfl (fun c59=>?_) (fun c59=>?_)
  ·refine Csr (Zm rfl (Za rfl (Nn (WC.ay ?_))));refine Xq (Xr (Xr (Xq (Xr ?_))));have hb:¬ tstB t=true:=fun h=>c59 (by rw [if_pos h])
   have e1:err1 g.cl=0:=err1_nil fun y hy=>hz y (by rw [xK (by simp at hi0 ⊢;have:=hbl;omega)];exact hy)
   exact WX.ret1 rfl rfl rfl (fun w' hw=>⟨by rw [chk2 e0 e1 htm hb,if_neg hb],hw.fr⟩)
  refine Ck (Xb (Xn (Cr (Zm rfl (Zv (OV.bh (j:=1) rfl rfl (by omega)) (Za rfl (Nl ?_)))))))
  exact WX.au (j+1) Y2 (fun w' hw=>⟨⟨by omega,fun z hzz=>by
   rw [Jb1 ht] at hzz;rcases List.mem_append.1 hzz with h1 | h1
   ·exact hz2 z h1
   ·simp only [xI] at h1;rw [h1];by_cases h2:tstB t=true;exact h2;rw [if_neg h2] at c59;exact absurd c59 (by decide)⟩,hw⟩) (by show g.ts.length - (j+1)<g.ts.length - j;omega)
 refine Ce (Xe (Xe (Xh (Xn (Cs (Cs ?_))))));have e1:err1 g.cl=0:=err1_nil fun y hy=>hz y (by rw [xK (by simp at hi hi0 ⊢;omega)];exact hy)
 have e2:err2 g.cl=0:=err2_zero fun t ht=>hz2 t (by rw [xK (by omega)];exact ht)
 have hhd:chkA g.hd.x=0:=hz g.hd.x (by simp at hi0;rw [xK (by simp;omega)];exact .head _);have hk3:=hd_kind hhd;refine Cr ?_
 first
 | (refine WL.val (OV.f0 0 rfl T.u30 rfl) rfl ?_;trace "ALT Jao#10 182ae830 0")
 | (refine WL.val (OV.ag (off:=0) rfl T.u30 rfl) rfl ?_;trace "ALT Jao#10 182ae830 1")
 first
 | (refine WL.val (OV.f0 0 rfl T.u26 rfl) rfl ?_;trace "ALT Jao#11 182ae830 0")
 | (refine WL.val (OV.ag (off:=0) rfl T.u26 rfl) rfl ?_;trace "ALT Jao#11 182ae830 1")
 first
 | (refine WL.val (OV.f0 0 rfl T.u23 rfl) rfl ?_;trace "ALT Jao#12 182ae830 0")
 | (refine WL.val (OV.ag (off:=0) rfl T.u23 rfl) rfl ?_;trace "ALT Jao#12 182ae830 1")
 refine Zv (OV.l1 (v:=.int .i64 g.hd.x.b.kind) rfl T.u3 rfl yF rfl) (Zv (OV.dq rfl rfl) (Nn ?_));refine Cc rfl (fun c65=>?_) (fun c65=>?_)
 ·refine Csr (Za rfl (Nn (WC.ay ?_)));refine Xr ?_;exact WX.ret1 rfl rfl rfl (fun w' hw=>⟨by rw [chk3 e0 e1 e2 (hk3.1 c65)],hw.fr⟩)
 refine Ck (Xn (Csr (Zv (OV.lN (cs:=cgC g) rfl T.u30 rfl T.z30 yF) (WL.dh (ι:=Option Addr × Nat) (vv:=fun z=>.slice z.1 (Jbu g.cl).length z.2) (pp:=fun _=>True) [] (AA:=fun z=>[rowT z.1 z.2 (Jbu g.cl)]) rfl (by kernel_rfl) rfl rfl (fun w' hw' _=>(bodyTerms_calls g hbt hs.bl w' (hr.keeps hw'.keeps)).mono (fun en w'' ⟨z,h1,h2⟩=>⟨z,h1,trivial,h2⟩)) ?_))));rintro ⟨ba,bc⟩ _;refine Za rfl (Nn (Cs (Hd (fun w'=>w'.heap[b1]?=some (.cells (cgC g).toArray 30 (0,0))) [] (fun _ hw=>hw.it (oQ b1 (cgC g) 30) (by simp)) (m:=7) rfl ?_)))
 first
 | (refine Hf 0 rfl (OV.f0 0 rfl T.u30 rfl) ?_;trace "ALT Jao#13 182ae830 0")
 | (refine Hf 0 rfl (OV.ag (off:=0) rfl T.u30 rfl) ?_;trace "ALT Jao#13 182ae830 1")
 refine Ht 1 rfl (OV.am (cs:=agC g.hd) rfl T.u26 rfl T.z26 (fun _ hw j v hj=>by rw [Jav];exact Jcz hw (o:=0) (cs':=agC g.hd) rfl j v hj)) (Ht 3 rfl (OV.am (cs:=cgC g) rfl T.u30 rfl T.z30 (fun _ hw j v hj=>by rw [Jav];exact Jcz hw (o:=0) (cs':=cgC g) rfl j v hj)) (Ho 2 rfl (fl':=false) rfl ?_));refine WL.dh (ι:=Option Addr × Nat) (vv:=fun z=>.slice z.1 (plc g.hd.x).length z.2) (pp:=fun _=>True) [] (AA:=fun z=>[rowT z.1 z.2 (plc g.hd.x)]) rfl (by kernel_rfl) rfl rfl (fun w' hw' _=>(Jd1 g.hd.x g.hd.a g.hd.c (by omega) w' (hr.hd.keeps hw'.keeps)).mono (fun en w'' ⟨z,h1,h2⟩=>⟨z,h1,trivial,h2⟩)) ?_;rintro ⟨ha,hc⟩ _;refine Hc (fun _=>(fun _ hw=>hw.it (oQ b1 (cgC g) 30) (by simp))) ?_;refine Ho 4 rfl (fl':=false) rfl ?_;refine WL.dh (ι:=Option Addr × Nat) (vv:=fun z=>.slice z.1 (Jbx g.cl).length z.2) (pp:=fun _=>True) [] (AA:=fun z=>[rowT z.1 z.2 (Jbx g.cl)]) rfl (by kernel_rfl) rfl rfl (fun w' hw' _=>(testTerms_calls g (by omega) w' (hr.keeps hw'.keeps)).mono (fun en w'' ⟨z,h1,h2⟩=>⟨z,h1,trivial,h2⟩)) ?_;rintro ⟨sa,sc⟩ _;refine Hc (fun _=>(fun _ hw=>hw.it (oQ b1 (cgC g) 30) (by simp))) ?_;refine Ho 5 rfl (fl':=false) rfl ?_;refine WL.focus (ow':=rowT ha hc (plc g.hd.x)::rowT sa sc (Jbx g.cl)::rowT ba bc (Jbu g.cl)::oQ b1 (cgC g) 30::[]) (pmP [_,_] [1,0]) ?_;refine WL.append (news:=(Jbx g.cl).flatMap tmC) rfl rfl T.apT (fun _ hw=>Src.of_rowT hw yG) (Je9 _) ⟨by omega,by unfold maxLen;omega⟩ rfl ?_;intro a73 c73;rw [← List.flatMap_append,← xL];refine Hc (fun _=>(fun _ hw=>hw.it (oQ b1 (cgC g) 30) (by simp))) ?_;refine Hf 6 rfl (OV.assign rfl) (He (Xn (Cs (WC.weak (S':=Sat0 w (rowT a73 c73 (plc g.hd.x++Jbx g.cl)::rowT ba bc (Jbu g.cl)::oQ b1 (cgC g) 30::[])) (fun w' hw=>hw.pik [[rowT a73 c73 (plc g.hd.x++Jbx g.cl)],[rowT sa sc (Jbx g.cl)],[rowT ba bc (Jbu g.cl)],[oQ b1 (cgC g) 30]] [0,2,3] 4) ?_))));refine Cr (Zm rfl (WL.dh (ι:=Option Addr × Nat) (vv:=fun z=>.slice z.1 (dedV (plc g.hd.x++Jbx g.cl)).length z.2) (pp:=fun _=>True) [] (AA:=fun z=>[rowT z.1 z.2 (dedV (plc g.hd.x++Jbx g.cl))]) rfl (by kernel_rfl) rfl rfl (fun w' hw' _=>(variables_calls (plc g.hd.x++Jbx g.cl) a73 c73 (by rw [xL];omega) w' (RT.of_row (c:=c73) rfl hw' yF)).mono (fun en w'' ⟨z,h1,h2⟩=>⟨z,h1,trivial,h2⟩)) ?_));rintro ⟨na,nc⟩ _;refine Za rfl (Nn (Cs (Csr (Za rfl (Nn (Cb ?_))))))
 refine WC.bz (fun (i:Nat)=>[(1,yX b1),(8,.slice ba (Jbu g.cl).length bc),(10,.slice na (dedV (plc g.hd.x++Jbx g.cl)).length nc),(11,.int .i64 (i:Int))])
   (fun i w'=>(i≤(dedV (plc g.hd.x++Jbx g.cl)).length∧∀ t∈(dedV (plc g.hd.x++Jbx g.cl)).take i,t∈Jbu g.cl)∧Sat0 w (rowT na nc (dedV (plc g.hd.x++Jbx g.cl))::rowT ba bc (Jbu g.cl)::oQ b1 (cgC g) 30::[]) w')
   (fun i=>(dedV (plc g.hd.x++Jbx g.cl)).length - i) 0 Y4 (fun w' hw=>⟨⟨by omega,fun y hy=>by simp at hy⟩,hw.pik [[rowT na nc (dedV (plc g.hd.x++Jbx g.cl))],[rowT a73 c73 (plc g.hd.x++Jbx g.cl)],[rowT ba bc (Jbu g.cl)],[oQ b1 (cgC g) 30]] [0,2,3] 4⟩) ?_
 clear hi hz;intro i;refine WC.pure (fun hi=>?_);obtain ⟨hi,hz3⟩:=hi;have hdl:=dedV_len (plc g.hd.x++Jbx g.cl);rw [xL] at hdl;refine Cs (Csr (Zm rfl (Zm rfl ?_)))
 first
 | (refine WL.val (OV.ad rfl T.u24) rfl ?_;trace "ALT Jao#14 c04edde8 0")
 | (refine WL.val (OV.bg rfl T.u24) rfl ?_;trace "ALT Jao#14 c04edde8 1")
 refine Zv (OV.cu rfl rfl) (Nn ?_);refine Cc rfl (fun c79=>?_) (fun c79=>?_)
 ·refine Ck (Xn (Cs (Cb (Csr (Zm rfl (Zm rfl (Zm rfl ?_)))))));refine WL.fj (fun w' hw'=>(RT.of_row (c:=nc) rfl (show Sat0 w (rowT na nc (dedV (plc g.hd.x++Jbx g.cl))::rowT ba bc (Jbu g.cl)::oQ b1 (cgC g) 30::[]) w' from hw') yF).get (i:=i) (by omega) |> fun ⟨q,t,h1,h2,h3,_⟩=>(⟨q,t,h1,h2,h3⟩:∃ q t,na=some q∧(dedV (plc g.hd.x++Jbx g.cl))[i]?=some t∧t∈dedV (plc g.hd.x++Jbx g.cl))) (fun hqq=>?_);obtain ⟨q8,t,hq8,ht,htm⟩:=hqq;refine Zv ((OV.ae (show _=some (Value.slice (some q8) (dedV (plc g.hd.x++Jbx g.cl)).length nc) by rw [← hq8];rfl) rfl T.u24 T.z23 (by omega)).cast (u:=.pointer (some (q8.add (i*3)))) (by rw [xN])) (Zv (OV.am (cs:=tmC t) rfl T.u23 rfl T.z23 (fun w' hw' j v hj=>(RT.of_row (c:=nc) rfl (show Sat0 w (rowT na nc (dedV (plc g.hd.x++Jbx g.cl))::rowT ba bc (Jbu g.cl)::oQ b1 (cgC g) 30::[]) w' from hw') yF).at_ _ hq8 i t ht j v hj)) (WL.aw (v:=.bool (decide (t∈Jbu g.cl))) (by kernel_rfl) rfl rfl (fun w' hw'=>within_calls (Jbu g.cl) ba bc t (by omega) w' (RT.of_row (c:=bc) rfl hw' yG)) ?_));refine Zv (OV.not rfl) (Nn ?_);refine Cc rfl (fun c88=>?_) (fun c88=>?_)
  ·refine Csr (Za rfl (Nn (WC.ay ?_)));refine Xq (Xr (Xr (Xq (Xr ?_))));exact WX.ret1 rfl rfl rfl (fun w' hw=>⟨by rw [chk4 e0 e1 e2 (fun h=>c65 (hk3.2 h)) htm (by simpa using c88)],hw.fr⟩)
  refine Ck (Xb (Xn (Cr (Zm rfl (Zv (OV.bh (j:=1) rfl rfl (by omega)) (Za rfl (Nl ?_)))))))
  exact WX.au (i+1) Y4 (fun w' hw=>⟨⟨by omega,fun z hzz=>by
   rw [Jb1 ht] at hzz;rcases List.mem_append.1 hzz with h1 | h1
   ·exact hz3 z h1
   ·simp only [xI] at h1;rw [h1];simpa using c88⟩,hw⟩) (by show (dedV (plc g.hd.x++Jbx g.cl)).length - (i+1)<(dedV (plc g.hd.x++Jbx g.cl)).length - i;omega)
 refine Ce (Xe (Xe (Xh (Xn (Cs ?_)))));have h4:∀ t∈dedV (plc g.hd.x++Jbx g.cl),t∈Jbu g.cl:=fun t ht=>hz3 t (by rw [xK (by omega)];exact ht)
 refine WC.weak (S':=Sat0 w (oQ b1 (cgC g) 30::[])) (fun w' hw=>hw.pik [[rowT na nc (dedV (plc g.hd.x++Jbx g.cl))],[rowT ba bc (Jbu g.cl)],[oQ b1 (cgC g) 30]] [2] 3) ?_;refine Cr (Zv (OV.lN (cs:=cgC g) rfl T.u30 rfl T.z30 yF) (WL.dh (ι:=Option Addr × Nat) (vv:=fun z=>.slice z.1 (Jcb g.cl).length z.2) (pp:=fun _=>True) [] (AA:=fun z=>[rowT z.1 z.2 (Jcb g.cl)]) rfl (by kernel_rfl) rfl rfl (fun w' hw' _=>(terms_calls g hs.tt hs.bl w' (hr.keeps hw'.keeps)).mono (fun en w'' ⟨z,h1,h2⟩=>⟨z,h1,trivial,h2⟩)) ?_));rintro ⟨ua,uc⟩ _;refine WL.dh (ι:=Option Addr × Nat) (vv:=fun z=>.slice z.1 (dedV (Jcb g.cl)).length z.2) (pp:=fun _=>True) [] (AA:=fun z=>[rowT z.1 z.2 (dedV (Jcb g.cl))]) rfl (by kernel_rfl) rfl rfl (fun w' hw' _=>(variables_calls (Jcb g.cl) ua uc hs.tt w' (RT.of_row (c:=uc) rfl hw' yF)).mono (fun en w'' ⟨z,h1,h2⟩=>⟨z,h1,trivial,h2⟩)) ?_;rintro ⟨aa,ac⟩ _;refine Za rfl (Nn (Cs (Csr (Za rfl (Nn (Cb ?_))))))
 refine WC.bz (fun (i:Nat)=>[(1,yX b1),(12,.slice aa (dedV (Jcb g.cl)).length ac),(13,.int .i64 (i:Int))])
   (fun i w'=>(i≤(dedV (Jcb g.cl)).length∧∀ k t,k<i→(dedV (Jcb g.cl))[k]?=some t→t.n=(k:Int))∧Sat0 w (rowT aa ac (dedV (Jcb g.cl))::oQ b1 (cgC g) 30::[]) w')
   (fun i=>(dedV (Jcb g.cl)).length - i) 0 Y3 (fun w' hw=>⟨⟨by omega,fun k t hk=>by omega⟩,hw.pik [[rowT aa ac (dedV (Jcb g.cl))],[rowT ua uc (Jcb g.cl)],[oQ b1 (cgC g) 30]] [0,2] 3⟩) ?_
 clear hi hz3;intro i;refine WC.pure (fun hi=>?_);obtain ⟨hi,hz5⟩:=hi;have hdl:=dedV_len (Jcb g.cl);have htt:=hs.tt;refine Cs (Csr (Zm rfl (Zm rfl ?_)))
 first
 | (refine WL.val (OV.ad rfl T.u24) rfl ?_;trace "ALT Jao#15 c04edde8 0")
 | (refine WL.val (OV.bg rfl T.u24) rfl ?_;trace "ALT Jao#15 c04edde8 1")
 refine Zv (OV.cu rfl rfl) (Nn ?_);refine Cc rfl (fun c95=>?_) (fun c95=>?_)
 ·refine Ck (Xn (Cs (Cb (Csr (Zm rfl (Zm rfl ?_))))));refine WL.fj (fun w' hw'=>(RT.of_row (c:=ac) rfl (show Sat0 w (rowT aa ac (dedV (Jcb g.cl))::oQ b1 (cgC g) 30::[]) w' from hw') yF).get (i:=i) (by omega) |> fun ⟨q,t,h1,h2,h3,_⟩=>(⟨q,t,h1,h2,h3⟩:∃ q t,aa=some q∧(dedV (Jcb g.cl))[i]?=some t∧t∈dedV (Jcb g.cl))) (fun hqq=>?_);obtain ⟨q8,t,hq8,ht,htm⟩:=hqq;refine Zv ((OV.ae (show _=some (Value.slice (some q8) (dedV (Jcb g.cl)).length ac) by rw [← hq8];rfl) rfl T.u24 T.z23 (by omega)).cast (u:=.pointer (some (q8.add (i*3)))) (by rw [xN])) (Zv ((OV.fieldAddrA (off:=1) rfl T.u23 rfl).cast (u:=.pointer (some ((q8.add (i*3)).add 1))) (rfl)) (Zv (OV.ap (v:=.int .i64 t.n) rfl T.u3 rfl (fun w' hw'=>by have h:=(RT.of_row (c:=ac) rfl (show Sat0 w (rowT aa ac (dedV (Jcb g.cl))::oQ b1 (cgC g) 30::[]) w' from hw') yF).at_ _ hq8 i t ht 1 _ rfl;exact h)) (Zm rfl (Zv (OV.fb rfl rfl) (Nn ?_)))));refine Cc rfl (fun c104=>?_) (fun c104=>?_)
  ·refine Csr (Za rfl (Nn (WC.ay ?_)));refine Xq (Xr (Xr (Xq (Xr ?_))));exact WX.ret1 rfl rfl rfl (fun w' hw=>⟨by rw [chk5 e0 e1 e2 (fun h=>c65 (hk3.2 h)) h4 ht (by simpa using c104)],hw.fr⟩)
  refine Ck (Xb (Xn (Cr (Zm rfl (Zv (OV.bh (j:=1) rfl rfl (by omega)) (Za rfl (Nl ?_)))))))
  exact WX.au (i+1) Y3 (fun w' hw=>⟨⟨by omega,fun k z hk hz=>by
   rcases Nat.lt_or_ge k i with h1 | h1
   ·exact hz5 k z h1 hz
   ·obtain rfl:k=i:=by omega
    rw [ht] at hz;rw [← xH hz];simpa using c104⟩,hw⟩) (by show (dedV (Jcb g.cl)).length - (i+1)<(dedV (Jcb g.cl)).length - i;omega)
 refine Ce (Xe (Xe (Xh (Xn (Csr (Za rfl (Nn (WC.ay ?_))))))));exact WX.ret1 rfl rfl rfl (fun w' hw=>⟨by rw [chk6 e0 e1 e2 (fun h=>c65 (hk3.2 h)) h4 (fun k t h=>hz5 k t (by have:=(List.getElem?_eq_some_iff.1 h).1;omega) h)],hw.fr⟩)
def bL (n:Nat)(p:Nat→Bool):List Value:=(List.range n).map fun i=>.bool (p i)
theorem plc_length (x:At):(plc x).length=x.args.length+1:=by simp [plc]
theorem bodyTm_le {c:Cl}(h:∀ a∈c.bd,a.args.length≤8):(Jbu c).length≤9*c.bd.length:=by
 unfold Jbu
 generalize c.bd=l at h
 induction l with
 | nil=>simp
 | cons a l ih=>
  have h1:=ih fun b hb=>h b (.tail _ hb)
  have h2:=h a yF;simp only [List.flatMap_cons,xL,List.length_cons,plc_length];omega
theorem VC.args {c:Cl}(h:VC c){a:At}(ha:a∈c.bd):a.args.length≤8:=(chkA_zero.1 (h.bd a ha)).2.1
theorem VC.body72 {c:Cl}(h:VC c):(Jbu c).length≤72:=by
 have h1:=bodyTm_le fun a ha=>h.args ha
 have:=h.bl;omega
theorem VC.cs {g:CG}(h:VC g.cl):CS g where
 at_:=fun y hy=>by
  have h1:chkA y.x=0:=by
   rcases hy with rfl | hy
   ·exact h.hd
   ·exact h.bd _ (List.mem_map.2 ⟨y,hy,rfl⟩)
  obtain ⟨hn,hl,_⟩:=chkA_zero.1 h1;refine ⟨by omega,?_⟩;unfold nameB at hn;rw [decide_eq_true_eq] at hn;have:=hn.2.1;omega
 bl:=by have h1:=h.bl;rw [show g.cl.bd.length=g.bd.length from xE _] at h1;omega
 tl:=by have h1:=h.tl;have:g.ts.length≤8:=h1;omega
 tt:=by
  rw [Jf7];have h0:=plc_length g.cl.hd;have h1:=h.body72;have h2:=(chkA_zero.1 h.hd).2.1;have h3:=h.tl;omega
structure St where
 jo:List Nat
 V:List Int
 A:List Nat
def stN (c:Cl)(lead:Option Nat)(s:St):Jn:=
 ⟨pick1 c lead s.jo s.V,Jaq s.V (clA c (pick1 c lead s.jo s.V)),Jb0 c (s.V++Jah (clA c (pick1 c lead s.jo s.V))) s.A⟩
def stS (c:Cl)(lead:Option Nat)(s:St):St:=⟨s.jo++[(stN c lead s).a],s.V++Jah (clA c (stN c lead s).a),s.A++(stN c lead s).ts⟩
theorem mkR_st {c:Cl}{lead:Option Nat}:∀ (n:Nat) (s:St),mkR c lead (n+1) s.jo s.V s.A=stN c lead s::mkR c lead n (stS c lead s).jo (stS c lead s).V (stS c lead s).A:=fun _ _=>rfl
theorem makeP_len {c:Cl}{lead:Option Nat}:(makeP c lead).length=c.bd.length:=by
 have h1:∀ (n:Nat) (s:St),(mkR c lead n s.jo s.V s.A).length=n:=by
  intro n
  induction n with
  | zero=>intro s;rfl
  | succ n ih=>intro s;rw [mkR_st,List.length_cons,ih]
 exact h1 _ ⟨[],[],Jbj c⟩
theorem jnEq.at_ {js:List JG}{l:List Jn}(h:jnEq js l){i:Nat}{y:JG}{j:Jn}(hy:js[i]?=some y)(hj:l[i]?=some j):y.a=j.a∧y.kn=nI j.kn∧y.ts=nI j.ts:=by
 have h1:=congrArg (·[i]?) h;simp only [xG,hy,hj,Option.map_some,Option.some.injEq,Prod.mk.injEq] at h1;exact h1
theorem jnEq.len {js:List JG}{l:List Jn}(h:jnEq js l):js.length=l.length:=by
 have h1:=congrArg List.length h
 simpa using h1
theorem refC_made {c:Cl}(hc:VC c){lead:Int}:refC c lead=if lead < -1∨(c.bd.length:Int)≤lead then 91 else 0:=by
 unfold refC;rw [if_neg (fun h=>h hc.chk)]
theorem lead_cases (lead:Int)(n:Nat)(h:¬(lead < -1∨(n:Int)≤lead)):∃ l:Option Nat,lead=leadI l∧∀ k,l=some k→k<n:=by
 by_cases h0:0≤lead
 ·exact ⟨some lead.toNat,by show lead=((lead.toNat:Nat):Int);omega,fun k hk=>by cases hk;omega⟩
 ·exact ⟨none,by show lead=-1;omega,fun k hk=>by cases hk⟩
def KV (t:Tm):Prop:=t.kind=3→varB t=true
theorem KV.iff {t:Tm}(h:KV t):t.kind=3↔varB t=true:=⟨h,fun hv=>by unfold varB at hv;simp only [xY,decide_eq_true_eq] at hv;exact hv.1.1⟩
theorem Jjh {t:Tm}(h:badB t=false):KV t:=fun hk=>by
 unfold badB at h;cases hv:varB t with
 | true=>rfl
 | false=>
  cases hc:Jcn t with
  | true=>unfold Jcn at hc;simp_all
  | false=>simp_all
theorem Jjj {x:At}(h:chkA x=0):∀ t∈plc x,KV t:=fun t ht=>by
 rcases List.mem_cons.1 ht with rfl | ht
 ·exact (hd_kind h).1
 ·exact Jjh ((chkA_zero.1 h).2.2.2 t ht)
theorem Jja {t:Ts}(h:tstB t=true):KV t.l∧KV t.r:=⟨Jjh (tst_bad h).2.1,Jjh (tst_bad h).2.2⟩
theorem Jd4 (l:List Int)(a:Option Addr)(c:Nat)(v:Int)(hl:l.length≤1099511627776)(w:World)(hr:RI w a l.length l):Calls Tryz.prog 37 #[.slice a l.length c,.int .i64 v] w fun e w'=>e=.returned (.bool (decide (v∈l)))∧Fr0 w w':=by
 refine Jbi (args:=[.slice a l.length c,.int .i64 v]) (fun _=>False) Tryz.func37 rfl Tryz.ntmps37 rfl rfl ?_;refine Csr (Za rfl (Nn (Cs (Csr (Za rfl (Nn (Cb ?_)))))))
 refine WC.bz (fun (i:Nat)=>[(0,.slice a l.length c),(1,.int .i64 v),(5,.int .i64 (i:Int))])
   (fun i w'=>(i≤l.length∧v∉l.take i)∧Sat0 w ([]) w')
   (fun i=>l.length - i) 0 Y3 (fun w' hw=>⟨⟨by omega,by simp⟩,hw⟩) ?_
 intro i;refine WC.pure (fun hi=>?_);obtain ⟨hi,hz⟩:=hi;refine Cs (Csr (Zm rfl (Zm rfl ?_)))
 first
 | (refine WL.val (OV.ad rfl T.u32) rfl ?_;trace "ALT Jd4#0 c04edde8 0")
 | (refine WL.val (OV.bg rfl T.u32) rfl ?_;trace "ALT Jd4#0 c04edde8 1")
 refine Zv (OV.cu rfl rfl) (Nn ?_);refine Cc rfl (fun c9=>?_) (fun c9=>?_)
 ·refine Ck (Xn (Cs (Cb (Csr (Zm rfl (Zm rfl ?_))))));obtain ⟨q1,hq1⟩:=hr.some (by omega);subst hq1;obtain ⟨u,hu⟩:∃ u,l[i]?=some u:=⟨_,xD (by omega)⟩
  refine Zv ((OV.ae rfl rfl T.u32 T.z3 (by omega)).cast (u:=.pointer (some (q1.add i))) (by rw [xN,Nat.mul_one])) (Zv (OV.ap (v:=.int .i64 u) rfl T.u3 rfl (fun _ hw=>hw.keeps _ _ (ri_at hr hu))) (Zm rfl (Zv (OV.dq rfl rfl) (Nn ?_))));refine Cc rfl (fun c17=>?_) (fun c17=>?_)
  ·refine Csr (Za rfl (Nn (WC.ay ?_)));refine Xq (Xr (Xr (Xq (Xr ?_))));have hin:v∈l:=by rw [← c17];exact xC hu
   exact WX.ret1 rfl rfl rfl (fun w' hw=>⟨by rw [xO hin],hw.fr⟩)
  refine Ck (Xb (Xn (Cr (Zm rfl (Zv (OV.bh (j:=1) rfl rfl (by omega)) (Za rfl (Nl ?_)))))))
  exact WX.au (i+1) Y3 (fun w' hw=>⟨⟨by omega,fun h=>by
   rw [Jb1 hu] at h;rcases List.mem_append.1 h with h1 | h1
   ·exact hz h1
   ·simp only [xI] at h1;exact c17 h1.symm⟩,hw⟩) (by show l.length - (i+1)<l.length - i;omega)
 refine Ce (Xe (Xe (Xh (Xn (Csr (Za rfl (Nn (WC.ay ?_))))))));have hin:v∉l:=by rwa [xK (by omega)] at hz
 exact WX.ret1 rfl rfl rfl (fun w' hw=>⟨by rw [xP hin],hw.fr⟩)
theorem Jel (l m:List Int)(a b:Option Addr)(c1 c2:Nat)(hl:l.length≤1099511627776)(hm:m.length≤1099511627776)(w:World)(hr:RI w a l.length l)(hr2:RI w b m.length m):Calls Tryz.prog 41 #[.slice a l.length c1,.slice b m.length c2] w fun e w'=>e=.returned (.bool (decide (∀ x∈l,x∈m)))∧Fr0 w w':=by
 refine Jbi (args:=[.slice a l.length c1,.slice b m.length c2]) (fun _=>False) Tryz.func41 rfl Tryz.ntmps41 rfl rfl ?_;refine Csr (Za rfl (Nn (Cs (Csr (Za rfl (Nn (Cb ?_)))))))
 refine WC.bz (fun (i:Nat)=>[(0,.slice a l.length c1),(1,.slice b m.length c2),(5,.int .i64 (i:Int))])
   (fun i w'=>(i≤l.length∧∀ x∈l.take i,x∈m)∧Sat0 w ([]) w')
   (fun i=>l.length - i) 0 Y3 (fun w' hw=>⟨⟨by omega,fun x hx=>by simp at hx⟩,hw⟩) ?_
 intro i;refine WC.pure (fun hi=>?_);obtain ⟨hi,hz⟩:=hi;refine Cs (Csr (Zm rfl (Zm rfl ?_)))
 first
 | (refine WL.val (OV.ad rfl T.u32) rfl ?_;trace "ALT Jel#0 c04edde8 0")
 | (refine WL.val (OV.bg rfl T.u32) rfl ?_;trace "ALT Jel#0 c04edde8 1")
 refine Zv (OV.cu rfl rfl) (Nn ?_);refine Cc rfl (fun c9=>?_) (fun c9=>?_)
 ·refine Ck (Xn (Cs (Cb (Csr (Zm rfl (Zm rfl (Zm rfl ?_)))))));obtain ⟨q1,hq1⟩:=hr.some (by omega);subst hq1;obtain ⟨u,hu⟩:∃ u,l[i]?=some u:=⟨_,xD (by omega)⟩
  refine Zv ((OV.ae rfl rfl T.u32 T.z3 (by omega)).cast (u:=.pointer (some (q1.add i))) (by rw [xN,Nat.mul_one])) (Zv (OV.ap (v:=.int .i64 u) rfl T.u3 rfl (fun _ hw=>hw.keeps _ _ (ri_at hr hu))) (WL.c0 (v:=.bool (decide (u∈m))) (vs:=[.slice b m.length c2,.int .i64 u]) (fun w' hw'=>Jd4 m b c2 u hm w' (hr2.keeps hw'.keeps)) ?_));refine Zv (OV.not rfl) (Nn ?_);refine Cc rfl (fun c18=>?_) (fun c18=>?_)
  ·refine Csr (Za rfl (Nn (WC.ay ?_)));refine Xq (Xr (Xr (Xq (Xr ?_))));have hin:¬ ∀ x∈l,x∈m:=fun h=>by have h1:=h u (xC hu);simp [h1] at c18
   exact WX.ret1 rfl rfl rfl (fun w' hw=>⟨by rw [xP hin],hw.fr⟩)
  refine Ck (Xb (Xn (Cr (Zm rfl (Zv (OV.bh (j:=1) rfl rfl (by omega)) (Za rfl (Nl ?_)))))))
  exact WX.au (i+1) Y3 (fun w' hw=>⟨⟨by omega,fun x h=>by
   rw [Jb1 hu] at h;rcases List.mem_append.1 h with h1 | h1
   ·exact hz x h1
   ·simp only [xI] at h1;rw [h1];simpa using c18⟩,hw⟩) (by show l.length - (i+1)<l.length - i;omega)
 refine Ce (Xe (Xe (Xh (Xn (Csr (Za rfl (Nn (WC.ay ?_))))))));have hin:∀ x∈l,x∈m:=by rwa [xK (by omega)] at hz
 exact WX.ret1 rfl rfl rfl (fun w' hw=>⟨by rw [xO hin],hw.fr⟩)
theorem Jdd (x:At)(a:Option Addr)(c:Nat)(hl:x.args.length≤1048576)(w:World)(hr:RT w a x.args):Calls Tryz.prog 96 #[atV x a c] w fun e w'=>∃ z:Option Addr × Nat,e=.returned (.slice z.1 (plc x).length z.2)∧Turns [] [rowT z.1 z.2 (plc x)] w w':=by
 refine Jbi (args:=[atV x a c]) (fun _=>False) Tryz.func96 rfl Tryz.ntmps96 rfl rfl ?_;refine Csr (WL.box rfl rfl rfl ?_);intro b1;refine Za rfl (Nn (Csr ?_))
 first
 | (refine WL.val (OV.f0 0 rfl T.u26 rfl) rfl ?_;trace "ALT Jdd#0 182ae830 0")
 | (refine WL.val (OV.ag (off:=0) rfl T.u26 rfl) rfl ?_;trace "ALT Jdd#0 182ae830 1")
 refine Zv (OV.am (cs:=tmC x.b) rfl T.u23 rfl T.z23 (fun _ hw j v hj=>by rw [Jav];exact Jbk hw yF (o:=0) (cs':=tmC x.b) rfl j v hj)) (WL.bo (cs:=tmC x.b) T.u24 T.z23 T.zr23 rfl rfl (by omega) (by omega) rfl ?_);intro b6;refine WL.weak (S':=Sat0 w (row 23 3 (some ⟨b6,0,none⟩) 1 1 (tmC x.b)::oQ b1 (atC x a c) 26::[])) (fun w' hw=>hw.asRow (m:=1) rfl (by decide)) ?_;refine Za rfl (Nn (Csr (Zm rfl ?_)))
 first
 | (refine WL.val (OV.f0 4 rfl T.u26 rfl) rfl ?_;trace "ALT Jdd#1 58177b57 0")
 | (refine WL.val (OV.ag (off:=4) rfl T.u26 rfl) rfl ?_;trace "ALT Jdd#1 58177b57 1")
 refine Zv (OV.l1 (v:=.slice a x.args.length c) rfl T.u24 rfl yG rfl) (WL.append (news:=x.args.flatMap tmC) rfl rfl T.apT (fun _ _=>Src.of_rt hr.nil (fun _ hw=>hr.keeps hw.keeps)) (Je9 _) ⟨by omega,by unfold maxLen;omega⟩ rfl ?_);intro a10 c10;refine Za rfl (Nn (WC.ay ?_));have el:1+x.args.length=(plc x).length:=by simp [plc];omega
 have ef:tmC x.b++x.args.flatMap tmC=(plc x).flatMap tmC:=rfl;rw [el,ef];exact WX.ret1 rfl rfl rfl (fun w' hw=>⟨(a10,c10),rfl,(hw.pik [[rowT a10 c10 (plc x)],[oQ b1 (atC x a c) 26]] [0] 2).turned0⟩)
theorem Jdw (x:At)(hk:∀ t∈plc x,KV t)(a:Option Addr)(c:Nat)(V:List Int)(va:Option Addr)(vc:Nat)(hl:x.args.length≤1048575)(hvl:V.length≤1099511627776)(w:World)(hr:RT w a x.args)(hV:RI w va V.length V):Calls Tryz.prog 39 #[atV x a c,.slice va V.length vc] w fun e w'=>∃ z:Option Addr × Nat,e=.returned (.slice z.1 (nI (Jaq V x)).length z.2)∧Turns [] [rowI z.1 z.2 (nI (Jaq V x))] w w':=by
 refine Jbi (args:=[atV x a c,.slice va V.length vc]) (fun _=>False) Tryz.func39 rfl Tryz.ntmps39 rfl rfl ?_;refine Csr (WL.box rfl rfl rfl ?_);intro b2;refine Za rfl (Nn (Csr (Zv (OV.lN (cs:=atC x a c) rfl T.u26 rfl T.z26 yF) (WL.dh (ι:=Option Addr × Nat) (vv:=fun z=>.slice z.1 (plc x).length z.2) (pp:=fun _=>True) [] (AA:=fun z=>[rowT z.1 z.2 (plc x)]) rfl (by kernel_rfl) rfl rfl (fun w' hw' _=>(Jdd x a c (by omega) w' (hr.keeps hw'.keeps)).mono (fun en w'' ⟨z,h1,h2⟩=>⟨z,h1,trivial,h2⟩)) ?_))));rintro ⟨pa,pc⟩ _;refine Za rfl (Nn (Csr (Za rfl (Nn (Cs (Csr (Za rfl (Nn (Cb ?_)))))))));have hpl:(plc x).length=x.args.length+1:=by simp [plc]
 refine WC.weak (S':=Sat0 w (row 3 1 none 0 0 []::rowT pa pc (plc x)::oQ b2 (atC x a c) 26::[])) (fun w' hw=>hw.rowNil 3 1) ?_
 refine WC.ip (fun (i:Nat) (ka:Option Addr) (kc:Nat)=>[(1,.slice va V.length vc),(5,.slice pa (plc x).length pc),(6,.slice ka (nI ((List.range i).filter (fun i=>knB V ((plc x).getD i T0)))).length kc),(7,.int .i64 (i:Int))])
   (fun i ka kc w'=>i≤(plc x).length∧Sat0 w (rowI ka kc (nI ((List.range i).filter (fun i=>knB V ((plc x).getD i T0))))::rowT pa pc (plc x)::oQ b2 (atC x a c) 26::[]) w')
   (fun i _ _=>(plc x).length - i) 0 none 0 Y4 (fun w' hw=>⟨by omega,hw⟩) ?_
 intro i ka kc;refine WC.pure (fun hi=>?_);have hfl:=Jco (fun i=>knB V ((plc x).getD i T0)) i;have hfn:(nI ((List.range i).filter (fun i=>knB V ((plc x).getD i T0)))).length=((List.range i).filter (fun i=>knB V ((plc x).getD i T0))).length:=xE _;refine Cs (Csr (Zm rfl (Zm rfl ?_)))
 first
 | (refine WL.val (OV.ad rfl T.u24) rfl ?_;trace "ALT Jdw#0 c04edde8 0")
 | (refine WL.val (OV.bg rfl T.u24) rfl ?_;trace "ALT Jdw#0 c04edde8 1")
 refine Zv (OV.cu rfl rfl) (Nn ?_);refine Cc rfl (fun c13=>?_) (fun c13=>?_)
 ·refine Ck (Xn (Cs (Cb (Cs ?_))));refine WC.fw [(1,.slice va V.length vc),(5,.slice pa (plc x).length pc),(6,.slice ka (nI ((List.range i).filter (fun i=>knB V ((plc x).getD i T0)))).length kc),(7,.int .i64 (i:Int)),(30,.bool (knB V ((plc x).getD i T0)))] (Sat0 w (rowI ka kc (nI ((List.range i).filter (fun i=>knB V ((plc x).getD i T0))))::rowT pa pc (plc x)::oQ b2 (atC x a c) 26::[])) ?_ ?_
  ·refine Cr (Zm rfl (Zm rfl ?_));refine WL.fj (fun w' hw'=>(RT.of_row (c:=pc) rfl (show Sat0 w (rowI ka kc (nI ((List.range i).filter (fun i=>knB V ((plc x).getD i T0))))::rowT pa pc (plc x)::oQ b2 (atC x a c) 26::[]) w' from hw') yG).get (i:=i) (by omega) |> fun ⟨q,t,h1,h2,h3,_⟩=>(⟨q,t,h1,h2,h3⟩:∃ q t,pa=some q∧(plc x)[i]?=some t∧t∈plc x)) (fun hqq=>?_);obtain ⟨q8,t,hq8,ht,htm⟩:=hqq;refine Zv ((OV.ae (show _=some (Value.slice (some q8) (plc x).length pc) by rw [← hq8];rfl) rfl T.u24 T.z23 (by omega)).cast (u:=.pointer (some (q8.add (i*3)))) (by rw [xN])) (Zv ((OV.fieldAddrA (off:=0) rfl T.u23 rfl).cast (u:=.pointer (some (q8.add (i*3)))) (by rw [Jg5])) (Zv (OV.ap (v:=.int .i64 t.kind) rfl T.u3 rfl (fun w' hw'=>by have h:=(RT.of_row (c:=pc) rfl (show Sat0 w (rowI ka kc (nI ((List.range i).filter (fun i=>knB V ((plc x).getD i T0))))::rowT pa pc (plc x)::oQ b2 (atC x a c) 26::[]) w' from hw') yG).at_ _ hq8 i t ht 0 _ rfl;rwa [Jg5] at h)) (Zv (OV.fb rfl rfl) (Zm rfl ?_))));refine Zp (t:=22) rfl (fun g22=>?_) (fun g22=>?_)
   ·refine yV (yV (yV (yV (yV (yV (yV (Zv (OV.ak rfl rfl) (Nl ?_))))))));have hgd:(plc x).getD i T0=t:=by rw [yD,ht];rfl
    have hb:knB V t=true:=by unfold knB;rw [show varB t=false by have h:=(hk t htm).iff;cases hv:varB t with | false=>rfl | true=>exact absurd (h.2 hv) g22];rfl
    exact WX.dt ⟨rfl,rfl,rfl,rfl,by rw [hgd,hb];rfl,trivial⟩ (fun w' hw=>hw)
   refine yW (Zm rfl (yW (Zm rfl (yW (Zm rfl (yW (Zv ((OV.ae (show _=some (Value.slice (some q8) (plc x).length pc) by rw [← hq8];rfl) rfl T.u24 T.z23 (by omega)).cast (u:=.pointer (some (q8.add (i*3)))) (by rw [xN])) (yW (Zv ((OV.fieldAddrA (off:=1) rfl T.u23 rfl).cast (u:=.pointer (some ((q8.add (i*3)).add 1))) (rfl)) (yW (Zv (OV.ap (v:=.int .i64 t.n) rfl T.u3 rfl (fun w' hw'=>by have h:=(RT.of_row (c:=pc) rfl (show Sat0 w (rowI ka kc (nI ((List.range i).filter (fun i=>knB V ((plc x).getD i T0))))::rowT pa pc (plc x)::oQ b2 (atC x a c) 26::[]) w' from hw') yG).at_ _ hq8 i t ht 1 _ rfl;exact h)) (yW (WL.c0 (v:=.bool (decide (t.n∈V))) (vs:=[.slice va V.length vc,.int .i64 t.n]) (fun w' hw'=>Jd4 V va vc t.n hvl w' (hV.keeps hw'.keeps)) ?_)))))))))))));refine Zv (OV.ai rfl rfl) (Nl ?_);have hgd:(plc x).getD i T0=t:=by rw [yD,ht];rfl
   have hb:knB V t=decide (t.n∈V):=by unfold knB;rw [(hk t htm).iff.1 (by omega)];rfl
   exact WX.dt ⟨rfl,rfl,rfl,rfl,by rw [hgd,hb];rfl,trivial⟩ (fun w' hw=>hw)
  refine Cc rfl (fun c30=>?_) (fun c30=>?_)
  ·refine Cr (Zm rfl (Zm rfl (WL.br T.u32 T.z3 T.zr3 rfl rfl rfl ?_)));intro b33;refine WL.focus (ow':=rowI ka kc (nI ((List.range i).filter (fun i=>knB V ((plc x).getD i T0))))::oQ b33 [Value.int .i64 (i:Int)] 3::rowT pa pc (plc x)::oQ b2 (atC x a c) 26::[]) (pmP [_,_] [1,0]) ?_;refine WL.append (news:=ints [(i:Int)]) rfl rfl T.apI (fun _ _=>Jd5 yG rfl) (Jdf [(i:Int)]) ⟨by omega,by unfold maxLen;omega⟩ rfl ?_;intro a34 c34;refine Za rfl (Nl (Xb (Xn (Cr (Zm rfl (Zv (OV.bh (j:=1) rfl rfl (by omega)) (Za rfl (Nl ?_))))))));have hal:(nI ((List.range (i+1)).filter (fun i=>knB V ((plc x).getD i T0))))=(nI ((List.range i).filter (fun i=>knB V ((plc x).getD i T0))))++[(i:Int)]:=by rw [Jck,if_pos (show (fun i=>knB V ((plc x).getD i T0)) i=true from c30)];simp
   have el:(nI ((List.range i).filter (fun i=>knB V ((plc x).getD i T0)))).length+1=((nI ((List.range i).filter (fun i=>knB V ((plc x).getD i T0))))++[(i:Int)]).length:=by simp
   have ef:ints (nI ((List.range i).filter (fun i=>knB V ((plc x).getD i T0))))++ints [(i:Int)]=ints ((nI ((List.range i).filter (fun i=>knB V ((plc x).getD i T0))))++[(i:Int)]):=by simp [ints]
   exact WX.et (i+1) a34 c34 ⟨rfl,rfl,by rw [hal,← el];rfl,rfl,trivial⟩ (fun w' hw=>⟨by omega,by
    rw [el,ef,← hal] at hw;exact hw.pik [[rowI a34 c34 (nI ((List.range (i+1)).filter (fun i=>knB V ((plc x).getD i T0))))],[oQ b33 [Value.int .i64 (i:Int)] 3],[rowT pa pc (plc x)],[oQ b2 (atC x a c) 26]] [0,2,3] 4⟩) (by show (plc x).length - (i+1)<(plc x).length - i;omega)
  refine Ck (Xb (Xn (Cr (Zm rfl (Zv (OV.bh (j:=1) rfl rfl (by omega)) (Za rfl (Nl ?_)))))));have hal:(nI ((List.range (i+1)).filter (fun i=>knB V ((plc x).getD i T0))))=(nI ((List.range i).filter (fun i=>knB V ((plc x).getD i T0)))):=by rw [Jck,if_neg (show ¬ (fun i=>knB V ((plc x).getD i T0)) i=true by simpa using c30),xX]
  exact WX.et (i+1) ka kc ⟨rfl,rfl,by rw [hal];rfl,rfl,trivial⟩ (fun w' hw=>⟨by omega,by rw [hal];exact hw⟩) (by show (plc x).length - (i+1)<(plc x).length - i;omega)
 refine Ce (Xe (Xe (Xh (Xn (Csr (Zm rfl (Za rfl (Nn (WC.ay ?_)))))))));obtain rfl:i=(plc x).length:=by omega
 exact WX.ret1 rfl rfl rfl (fun w' hw=>⟨(ka,kc),rfl,(hw.pik [[rowI ka kc (nI ((List.range (plc x).length).filter (fun i=>knB V ((plc x).getD i T0))))],[rowT pa pc (plc x)],[oQ b2 (atC x a c) 26]] [0] 3).turned0⟩)
theorem Jaz (t:Ts)(hl:KV t.l)(hr:KV t.r)(w:World):Calls Tryz.prog 36 #[tsV t] w fun e w'=>∃ z:Option Addr × Nat,e=.returned (.slice z.1 (varsT t).length z.2)∧Turns [] [rowI z.1 z.2 (varsT t)] w w':=by
 refine Jbi (args:=[tsV t]) (fun _=>False) Tryz.func36 rfl Tryz.ntmps36 rfl rfl ?_;refine Csr (WL.box rfl rfl rfl ?_);intro b1;refine Za rfl (Nn (Csr (Za rfl (Nn (Cs (Cs (WC.weak (S':=Sat0 w (oQ b1 (tsC t) 85::row 3 1 none 0 0 []::[])) (fun w' hw=>(hw.rowNil 3 1).perm (pmP [_,_] [1,0])) ?_)))))));refine Cr ?_
 first
 | (refine WL.val (OV.f0 1 rfl T.u85 rfl) rfl ?_;trace "ALT Jaz#0 d61bba88 0")
 | (refine WL.val (OV.ag (off:=1) rfl T.u85 rfl) rfl ?_;trace "ALT Jaz#0 d61bba88 1")
 first
 | (refine WL.val (OV.f0 0 rfl T.u23 rfl) rfl ?_;trace "ALT Jaz#1 182ae830 0")
 | (refine WL.val (OV.ag (off:=0) rfl T.u23 rfl) rfl ?_;trace "ALT Jaz#1 182ae830 1")
 refine Zv (OV.l1 (v:=.int .i64 t.l.kind) rfl T.u3 rfl yF rfl) (Zv (OV.dq rfl rfl) (Nn ?_));refine WC.io (fun (z:Option Addr × Nat)=>[(1,yX b1),(3,.slice z.1 (([t.l].filter varB).map (·.n)).length z.2)]) (fun (z:Option Addr × Nat)=>Sat0 w (rowI z.1 z.2 (([t.l].filter varB).map (·.n))::oQ b1 (tsC t) 85::[])) ?_ ?_
 ·refine Cc rfl (fun c7=>?_) (fun c7=>?_)
  ·refine WC.weak (S':=Sat0 w (row 3 1 none 0 0 []::oQ b1 (tsC t) 85::[])) (fun w' hw=>hw.perm (pmP [_,_] [1,0])) ?_;refine Cr (Zm rfl ?_)
   first
   | (refine WL.val (OV.f0 1 rfl T.u85 rfl) rfl ?_;trace "ALT Jaz#2 d61bba88 0")
   | (refine WL.val (OV.ag (off:=1) rfl T.u85 rfl) rfl ?_;trace "ALT Jaz#2 d61bba88 1")
   first
   | (refine WL.val (OV.f0 1 rfl T.u23 rfl) rfl ?_;trace "ALT Jaz#3 d61bba88 0")
   | (refine WL.val (OV.ag (off:=1) rfl T.u23 rfl) rfl ?_;trace "ALT Jaz#3 d61bba88 1")
   refine Zv (OV.l1 (v:=.int .i64 t.l.n) rfl T.u3 rfl yG rfl) (WL.br T.u32 T.z3 T.zr3 rfl rfl rfl ?_);intro b12;refine WL.focus (ow':=row 3 1 none 0 0 []::oQ b12 [Value.int .i64 t.l.n] 3::oQ b1 (tsC t) 85::[]) (pmP [_,_] [1,0]) ?_;refine WL.append (news:=ints [t.l.n]) rfl rfl T.apI (fun _ _=>Jd5 yG rfl) (Jdf [t.l.n]) ⟨by omega,by unfold maxLen;omega⟩ rfl ?_;intro a13 c13;refine Za rfl (Nl ?_);have hv:varB t.l=true:=hl.iff.1 c7;have hv2:(([t.l].filter varB).map (·.n))=[t.l.n]:=by simp [hv]
   exact WX.ei (a13,c13) ⟨rfl,by rw [hv2];rfl,trivial⟩ (fun w' hw=>by
    rw [hv2];exact hw.pik [[rowI a13 c13 [t.l.n]],[oQ b12 [Value.int .i64 t.l.n] 3],[oQ b1 (tsC t) 85]] [0,2] 3)
  refine Ck ?_;have hv:varB t.l=false:=by cases h:varB t.l with | false=>rfl | true=>exact absurd (hl.iff.2 h) c7
  have hv2:(([t.l].filter varB).map (·.n))=[]:=by simp [hv]
  exact WX.ei (none,0) ⟨rfl,by rw [hv2];rfl,trivial⟩ (fun w' hw=>by
   rw [hv2];exact hw.perm (pmP [_,_] [1,0]))
 rintro ⟨va,vc⟩;refine Cs (Cs ?_);have hvl:(([t.l].filter varB).map (·.n)).length≤1:=by rw [xE];exact List.length_filter_le _ _
 refine Cr ?_
 first
 | (refine WL.val (OV.f0 4 rfl T.u85 rfl) rfl ?_;trace "ALT Jaz#4 58177b57 0")
 | (refine WL.val (OV.ag (off:=4) rfl T.u85 rfl) rfl ?_;trace "ALT Jaz#4 58177b57 1")
 first
 | (refine WL.val (OV.f0 0 rfl T.u23 rfl) rfl ?_;trace "ALT Jaz#5 182ae830 0")
 | (refine WL.val (OV.ag (off:=0) rfl T.u23 rfl) rfl ?_;trace "ALT Jaz#5 182ae830 1")
 refine Zv (OV.l1 (v:=.int .i64 t.r.kind) rfl T.u3 rfl yG rfl) (Zv (OV.dq rfl rfl) (Nn ?_));refine Cc rfl (fun c17=>?_) (fun c17=>?_)
 ·refine Cr (Zm rfl ?_)
  first
  | (refine WL.val (OV.f0 4 rfl T.u85 rfl) rfl ?_;trace "ALT Jaz#6 58177b57 0")
  | (refine WL.val (OV.ag (off:=4) rfl T.u85 rfl) rfl ?_;trace "ALT Jaz#6 58177b57 1")
  first
  | (refine WL.val (OV.f0 1 rfl T.u23 rfl) rfl ?_;trace "ALT Jaz#7 d61bba88 0")
  | (refine WL.val (OV.ag (off:=1) rfl T.u23 rfl) rfl ?_;trace "ALT Jaz#7 d61bba88 1")
  refine Zv (OV.l1 (v:=.int .i64 t.r.n) rfl T.u3 rfl yG rfl) (WL.br T.u32 T.z3 T.zr3 rfl rfl rfl ?_);intro b22;refine WL.focus (ow':=rowI va vc (([t.l].filter varB).map (·.n))::oQ b22 [Value.int .i64 t.r.n] 3::oQ b1 (tsC t) 85::[]) (pmP [_,_] [1,0]) ?_;refine WL.append (news:=ints [t.r.n]) rfl rfl T.apI (fun _ _=>Jd5 yG rfl) (Jdf [t.r.n]) ⟨by omega,by unfold maxLen;omega⟩ rfl ?_;intro a23 c23;refine Za rfl (Nn (Csr (Zm rfl (Za rfl (Nn (WC.ay ?_))))));have hv:varB t.r=true:=hr.iff.1 c17;have hv2:varsT t=(([t.l].filter varB).map (·.n))++[t.r.n]:=by unfold varsT;cases h:varB t.l <;> simp [h,hv]
  have el:(([t.l].filter varB).map (·.n)).length+1=(varsT t).length:=by rw [hv2];simp
  exact WX.ret1 rfl rfl rfl (fun w' hw=>⟨(a23,c23),by rw [← el],by
   have h9:=(hw.pik [[row 3 1 a23 ((([t.l].filter varB).map (·.n)).length+1) c23 (ints (([t.l].filter varB).map (·.n))++ints [t.r.n])],[oQ b22 [Value.int .i64 t.r.n] 3],[oQ b1 (tsC t) 85]] [0] 3).turned0;have e9:ints (([t.l].filter varB).map (·.n))++ints [t.r.n]=ints (varsT t):=by rw [hv2];simp [ints]
   rw [el,e9] at h9;exact h9⟩)
 refine Ck (Xn (Csr (Zm rfl (Za rfl (Nn (WC.ay ?_))))));have hv:varB t.r=false:=by cases h:varB t.r with | false=>rfl | true=>exact absurd (hr.iff.2 h) c17
 have hv2:varsT t=(([t.l].filter varB).map (·.n)):=by unfold varsT;cases h:varB t.l <;> simp [h,hv]
 exact WX.ret1 rfl rfl rfl (fun w' hw=>⟨(va,vc),by rw [hv2],by rw [hv2];exact (hw.pik [[rowI va vc (([t.l].filter varB).map (·.n))],[oQ b1 (tsC t) 85]] [0] 2).turned0⟩)
theorem Jc1 (g:CG)(hs:CS g)(lead:Int)(w:World)(hr:RC w g):Calls Tryz.prog 35 #[cgV g,.int .i64 lead] w fun e w'=>e=.returned (.int .i64 (refC g.cl lead))∧Fr0 w w':=by
 refine Jbi (args:=[cgV g,.int .i64 lead]) (fun _=>False) Tryz.func35 rfl Tryz.ntmps35 rfl rfl ?_;refine Csr (WL.box rfl rfl rfl ?_);intro b2;refine Za rfl (Nn (Csr (Zv (OV.lN (cs:=cgC g) rfl T.u30 rfl T.z30 yF) (WL.aw (v:=.int .i64 (chkC g.cl)) (by kernel_rfl) rfl rfl (fun w' hw'=>Jao g hs w' (hr.keeps hw'.keeps)) ?_))));refine Za rfl (Nn (Cs (Csr (Zm rfl (Zv (OV.fb rfl rfl) (Nn ?_))))));refine Cc rfl (fun c9=>?_) (fun c9=>?_)
 ·refine Csr (Zm rfl (Za rfl (Nn (WC.ay ?_))));refine Xr ?_;exact WX.ret1 rfl rfl rfl (fun w' hw=>⟨by unfold refC;rw [if_pos (by simpa using c9)],hw.fr⟩)
 refine Ck (Xn (Cs (Csr (Zm rfl (Zv (OV.cu rfl rfl) (Zm rfl ?_))))));refine Zp (t:=13) rfl (fun g13=>?_) (fun g13=>?_)
 ·refine yV (yV (yV (yV (yV (Zv (OV.ak rfl rfl) (Nn (WC.cm (show _=some (Value.bool true) from by rfl) ?_)))))));refine Csr (Za rfl (Nn (WC.ay ?_)));refine Xr ?_;exact WX.ret1 rfl rfl rfl (fun w' hw=>⟨by unfold refC;rw [if_neg (by simpa using c9),if_pos (Or.inl g13)],hw.fr⟩)
 refine yW (Zm rfl (yW ?_))
 first
 | (refine WL.val (OV.f0 5 rfl T.u30 rfl) rfl ?_;trace "ALT Jc1#0 75ec517c 0")
 | (refine WL.val (OV.ag (off:=5) rfl T.u30 rfl) rfl ?_;trace "ALT Jc1#0 75ec517c 1")
 refine yW (Zv (OV.l1 (v:=.slice g.ba g.bd.length g.bc) rfl T.u27 rfl yF rfl) (yW ?_))
 first
 | (refine WL.val (OV.ad rfl T.u27) rfl ?_;trace "ALT Jc1#1 c04edde8 0")
 | (refine WL.val (OV.bg rfl T.u27) rfl ?_;trace "ALT Jc1#1 c04edde8 1")
 refine yW (Zv (OV.fx rfl rfl) (Zv (OV.ai rfl rfl) (Nn ?_)));refine Cc rfl (fun c19=>?_) (fun c19=>?_)
 ·refine Csr (Za rfl (Nn (WC.ay ?_)));refine Xr ?_;exact WX.ret1 rfl rfl rfl (fun w' hw=>⟨by unfold refC;rw [if_neg (by simpa using c9),if_pos (Or.inr (by rw [show g.cl.bd.length=g.bd.length from xE _];exact c19))],hw.fr⟩)
 refine Ck (Xn (Csr (Za rfl (Nn (WC.ay ?_)))));exact WX.ret1 rfl rfl rfl (fun w' hw=>⟨by unfold refC;rw [if_neg (by simpa using c9),if_neg (by rw [show g.cl.bd.length=g.bd.length from xE _];rintro (h | h);exact g13 h;exact c19 h)],hw.fr⟩)
theorem Jbw (x y:At)(hkx:∀ t∈plc x,KV t)(hky:∀ t∈plc y,KV t)(a1 a2:Option Addr)(c1 c2:Nat)(V:List Int)(va:Option Addr)(vc:Nat)(hl1:x.args.length≤1048575)(hl2:y.args.length≤1048575)(hvl:V.length≤1099511627776)(w:World)(hr1:RT w a1 x.args)(hr2:RT w a2 y.args)(hV:RI w va V.length V):Calls Tryz.prog 38 #[atV x a1 c1,atV y a2 c2,.slice va V.length vc] w fun e w'=>e=.returned (.bool (btr V x y))∧Fr0 w w':=by
 refine Jbi (args:=[atV x a1 c1,atV y a2 c2,.slice va V.length vc]) (fun _=>False) Tryz.func38 rfl Tryz.ntmps38 rfl rfl ?_;refine Csr (WL.box rfl rfl rfl ?_);intro b3;refine WL.box rfl rfl rfl ?_;intro b4;refine Za rfl (Nn (Csr (Zv (OV.lN (cs:=atC x a1 c1) rfl T.u26 rfl T.z26 yG) (Zm rfl (WL.dh (ι:=Option Addr × Nat) (vv:=fun z=>.slice z.1 (nI (Jaq V x)).length z.2) (pp:=fun _=>True) [] (AA:=fun z=>[rowI z.1 z.2 (nI (Jaq V x))]) rfl (by kernel_rfl) rfl rfl (fun w' hw' _=>(Jdw x hkx a1 c1 V va vc hl1 hvl w' (hr1.keeps hw'.keeps) (hV.keeps hw'.keeps)).mono (fun en w'' ⟨z,h1,h2⟩=>⟨z,h1,trivial,h2⟩)) ?_)))));rintro ⟨ka,kc⟩ _
 first
 | (refine WL.val (OV.ad rfl T.u32) rfl ?_;trace "ALT Jbw#0 c04edde8 0")
 | (refine WL.val (OV.bg rfl T.u32) rfl ?_;trace "ALT Jbw#0 c04edde8 1")
 refine Za rfl (Nn (Csr (Zv (OV.lN (cs:=atC y a2 c2) rfl T.u26 rfl T.z26 yG) (Zm rfl (WL.dh (ι:=Option Addr × Nat) (vv:=fun z=>.slice z.1 (nI (Jaq V y)).length z.2) (pp:=fun _=>True) [] (AA:=fun z=>[rowI z.1 z.2 (nI (Jaq V y))]) rfl (by kernel_rfl) rfl rfl (fun w' hw' _=>(Jdw y hky a2 c2 V va vc hl2 hvl w' (hr2.keeps hw'.keeps) (hV.keeps hw'.keeps)).mono (fun en w'' ⟨z,h1,h2⟩=>⟨z,h1,trivial,h2⟩)) ?_)))));rintro ⟨la,lc⟩ _
 first
 | (refine WL.val (OV.ad rfl T.u32) rfl ?_;trace "ALT Jbw#1 c04edde8 0")
 | (refine WL.val (OV.bg rfl T.u32) rfl ?_;trace "ALT Jbw#1 c04edde8 1")
 refine Za rfl (Nn (Cs (Cs ?_)));have e1:(nI (Jaq V x)).length=(Jaq V x).length:=xE _;have e2:(nI (Jaq V y)).length=(Jaq V y).length:=xE _;have e3:(Jaq V x).length≤(plc x).length:=Jco _ _;have e4:(Jaq V y).length≤(plc y).length:=Jco _ _;have e5:(plc x).length=x.args.length+1:=by simp [plc]
 have e6:(plc y).length=y.args.length+1:=by simp [plc]
 refine Cr (Zm rfl (Zm rfl (Zv (OV.fb rfl rfl) (Nn ?_))));refine Cc rfl (fun c19=>?_) (fun c19=>?_)
 ·refine Csr (Zm rfl (Zm rfl (Zv (OV.ia rfl rfl) (Za rfl (Nn (WC.ay ?_))))));refine Xr ?_;exact WX.ret1 rfl rfl rfl (fun w' hw=>⟨by unfold btr;rw [if_pos (by simp at c19;omega)];try (congr 2;exact decide_eq_decide.2 (by omega)),hw.fr⟩)
 refine Ck (Xn (Csr ?_))
 first
 | (refine WL.val (OV.f0 4 rfl T.u26 rfl) rfl ?_;trace "ALT Jbw#2 58177b57 0")
 | (refine WL.val (OV.ag (off:=4) rfl T.u26 rfl) rfl ?_;trace "ALT Jbw#2 58177b57 1")
 refine Zv (OV.l1 (v:=.slice a1 x.args.length c1) rfl T.u24 rfl yI rfl) ?_
 first
 | (refine WL.val (OV.ad rfl T.u24) rfl ?_;trace "ALT Jbw#3 c04edde8 0")
 | (refine WL.val (OV.bg rfl T.u24) rfl ?_;trace "ALT Jbw#3 c04edde8 1")
 refine Zv (OV.ie rfl rfl (by omega)) (Zm rfl (Zv (OV.subI rfl rfl (by omega)) ?_))
 first
 | (refine WL.val (OV.f0 4 rfl T.u26 rfl) rfl ?_;trace "ALT Jbw#4 58177b57 0")
 | (refine WL.val (OV.ag (off:=4) rfl T.u26 rfl) rfl ?_;trace "ALT Jbw#4 58177b57 1")
 refine Zv (OV.l1 (v:=.slice a2 y.args.length c2) rfl T.u24 rfl yH rfl) ?_
 first
 | (refine WL.val (OV.ad rfl T.u24) rfl ?_;trace "ALT Jbw#5 c04edde8 0")
 | (refine WL.val (OV.bg rfl T.u24) rfl ?_;trace "ALT Jbw#5 c04edde8 1")
 refine Zv (OV.ie rfl rfl (by omega)) (Zm rfl (Zv (OV.subI rfl rfl (by omega)) (Zv (OV.cu rfl rfl) (Za rfl (Nn (WC.ay ?_))))));exact WX.ret1 rfl rfl rfl (fun w' hw=>⟨by unfold btr;rw [if_neg (by simp at c19;omega)];try (congr 2;exact decide_eq_decide.2 (by omega)),hw.fr⟩)
end Go.Proofs.YtdgigbopibdflaaGreatDoor
