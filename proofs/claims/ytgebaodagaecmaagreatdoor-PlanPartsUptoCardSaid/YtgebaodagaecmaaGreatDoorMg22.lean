/- Contracts of functions of the program: what each returns and leaves in memory. Printed by gen.py and walk.py. A row that is cut to its first elements; clear of a row's end. -/
import Derived.Test.YtgebaodagaecmaaGreatDoorMg21
import Derived.LaidMore
import Derived.Test.YtgebaodagaecmaaGreatDoorRows
import Derived.Test.YtgebaodagaecmaaGreatDoorMg17
import Derived.Lib.SliceRun
import Derived.Test.YtgebaodagaecmaaGreatDoorMg18
import Derived.Test.YtgebaodagaecmaaGreatDoorMg16
set_option maxRecDepth 10000
namespace Go.Proofs.YtgebaodagaecmaaGreatDoor
open Go Go.Hw
set_option linter.unusedSimpArgs false
set_option linter.unusedVariables false
section
open Go.ChangeShapes Go.WideShapes Go.ChangeAt Go.RowKit
variable {H:Type} {enc:TypeId × Value→H} {w:World} {base:Nat} {spare:Nat→Bool} {held:Bool} {r:Reach} {b0:Nat}
def inI (k:Int):Prop:=-9223372036854775808≤k∧k≤9223372036854775807
theorem getD_at {α:Type}{l:List α}{i:Nat}{x d:α}(h:l[i]?=some x):l.getD i d=x:=by rw [List.getD_eq_getElem?_getD,h];rfl
theorem Jop {α:Type}(wt:α→Nat){k:Nat}(h:∀ y,k≤wt y)(ys:List α):k*ys.length≤(ys.map wt).sum:=by
 induction ys with
 | nil=>simp
 | cons x ys ih=>have:=h x;simp only [List.map_cons,List.sum_cons,List.length_cons];rw [Nat.mul_add];omega
theorem bulk_sum {α:Type}(dflt:α)(wt:α→Nat):∀ (elems:List (DataW H)) (ys:List α),elems.length=ys.length→(∀ i d,elems[i]?=some d→wt (ys.getD i dflt)≤Rows.uptoBulk d)→(ys.map wt).sum≤Rows.uptoBulkAll elems
 | [],[],_,_=>by simp [Rows.uptoBulkAll]
 | [],_::_,h,_=>by simp at h
 | _::_,[],h,_=>by simp at h
 | d::elems,y::ys,h,hd=>by
  have h1:=hd 0 d rfl
  have h2:=bulk_sum dflt wt elems ys (by simpa using h) (fun i d hi=>hd (i+1) d hi)
  simp only [List.getD_cons_zero] at h1
  simp only [List.map_cons,List.sum_cons,Rows.uptoBulkAll]
  omega
theorem Jjz {α:Type}(dflt:α){tt t:TypeId}{s:Nat}{fuel:Nat}{cs:List Value}{x:DataW H × List MemPlace}(htt:Program.underlying Tryz.prog tt=some (.slice t))(hs:Program.cellsOf Tryz.prog t=s)(en:α→List Value)(hl:∀ y,(en y).length=s)(G:α→Prop)(wt:α→Nat) 
  (hel:∀ fuel cs x,DataW.trod enc Tryz.prog w base spare held fuel t cs=some x→∃ y,cs=en y∧G y∧wt y≤Rows.uptoBulk x.1) (h:DataW.trod enc Tryz.prog w base spare held fuel tt cs=some x) :
  ∃ a c,∃ ys:List α,cs=[.slice a ys.length c]∧(a=none→ys.length=0)∧(∀ q,a=some q→∀ i y,ys[i]?=some y→∀ j v,(en y)[j]?=some v→w.cell? ((q.add (i*s)).add j)=some v)∧(∀ y∈ys,G y)∧(ys.map wt).sum+1≤Rows.uptoBulk x.1:=by
 rcases DataW.trod_slice htt h with ⟨rfl,rfl⟩ | ⟨a,len,cap,elems,rest,n,rfl,rfl,rfl,hb,hlc,hcm,hlen,hele,_,_⟩
 ·exact ⟨none,0,[],rfl,fun _=>rfl,(fun q hq=>(by cases hq)),(fun y hy=>by cases hy),by simp [Rows.uptoBulk]⟩
 ·have key:∀ i,i<len→∃ y:α,((∀ j v,(en y)[j]?=some v→w.cell? ((a.add (i*s)).add j)=some v)∧G y)∧∀ d,(elems.map (·.1))[i]?=some d→wt y≤Rows.uptoBulk d:=by
   intro i hi
   have h3:=hele i hi
   rw [hs] at h3
   have h4:i<elems.length:=by omega
   rw [List.getElem?_eq_getElem h4] at h3
   obtain ⟨us,hus,h5⟩:=Option.bind_eq_some_iff.1 h3
   obtain ⟨y,rfl,h6,h7⟩:=hel _ _ _ h5
   have h8:=(World.cells?_some hus).2.2
   refine ⟨y,⟨fun j v hj=>?_,h6⟩,fun d hd=>?_⟩
   ·have hj7:j<s:=by have:=(List.getElem?_eq_some_iff.1 hj).1;rw [hl] at this;exact this
    rw [h8 j hj7];exact hj
   ·rw [List.getElem?_map,List.getElem?_eq_getElem h4] at hd
    simp only [Option.map_some,Option.some.injEq] at hd
    rw [← hd];exact h7
  obtain ⟨ys,hyl,hq⟩:=exists_list dflt _ len key
  refine ⟨some a,cap,ys,by rw [hyl],fun h=>(by cases h),fun q hq' i y hy=>?_,fun y hy=>?_,?_⟩
  ·simp only [Option.some.injEq] at hq'
   subst hq'
   have hi:i<len:=by have:=(List.getElem?_eq_some_iff.1 hy).1;omega
   have h9:=(hq i hi).1.1
   rwa [getD_at hy] at h9
  ·obtain ⟨i,hi⟩:=List.mem_iff_getElem?.1 hy
   have hil:i<len:=by have:=(List.getElem?_eq_some_iff.1 hi).1;omega
   have h9:=(hq i hil).1.2
   rwa [getD_at hi] at h9
  ·have:=bulk_sum dflt wt (elems.map (·.1)) ys (by simp [hyl,hlen]) (fun i d hd=>by
    have hi:i<len:=by have:=(List.getElem?_eq_some_iff.1 hd).1;simp at this;omega
    exact (hq i hi).2 d hd)
   simp only [Rows.uptoBulk];omega
theorem inI_of {n:Int}(h:(Lit.int .i64 n).wf=true):inI n:=by simpa [inI,Lit.wf,IntKind.min,IntKind.max,IntKind.signed,IntKind.bits] using h
def wtT (t:Tm):Nat:=t.s.size+4
set_option maxRecDepth 100000 in
theorem Jiq {fuel:Nat}{cs:List Value}{x:DataW H × List MemPlace}(h:DataW.trod enc Tryz.prog w base spare held fuel 26 cs=some x):
  ∃ t:Tm,cs=tmC t∧(inI t.kind∧inI t.n)∧wtT t≤Rows.uptoBulk x.1∧x.1=.agg [.lit (.int .i64 t.kind),.lit (.int .i64 t.n),.lit (.string t.s.data.toList)]:=by
 obtain ⟨xs,n,rfl,rfl,hl,hxs,hf⟩:=DataW.trod_struct T.u26 h
 have hl3:cs.length=3:=by rw [hl];kernel_rfl
 have cI:Program.cellsOf Tryz.prog 3=1:=by kernel_rfl
 have cS:Program.cellsOf Tryz.prog 9=1:=by kernel_rfl
 match cs,hl3 with
 | [v0,v1,v2],_=>
  match xs,hxs with
  | [x0,x1,x2],_=>
   have k0:DataW.trod enc Tryz.prog w base spare held n 3 [v0]=some x0:=by
    have k:DataW.trod enc Tryz.prog w base spare held n 3 (List.take (Program.cellsOf Tryz.prog 3) (List.drop 0 [v0,v1,v2]))=some x0:=hf 0 _ rfl
    rw [cI] at k;exact k
   have k1:DataW.trod enc Tryz.prog w base spare held n 3 [v1]=some x1:=by
    have k:DataW.trod enc Tryz.prog w base spare held n 3 (List.take (Program.cellsOf Tryz.prog 3) (List.drop 1 [v0,v1,v2]))=some x1:=hf 1 _ rfl
    rw [cI] at k;exact k
   have k2:DataW.trod enc Tryz.prog w base spare held n 9 [v2]=some x2:=by
    have k:DataW.trod enc Tryz.prog w base spare held n 9 (List.take (Program.cellsOf Tryz.prog 9) (List.drop 2 [v0,v1,v2]))=some x2:=hf 2 _ rfl
    rw [cS] at k;exact k
   obtain ⟨kind,e0,rfl,w0⟩:=DataW.trod_int T.u3 k0
   obtain ⟨num,e1,rfl,w1⟩:=DataW.trod_int T.u3 k1
   obtain ⟨s,e2,rfl,w2⟩:=DataW.trod_string T.u9 k2
   simp only [List.cons.injEq,and_true] at e0 e1 e2
   subst e0;subst e1;subst e2
   refine ⟨⟨kind,num,s⟩,rfl,⟨inI_of w0,inI_of w1⟩,?_,rfl⟩
   simp only [List.map_cons,List.map_nil,Rows.uptoBulk,Rows.uptoBulkAll,wtT]
   have:s.data.toList.length=s.size:=by simp
   omega
def wtA (y:AG):Nat:=y.x.name.size+y.x.args.length+7
set_option maxRecDepth 100000 in
theorem trod_atom {fuel:Nat}{cs:List Value}{x:DataW H × List MemPlace}(h:DataW.trod enc Tryz.prog w base spare held fuel 29 cs=some x):
  ∃ y:AG,cs=agC y∧RT w y.a y.x.args∧wtA y≤Rows.uptoBulk x.1:=by
 obtain ⟨xs,n,rfl,rfl,hl,hxs,hf⟩:=DataW.trod_struct T.u29 h
 have hl5:cs.length=5:=by rw [hl];kernel_rfl
 have cT:Program.cellsOf Tryz.prog 26=3:=by kernel_rfl
 have cS:Program.cellsOf Tryz.prog 9=1:=by kernel_rfl
 have cL:Program.cellsOf Tryz.prog 27=1:=by kernel_rfl
 match cs,hl5 with
 | [v0,v1,v2,v3,v4],_=>
  match xs,hxs with
  | [x0,x1,x2],_=>
   have k0:DataW.trod enc Tryz.prog w base spare held n 26 [v0,v1,v2]=some x0:=by
    have k:DataW.trod enc Tryz.prog w base spare held n 26 (List.take (Program.cellsOf Tryz.prog 26) (List.drop 0 [v0,v1,v2,v3,v4]))=some x0:=hf 0 _ rfl
    rw [cT] at k;exact k
   have k1:DataW.trod enc Tryz.prog w base spare held n 9 [v3]=some x1:=by
    have k:DataW.trod enc Tryz.prog w base spare held n 9 (List.take (Program.cellsOf Tryz.prog 9) (List.drop 3 [v0,v1,v2,v3,v4]))=some x1:=hf 1 _ rfl
    rw [cS] at k;exact k
   have k2:DataW.trod enc Tryz.prog w base spare held n 27 [v4]=some x2:=by
    have k:DataW.trod enc Tryz.prog w base spare held n 27 (List.take (Program.cellsOf Tryz.prog 27) (List.drop 4 [v0,v1,v2,v3,v4]))=some x2:=hf 2 _ rfl
    rw [cL] at k;exact k
   obtain ⟨t,e0,_,b0,_⟩:=Jiq k0
   obtain ⟨s,e1,rfl,w1⟩:=DataW.trod_string T.u9 k1
   obtain ⟨a,c,ts,e2,ha,hat,_,b2⟩:=Jjz (default:Tm) T.u27 (by kernel_rfl) tmC Jcu (fun _=>True) wtT (fun fuel cs x hx=>by
    obtain ⟨t,e,_,hb,_⟩:=Jiq hx
    exact ⟨t,e,trivial,hb⟩) k2
   simp only [tmC,List.cons.injEq,and_true] at e0 e1 e2
   obtain ⟨rfl,rfl,rfl⟩:=e0
   subst e1;subst e2
   refine ⟨⟨⟨t,s,ts⟩,a,c⟩,rfl,⟨ha,hat⟩,?_⟩
   have h1:=Jop wtT (k:=1) (fun y=>by unfold wtT;omega) ts
   have h2:s.data.toList.length=s.size:=by simp
   unfold wtT at b0
   simp only [List.map_cons,List.map_nil,Rows.uptoBulk,Rows.uptoBulkAll,wtA]
   omega
set_option maxRecDepth 100000 in
theorem Jir {fuel:Nat}{cs:List Value}{x:DataW H × List MemPlace}(h:DataW.trod enc Tryz.prog w base spare held fuel 22 cs=some x):
  ∃ a c ys,cs=[.slice a ys.length c]∧RA w a ys∧(ys.map wtA).sum+1≤Rows.uptoBulk x.1:=by
 obtain ⟨a,c,ys,e,ha,hat,hg,hb⟩:=Jjz (⟨default,none,0⟩:AG) T.u22 (by kernel_rfl) agC Joe (fun y=>RT w y.a y.x.args) wtA (fun fuel cs x hx=>by
  obtain ⟨y,e,h1,h2⟩:=trod_atom hx
  exact ⟨y,e,h1,h2⟩) h
 exact ⟨a,c,ys,e,⟨ha,hat,hg⟩,hb⟩
theorem le_sum {α:Type}(wt:α→Nat){ys:List α}{y:α}(h:y∈ys):wt y≤(ys.map wt).sum:=by
 induction ys with
 | nil=>cases h
 | cons x ys ih=>
  rw [List.map_cons,List.sum_cons]
  rcases List.mem_cons.1 h with rfl | h
  ·omega
  ·have:=ih h;omega
def T00:Ts:=⟨0,T0,T0⟩
set_option maxRecDepth 100000 in
theorem trod_test {fuel:Nat}{cs:List Value}{x:DataW H × List MemPlace}(h:DataW.trod enc Tryz.prog w base spare held fuel 61 cs=some x):
  ∃ t:Ts,cs=tsC t∧1≤Rows.uptoBulk x.1:=by
 obtain ⟨xs,n,rfl,rfl,hl,hxs,hf⟩:=DataW.trod_struct T.u61 h
 have hl7:cs.length=7:=by rw [hl];kernel_rfl
 have cT:Program.cellsOf Tryz.prog 26=3:=by kernel_rfl
 have cI:Program.cellsOf Tryz.prog 3=1:=by kernel_rfl
 match cs,hl7 with
 | [v0,v1,v2,v3,v4,v5,v6],_=>
  match xs,hxs with
  | [x0,x1,x2],_=>
   have k0:DataW.trod enc Tryz.prog w base spare held n 3 [v0]=some x0:=by
    have k:DataW.trod enc Tryz.prog w base spare held n 3 (List.take (Program.cellsOf Tryz.prog 3) (List.drop 0 [v0,v1,v2,v3,v4,v5,v6]))=some x0:=hf 0 _ rfl
    rw [cI] at k;exact k
   have k1:DataW.trod enc Tryz.prog w base spare held n 26 [v1,v2,v3]=some x1:=by
    have k:DataW.trod enc Tryz.prog w base spare held n 26 (List.take (Program.cellsOf Tryz.prog 26) (List.drop 1 [v0,v1,v2,v3,v4,v5,v6]))=some x1:=hf 1 _ rfl
    rw [cT] at k;exact k
   have k2:DataW.trod enc Tryz.prog w base spare held n 26 [v4,v5,v6]=some x2:=by
    have k:DataW.trod enc Tryz.prog w base spare held n 26 (List.take (Program.cellsOf Tryz.prog 26) (List.drop 4 [v0,v1,v2,v3,v4,v5,v6]))=some x2:=hf 2 _ rfl
    rw [cT] at k;exact k
   obtain ⟨op,e0,rfl,w0⟩:=DataW.trod_int T.u3 k0
   obtain ⟨l,e1,_,b1,_⟩:=Jiq k1
   obtain ⟨r,e2,_,b2,_⟩:=Jiq k2
   simp only [tmC,List.cons.injEq,and_true] at e0 e1 e2
   obtain ⟨rfl,rfl,rfl⟩:=e1
   obtain ⟨rfl,rfl,rfl⟩:=e2
   subst e0
   refine ⟨⟨op,l,r⟩,rfl,?_⟩
   simp only [Rows.uptoBulk]
   omega
theorem trod_tests {fuel:Nat}{cs:List Value}{x:DataW H × List MemPlace}(h:DataW.trod enc Tryz.prog w base spare held fuel 30 cs=some x):
  ∃ a c ts,cs=[.slice a ts.length c]∧RS w a ts∧ts.length+1≤Rows.uptoBulk x.1:=by
 obtain ⟨a,c,ts,e,ha,hat,_,hb⟩:=Jjz T00 (s:=7) T.u30 (by kernel_rfl) tsC (fun _=>rfl) (fun _=>True) (fun _=>1) (fun fuel cs x hx=>by
  obtain ⟨t,e,h2⟩:=trod_test hx
  exact ⟨t,e,trivial,h2⟩) h
 have h1:=Jop (fun _:Ts=>1) (k:=1) (fun _=>Nat.le_refl _) ts
 exact ⟨a,c,ts,e,⟨ha,hat⟩,by omega⟩
def wtC (g:CG):Nat:=wtA g.hd+(g.bd.map wtA).sum+g.ts.length+3
set_option maxRecDepth 100000 in
theorem trod_clause {fuel:Nat}{cs:List Value}{x:DataW H × List MemPlace}(h:DataW.trod enc Tryz.prog w base spare held fuel 32 cs=some x):
  ∃ g:CG,cs=cgC g∧RC w g∧wtC g≤Rows.uptoBulk x.1:=by
 obtain ⟨xs,n,rfl,rfl,hl,hxs,hf⟩:=DataW.trod_struct T.u32 h
 have hl7:cs.length=7:=by rw [hl];kernel_rfl
 have cA:Program.cellsOf Tryz.prog 29=5:=by kernel_rfl
 have cL:Program.cellsOf Tryz.prog 22=1:=by kernel_rfl
 have cS:Program.cellsOf Tryz.prog 30=1:=by kernel_rfl
 match cs,hl7 with
 | [v0,v1,v2,v3,v4,v5,v6],_=>
  match xs,hxs with
  | [x0,x1,x2],_=>
   have k0:DataW.trod enc Tryz.prog w base spare held n 29 [v0,v1,v2,v3,v4]=some x0:=by
    have k:DataW.trod enc Tryz.prog w base spare held n 29 (List.take (Program.cellsOf Tryz.prog 29) (List.drop 0 [v0,v1,v2,v3,v4,v5,v6]))=some x0:=hf 0 _ rfl
    rw [cA] at k;exact k
   have k1:DataW.trod enc Tryz.prog w base spare held n 22 [v5]=some x1:=by
    have k:DataW.trod enc Tryz.prog w base spare held n 22 (List.take (Program.cellsOf Tryz.prog 22) (List.drop 5 [v0,v1,v2,v3,v4,v5,v6]))=some x1:=hf 1 _ rfl
    rw [cL] at k;exact k
   have k2:DataW.trod enc Tryz.prog w base spare held n 30 [v6]=some x2:=by
    have k:DataW.trod enc Tryz.prog w base spare held n 30 (List.take (Program.cellsOf Tryz.prog 30) (List.drop 6 [v0,v1,v2,v3,v4,v5,v6]))=some x2:=hf 2 _ rfl
    rw [cS] at k;exact k
   obtain ⟨y,e0,r0,b0⟩:=trod_atom k0
   obtain ⟨ba,bc,bd,e1,r1,b1⟩:=Jir k1
   obtain ⟨ta,tc,ts,e2,r2,b2⟩:=trod_tests k2
   simp only [agC,atC,List.cons.injEq,and_true] at e0 e1 e2
   obtain ⟨rfl,rfl,rfl,rfl,rfl⟩:=e0
   subst e1;subst e2
   refine ⟨⟨y,ba,bc,bd,ta,tc,ts⟩,rfl,⟨r0,r1,r2⟩,?_⟩
   simp only [List.map_cons,List.map_nil,Rows.uptoBulk,Rows.uptoBulkAll,wtC]
   omega
set_option maxRecDepth 100000 in
theorem open_clause {v:Value}{d:DataW H}{p:List MemPlace}(hv:Value.okWide Tryz.prog w r b0 32 v)(h:DataW.Trod enc Tryz.prog w base spare held 32 v d p):
  ∃ g:CG,v=cgV g∧RC w g∧wtC g≤Rows.uptoBulk d:=by
 obtain ⟨fuel,hf⟩:=h
 obtain ⟨g,e,h1,h2⟩:=trod_clause hf
 have ha:∃ cs,v=.agg cs:=by
  unfold Value.okWide at hv
  rw [T.u32] at hv
  cases v <;> simp_all
 obtain ⟨cs,rfl⟩:=ha
 refine ⟨g,?_,h1,h2⟩
 have e2:cs.toList=cgC g:=e
 show Value.agg cs=Value.agg (cgC g).toArray
 rw [show cs=(cgC g).toArray from by rw [← e2]]
theorem clause_ok {g:CG}(h:wtC g≤1048576):(∀ y,y=g.hd∨y∈g.bd→y.x.args.length≤1048576∧y.x.name.size≤1099511627776)∧g.bd.length≤1048576∧g.ts.length≤1048576:=by
 unfold wtC at h
 have h1:=Jop wtA (k:=1) (fun y=>by unfold wtA;omega) g.bd
 refine ⟨fun y hy=>?_,by omega,by omega⟩
 have h3:wtA y=y.x.name.size+y.x.args.length+7:=rfl
 rcases hy with rfl | hy
 ·omega
 ·have h2:=le_sum wtA hy
  omega
theorem none_laid {fuel:Nat}{cs:Array Value}{q:List MemPlace}(hg:Program.globalNamed Tryz.prog "hearsay/term.none"=some 0)(hv:w.var? Tryz.prog "hearsay/term.none"=some cs)(hd:DataW.trod enc Tryz.prog w base spare held fuel 26 cs.toList=some (Rows.laid_hearsay_term_none,q)):Jcy w:=by
 obtain ⟨t,e,_,_,ht⟩:=Jiq hd
 have ht0:t=T0:=by
  simp only [Rows.laid_hearsay_term_none,DataW.agg.injEq,List.cons.injEq,DataW.lit.injEq,Lit.int.injEq,true_and,Lit.string.injEq,and_true] at ht
  obtain ⟨h1,h2,h3⟩:=ht
  obtain ⟨k,n,s⟩:=t
  simp only at h1 h2 h3
  subst h1;subst h2
  have:s=E0:=by
   obtain ⟨⟨l⟩⟩:=s
   have h4:([]:List UInt8)=l:=h3
   subst h4;rfl
  rw [this];rfl
 intro j v hj
 rw [World.var?_cell hg hv j,← Array.getElem?_toList,e,ht0]
 exact hj
theorem Jfe {fuel:Nat}{v:Value}{x:DataW (List UInt8) × List MemPlace}{b:UInt8}{s:List UInt8}{f0:FuncId}(hone:((List.range (Tryz.prog).funcs.size).filter fun f=>((Tryz.prog).funcs[f]?).any (·.name.toUTF8.data.toList == b::s))=[f0]) 
  (h:DataW.trod (funcToken Tryz.prog) Tryz.prog w 0 (fun _=>true) true fuel 231 [v]=some x) (hx:x.1=.agg [.held (b::s)]):v=.func (.func f0) #[] #[]:=by
 obtain ⟨xs,n,rfl,rfl,hl,hxs,hf⟩:=DataW.trod_struct T.u231 h
 have c1:Program.cellsOf Tryz.prog 189=1:=by kernel_rfl
 match xs,hxs with
 | [x0],_=>
  have k:DataW.trod (funcToken Tryz.prog) Tryz.prog w 0 (fun _=>true) true n 189 (List.take (Program.cellsOf Tryz.prog 189) (List.drop 0 [v]))=some x0:=hf 0 _ rfl
  rw [c1] at k
  have k1:DataW.trod (funcToken Tryz.prog) Tryz.prog w 0 (fun _=>true) true n 189 [v]=some x0:=k
  simp only [List.map_cons,List.map_nil,DataW.agg.injEq,List.cons.injEq,and_true] at hx
  obtain ⟨d,q⟩:=x0
  simp only at hx
  subst hx
  exact func_of_trod T.u189 hone k1
set_option maxRecDepth 100000 in
theorem checks_laid {d:DataW Unit}(hd:d.funcsOut=.agg [.agg [.held [104,101,97,114,115,97,121,47,99,108,97,117,115,101,46,116,111,111,76,111,110,103]],.agg [.held [104,101,97,114,115,97,121,47,99,108,97,117,115,101,46,98,97,100,65,116,111,109]],.agg [.held [104,101,97,114,115,97,121,47,99,108,97,117,115,101,46,98,97,100,84,101,115,116]],.agg [.held [104,101,97,114,115,97,121,47,99,108,97,117,115,101,46,111,112,101,110,72,101,97,100]],.agg [.held [104,101,97,114,115,97,121,47,99,108,97,117,115,101,46,117,110,115,97,102,101]],.agg [.held [104,101,97,114,115,97,121,47,99,108,97,117,115,101,46,109,105,115,110,117,109,98,101,114,101,100]]])(h:funcsAt Tryz.prog w "hearsay/clause.checks" d):Jjg w:=by
 obtain ⟨g,t,cs,fuel,p,hg,ht,hv,h⟩:=h
 obtain rfl:=Option.some.inj ((show Program.globalNamed Tryz.prog "hearsay/clause.checks"=some 2 by kernel_rfl).symm.trans hg)
 obtain rfl:=Option.some.inj ((show ((Tryz.prog).globals[2]?).map (·.type)=some 232 by kernel_rfl).symm.trans ht)
 rw [hd] at h
 obtain ⟨xs,m,rfl,hx,hl,hxl,hf⟩:=DataW.trod_array T.u232 h
 have hl6:cs.toList.length=6:=by rw [hl];kernel_rfl
 have c1:Program.cellsOf Tryz.prog 231=1:=by kernel_rfl
 rw [c1] at hf
 have hvc:=World.var?_cell hg hv
 obtain ⟨l⟩:=cs
 simp only at hl6 hf
 match l,hl6,xs,hxl with
 | [v0,v1,v2,v3,v4,v5],_,[x0,x1,x2,x3,x4,x5],_=>
  simp only [List.map_cons,List.map_nil,Prod.mk.injEq,DataW.agg.injEq,List.cons.injEq,and_true] at hx
  obtain ⟨⟨h0,h1,h2,h3,h4,h5⟩,_⟩:=hx
  obtain rfl:=Jfe (f0:=258) (by kernel_rfl) (hf 0 (by omega):_=some x0) h0.symm
  obtain rfl:=Jfe (f0:=259) (by kernel_rfl) (hf 1 (by omega):_=some x1) h1.symm
  obtain rfl:=Jfe (f0:=260) (by kernel_rfl) (hf 2 (by omega):_=some x2) h2.symm
  obtain rfl:=Jfe (f0:=261) (by kernel_rfl) (hf 3 (by omega):_=some x3) h3.symm
  obtain rfl:=Jfe (f0:=262) (by kernel_rfl) (hf 4 (by omega):_=some x4) h4.symm
  obtain rfl:=Jfe (f0:=263) (by kernel_rfl) (hf 5 (by omega):_=some x5) h5.symm
  intro j v hj
  rw [hvc j,← Array.getElem?_toList]
  exact hj
end
def bL (n:Nat)(p:Nat→Bool):List Value:=(List.range n).map fun i=>.bool (p i)
theorem nodup_sub {l m:List Tm}(h:l.Nodup)(hs:∀ x∈l,x∈m):l.length≤m.length:=by
 induction l generalizing m with
 | nil=>exact Nat.zero_le _
 | cons x l ih=>
  obtain ⟨h1,h2⟩:=List.nodup_cons.1 h
  have h3:=ih (m:=m.erase x) h2 fun y hy=>(List.mem_erase_of_ne (fun e:y=x=>h1 (by rw [← e];exact hy))).2 (hs y (.tail _ hy))
  have h4:=List.length_erase_of_mem (hs x (.head _))
  have h5:0<m.length:=List.length_pos_of_mem (hs x (.head _))
  simp only [List.length_cons]
  omega
theorem plc_length (x:At):(plc x).length=x.args.length+1:=by simp [plc]
theorem bodyTm_le {c:Cl}(h:∀ a∈c.bd,a.args.length≤8):(Jcf c).length≤9*c.bd.length:=by
 unfold Jcf
 generalize c.bd=l at h
 induction l with
 | nil=>simp
 | cons a l ih=>
  have h1:=ih fun b hb=>h b (.tail _ hb)
  have h2:=h a (.head _)
  simp only [List.flatMap_cons,List.length_append,List.length_cons,plc_length]
  omega
theorem VC.args {c:Cl}(h:VC c){a:At}(ha:a∈c.bd):a.args.length≤8:=(chkA_zero.1 (h.bd a ha)).2.1
theorem VC.body72 {c:Cl}(h:VC c):(Jcf c).length≤72:=by
 have h1:=bodyTm_le fun a ha=>h.args ha
 have:=h.bl
 omega
theorem VC.nV72 {c:Cl}(h:VC c):nV c≤72:=by
 refine Nat.le_trans (nodup_sub (m:=Jcf c) (dedV_nodup _) fun t ht=>?_) h.body72
 have h2:=(Jgf _ _).1 ht
 have h3:=h2.1
 unfold Ja1 at h3
 simp only [List.mem_append] at h3
 rcases h3 with hh | hh | hh
 ·exact h.safe _ (by simp [hh]) h2.2
 ·exact hh
 ·exact h.safe _ (by simp [hh]) h2.2
theorem VC.cs {g:CG}(h:VC g.cl):CS g where
 at_:=fun y hy=>by
  have h1:chkA y.x=0:=by
   rcases hy with rfl | hy
   ·exact h.hd
   ·exact h.bd _ (List.mem_map.2 ⟨y,hy,rfl⟩)
  obtain ⟨hn,hl,_⟩:=chkA_zero.1 h1
  refine ⟨by omega,?_⟩
  unfold nameB at hn
  rw [decide_eq_true_eq] at hn
  have:=hn.2.1
  omega
 bl:=by have h1:=h.bl;rw [show g.cl.bd.length=g.bd.length from List.length_map _] at h1;omega
 tl:=by have h1:=h.tl;have:g.ts.length≤8:=h1;omega
 tt:=by
  rw [Jf7]
  have h0:=plc_length g.cl.hd
  have h1:=h.body72
  have h2:=(chkA_zero.1 h.hd).2.1
  have h3:=h.tl
  omega
theorem pick1_ok {c:Cl}{lead:Option Nat}(hlead:∀ l,lead=some l→l<c.bd.length){jo:List Nat}{V:List Int}(hn:jo.Nodup)(hb:∀ i∈jo,i<c.bd.length)(hl:jo.length<c.bd.length):pick1 c lead jo V∉jo∧pick1 c lead jo V<c.bd.length:=by
 obtain ⟨y,h1,h2,h3⟩:=Jn5 (V:=V) hn hb hl
 unfold pick1
 split
 ·rename_i h
  obtain ⟨l,hl2⟩:=Option.isSome_iff_exists.1 h.2
  rw [h.1,hl2]
  exact ⟨by simp,hlead l hl2⟩
 ·rw [h1];exact ⟨h2,h3⟩
structure St where
 jo:List Nat
 V:List Int
 A:List Nat
def stN (c:Cl)(lead:Option Nat)(s:St):Jn:=
 ⟨pick1 c lead s.jo s.V,Jbs s.V (clA c (pick1 c lead s.jo s.V)),Jdz c (s.V++Jaq (clA c (pick1 c lead s.jo s.V))) s.A⟩
def stS (c:Cl)(lead:Option Nat)(s:St):St:=⟨s.jo++[(stN c lead s).a],s.V++Jaq (clA c (stN c lead s).a),s.A++(stN c lead s).ts⟩
def stP (c:Cl)(lead:Option Nat):Nat→St
 | 0=>⟨[],[],Jbm c⟩
 | i+1=>stS c lead (stP c lead i)
structure StOK (c:Cl) (s:St) (i:Nat):Prop where
 len:s.jo.length=i
 nd:s.jo.Nodup
 jb:∀ k∈s.jo,k<c.bd.length
 hV:∀ v,v∈s.V↔∃ k∈s.jo,v∈Jaq (clA c k)
 hA:∀ k,k<c.ts.length→(Jid s.V (clT c k)=true↔k∈s.A)
theorem stP_ok {c:Cl}{lead:Option Nat}(hlead:∀ l,lead=some l→l<c.bd.length):∀ i,i≤c.bd.length→StOK c (stP c lead i) i
 | 0,_=>⟨rfl,List.nodup_nil,by simp [stP],fun v=>by simp [stP],fun k hk=>by
   show _↔k∈Jbm c
   rw [mem_aheadP,Jjn]
   constructor
   ·intro h
    refine ⟨hk,List.eq_nil_iff_forall_not_mem.2 fun v hv=>?_⟩
    have:=h v hv
    simp [stP] at this
   ·rintro ⟨_,h⟩ v hv
    rw [h] at hv;cases hv⟩
 | i+1,hi=>by
  have ih:=stP_ok hlead i (by omega)
  obtain ⟨h1,h2⟩:=pick1_ok (V:=(stP c lead i).V) hlead ih.nd ih.jb (by rw [ih.len];omega)
  refine ⟨?_,?_,?_,fun v=>?_,fun k hk=>?_⟩
  ·show ((stP c lead i).jo++[_]).length=i+1
   rw [List.length_append,ih.len];rfl
  ·show ((stP c lead i).jo++[_]).Nodup
   exact List.nodup_append.2 ⟨ih.nd,by simp,fun x hx z hz=>by simp only [List.mem_singleton] at hz;subst hz;rintro rfl;exact h1 hx⟩
  ·intro k hk
   rcases List.mem_append.1 (show k∈(stP c lead i).jo++[_] from hk) with h | h
   ·exact ih.jb k h
   ·simp only [List.mem_singleton] at h;rw [h];exact h2
  ·show v∈(stP c lead i).V++_↔∃ k∈(stP c lead i).jo++[_],_
   rw [List.mem_append,ih.hV]
   constructor
   ·rintro (⟨k,hk,hv⟩ | hv)
    ·exact ⟨k,by simp [hk],hv⟩
    ·exact ⟨_,by simp,hv⟩
   ·rintro ⟨k,hk,hv⟩
    rcases List.mem_append.1 hk with h | h
    ·exact Or.inl ⟨k,h,hv⟩
    ·simp only [List.mem_singleton] at h;rw [h] at hv;exact Or.inr hv
  ·have hmono:Jid (stP c lead i).V (clT c k)=true→Jid (stP c lead (i+1)).V (clT c k)=true:=fun h=>by
    rw [Jjn] at h ⊢
    exact fun v hv=>List.mem_append_left _ (h v hv)
   show _↔k∈(stP c lead i).A++(stN c lead (stP c lead i)).ts
   rw [List.mem_append]
   constructor
   ·intro h
    by_cases hm:k∈(stP c lead i).A
    ·exact Or.inl hm
    ·exact Or.inr (List.mem_filter.2 ⟨List.mem_range.2 hk,by rw [Bool.and_eq_true,decide_eq_true_eq];exact ⟨h,hm⟩⟩)
   ·rintro (h | h)
    ·exact hmono ((ih.hA k hk).2 h)
    ·have h3:=(List.mem_filter.1 h).2
     rw [Bool.and_eq_true] at h3
     exact h3.1
theorem Joy {c:Cl}{lead:Option Nat}:∀ (n:Nat) (s:St),mkR c lead (n+1) s.jo s.V s.A=stN c lead s::mkR c lead n (stS c lead s).jo (stS c lead s).V (stS c lead s).A:=fun _ _=>rfl
theorem makeP_drop {c:Cl}{lead:Option Nat}:∀ i,i≤c.bd.length→(makeP c lead).drop i=mkR c lead (c.bd.length - i) (stP c lead i).jo (stP c lead i).V (stP c lead i).A
 | 0,_=>rfl
 | i+1,hi=>by
  have ih:=makeP_drop (c:=c) (lead:=lead) i (by omega)
  have h1:(makeP c lead).drop (i+1)=((makeP c lead).drop i).drop 1:=by rw [List.drop_drop]
  rw [h1,ih,show c.bd.length - i=(c.bd.length - (i+1))+1 by omega,Joy]
  rfl
theorem makeP_at {c:Cl}{lead:Option Nat}{i:Nat}(hi:i<c.bd.length):(makeP c lead)[i]?=some (stN c lead (stP c lead i)):=by
 have h1:=makeP_drop (c:=c) (lead:=lead) i (by omega)
 have h2:((makeP c lead).drop i)[0]?=(makeP c lead)[i]?:=by rw [List.getElem?_drop,Nat.add_zero]
 rw [← h2,h1,show c.bd.length - i=(c.bd.length - (i+1))+1 by omega,Joy]
 rfl
theorem Jlt {c:Cl}{lead:Option Nat}:(makeP c lead).length=c.bd.length:=by
 have h1:∀ (n:Nat) (s:St),(mkR c lead n s.jo s.V s.A).length=n:=by
  intro n
  induction n with
  | zero=>intro s;rfl
  | succ n ih=>intro s;rw [Joy,List.length_cons,ih]
 exact h1 _ ⟨[],[],Jbm c⟩
theorem jnEq.at_ {js:List JG}{l:List Jn}(h:jnEq js l){i:Nat}{y:JG}{j:Jn}(hy:js[i]?=some y)(hj:l[i]?=some j):y.a=j.a∧y.kn=nI j.kn∧y.ts=nI j.ts:=by
 have h1:=congrArg (·[i]?) h
 simp only [List.getElem?_map,hy,hj,Option.map_some,Option.some.injEq,Prod.mk.injEq] at h1
 exact h1
theorem jnEq.len {js:List JG}{l:List Jn}(h:jnEq js l):js.length=l.length:=by
 have h1:=congrArg List.length h
 simpa using h1
theorem ts_new {c:Cl}{lead:Option Nat}{s:St}:∀ k∈(stN c lead s).ts,k<c.ts.length∧k∉s.A:=fun k hk=>by
 obtain ⟨h1,h2⟩:=List.mem_filter.1 hk
 rw [Bool.and_eq_true,decide_eq_true_eq] at h2
 exact ⟨List.mem_range.1 h1,h2.2⟩
theorem ahead_at {c:Cl}{k:Nat}(h:k∈Jbm c):k<c.ts.length∧varB (clT c k).l=false∧varB (clT c k).r=false:=by
 obtain ⟨h1,h2⟩:=List.mem_filter.1 h
 rw [Bool.and_eq_true] at h2
 exact ⟨List.mem_range.1 h1,by simpa using h2.1,by simpa using h2.2⟩
end Go.Proofs.YtgebaodagaecmaaGreatDoor
namespace Go.Hw
set_option linter.unusedVariables false
set_option linter.unusedSimpArgs false
open Go Go.RowKit
section
variable {w0 ws w:World} {M I:Nat→Prop} {ow:List Item}
theorem Sat.rowCut {T s m cap:Nat}{a:Option Addr}{xs:List Value}(h:Sat w0 M I ws (row T s a m cap xs::ow) w){k:Nat}(hk:k≤m):Sat w0 M I ws (row T s a k cap (xs.take (k*s))::ow) w:=by
 have hown:w.ownsRow 0 T s (.slice a m cap) m xs:=h.it _ (.head _)
 refine h.turn (Fr.refl _ _) ⟨?_,?_⟩ (fun b hb=>Or.inl hb)
 ·rw [List.length_take,hown.1]
  exact Nat.min_eq_left (Nat.mul_le_mul_right _ hk)
 ·rcases hown.2 with ⟨hv,h0⟩ | ⟨g,c,cur,hv,hg0,hg,hmc,hcm,hcs,htake⟩
  ·simp only [Value.slice.injEq] at hv
   obtain ⟨rfl,rfl,rfl⟩:=hv
   have hk0:k=0:=by omega
   subst hk0
   exact .inl ⟨rfl,rfl⟩
  ·simp only [Value.slice.injEq] at hv
   obtain ⟨rfl,_,rfl⟩:=hv
   refine .inr ⟨g,cap,cur,rfl,hg0,hg,by omega,hcm,hcs,?_⟩
   rw [← htake,List.take_take,Nat.min_eq_left (Nat.mul_le_mul_right _ hk)]
end
section
variable {P:Program} {w0 ws:World} {M I:Nat→Prop} {ow:List Item} {ops:Array Oper} {Q:Post} {n:Nat} {ds:DS} {e:Env} {rest:List Oper} {S S':World→Prop}
theorem WL.runV {op:Op}{t:TypeId}{p:String}{af:Array Edge}(hr:∀ a w,Fits n ds e a→S w→∃ v w',(execOp a.eval ⟨none,op,t,p,af,none⟩).run P w=.ok (.value v) w'∧S' w') 
  (h:WL P ops Q n ds e S' rest):WL P ops Q n ds e S (⟨none,op,t,p,af,none⟩::rest):=by
 intro a w ha hw
 unfold wpListIn
 rw [if_pos (Jc0 rfl)]
 refine ⟨fun f _=>Jf3 _ f,?_⟩
 obtain ⟨v,w',h1,h2⟩:=hr a w ha hw
 rw [Jey h1 (fun _=>by simp)]
 exact h _ _ ha h2
theorem WL.clearRow {T m cap o cl b l:Nat}{a:Option Addr}{xs:List Value}{z:Value}{q:Operand}{t1 t:TypeId}{p:String}{af:Array Edge}(hx:ev e q=some (.slice (some ⟨b,o,none⟩) l cl))(ha:a=some ⟨b,0,none⟩)(hu:P.underlying t1=some (.slice T))(hz:P.zr T=some [z].toArray)(h1:z.oneCell'=true)(hl:0<l)(ho:o+l=m) 
  (h:WL P ops Q n ds e (Sat w0 M I ws (row T 1 a m cap (xs.take o++List.replicate l z)::ow)) rest) :
  WL P ops Q n ds e (Sat w0 M I ws (row T 1 a m cap xs::ow)) (⟨none,.call ⟨.builtin .clear,#[q],#[t1]⟩,t,p,af,none⟩::rest):=by
 subst ha
 refine WL.runV (S':=Sat w0 M I ws (row T 1 (some ⟨b,0,none⟩) m cap (xs.take o++List.replicate l z)::ow)) (fun ac w ha hw=>?_) h
 have hown:w.ownsRow 0 T 1 (.slice (some ⟨b,0,none⟩) m cap) m xs:=hw.it _ (.head _)
 rcases hown.2 with ⟨hv,_⟩ | ⟨g,c,cur,hv,hg0,hg,hmc,hcm,hcs,htake⟩
 ·cases hv
 ·simp only [Value.slice.injEq,Option.some.injEq,Addr.mk.injEq,and_true] at hv
  obtain ⟨rfl,_,rfl⟩:=hv
  have hlen:=hown.1
  have hcl:cur.toList.length=cur.size:=Array.length_toList
  have hs:=run_storeCells_at P b o T (List.replicate l z) 0 cur w hg (by rw [List.length_replicate];omega) (fun v hv=>by rw [List.eq_of_mem_replicate hv];exact h1)
  simp only [Nat.add_zero] at hs
  obtain ⟨zv,hzv,hc⟩:=Jf9 hz w
  have hz1:zv.cells=#[z]:=hc
  have hzc:(Builtin.zeroCells zv.cells l).toList=List.replicate l z:=by
   rw [hz1]
   simp [Builtin.zeroCells]
   apply List.ext_getElem
   ·simp
   ·intro i h1 h2
    simp [Nat.mod_one]
  obtain ⟨l',rfl⟩:∃ l',l=l'+1:=⟨l - 1,by omega⟩
  refine ⟨.tuple #[],w.setRow b (cur.toList.take o++List.replicate (l'+1) z++cur.toList.drop (o+(l'+1))).toArray,?_,?_⟩
  ·rw [List.length_replicate] at hs
   simp [execOp,resolve,invoke,builtin,ha.eval hx,Builtin.clear_,run_underlying hu,hzv,hzc,hs]
  ·refine hw.turn ((Fr.setRow _ _ _).mono (fun i hi=>⟨_,rfl,by subst hi;rfl⟩)) ⟨?_,.inr ⟨b,cap,_,rfl,hg0,setRow_heap w b cur _ T (0,0) hg,hmc,hcm,?_,?_⟩⟩ (fun q hq=>.inl hq)
   ·simp only [List.length_append,List.length_take,List.length_replicate];omega
   ·simp only [List.size_toArray,List.length_append,List.length_take,List.length_drop,List.length_replicate]
    omega
   ·have h4:=take_set_mid (o:=o) (vs:=List.replicate (l'+1) z) htake (by rw [List.length_replicate];omega) (by omega)
    rw [List.length_replicate] at h4
    show List.take (m*1) (cur.toList.take o++List.replicate (l'+1) z++cur.toList.drop (o+(l'+1)))=_
    rw [h4,List.drop_eq_nil_of_le (by omega),List.append_nil]
theorem OV.sliceFrom1 {b m cp l:Nat}{el lt t:TypeId}{p:String}{af:Array Edge}{dst:Option Tmp}{g:Option (Nat × Bool)}{x lo:Operand}(hx:ev e x=some (.slice (some ⟨b,0,none⟩) m cp))(hu:P.underlying lt=some (.slice el))(hz:P.sz el=some 1)(hlo:ev e lo=some (.int .i64 (l:Int)))(h1:l<m)(h2:m≤cp):
  OV P n ds e S ⟨dst,.slice lt x (some lo) none none,t,p,af,g⟩ (.slice (some ⟨b,l,none⟩) (m - l) (cp - l)):=
 (OV.me (ml:=some l) (mh:=none) (l:=l) (h:=m) hx hu hz (by simp only [bnd,hlo]) rfl rfl rfl (by omega)).cast (by
  rw [if_neg (by omega),Option.map_some,Nat.mul_one,Jap,Nat.zero_add])
end
end Go.Hw
set_option maxRecDepth 10000
namespace Go.Proofs.YtgebaodagaecmaaGreatDoor
open Go Go.Hw
set_option linter.unusedSimpArgs false
set_option linter.unusedVariables false
instance:Inhabited TG:=⟨⟨[],none,0⟩⟩
def kpB (ts:List TG)(p:Nat):Bool:=decide (p=0) || !decide (Jby cmpT (ts.getD p default).l (ts.getD (p - 1) default).l=0)
def kpL (ts:List TG)(j:Nat):List Nat:=(List.range j).filter (kpB ts)
def kpT (ts:List TG)(j:Nat):List TG:=(kpL ts j).map fun p=>ts.getD p default
def dupT (ts:List TG):List TG:=kpT ts ts.length
theorem kpT_len (ts:List TG)(j:Nat):(kpT ts j).length=(kpL ts j).length:=List.length_map _
theorem kpT_le (ts:List TG)(j:Nat):(kpT ts j).length≤j:=by rw [kpT_len];exact Jep _ _
theorem Jke (ts:List TG)(j:Nat):kpT ts (j+1)=kpT ts j++if kpB ts j=true then [ts.getD j default] else []:=by
 unfold kpT kpL
 rw [Jer,List.map_append]
 split <;> rfl
theorem Jn8 {ts:List TG}:∀ {j:Nat},j≤ts.length→(∀ p,p<j→kpB ts p=true)→kpT ts j=ts.take j
 | 0,_,_=>rfl
 | j+1,hj,h=>by
  rw [Jke,if_pos (h j (by omega)),Jn8 (by omega) fun p hp=>h p (by omega)]
  obtain ⟨x,hx⟩:∃ x,ts[j]?=some x:=⟨_,List.getElem?_eq_getElem (by omega)⟩
  rw [Jb2 hx,List.getD_eq_getElem?_getD,hx];rfl
theorem getD_range {α:Type}(d:α)(l:List α):(List.range l.length).map (fun p=>l.getD p d)=l:=by
 refine List.ext_getElem? fun i=>?_
 by_cases h:i<l.length
 ·rw [List.getElem?_map,List.getElem?_range h,Option.map_some,List.getD_eq_getElem?_getD,List.getElem?_eq_getElem h];rfl
 ·rw [List.getElem?_eq_none (by simp;omega),List.getElem?_eq_none (by omega)]
theorem dupT_sub (ts:List TG):(dupT ts).Sublist ts:=by
 unfold dupT kpT kpL
 conv=>rhs;rw [← getD_range default ts]
 exact List.filter_sublist.map _
theorem dupT_le (ts:List TG):(dupT ts).length≤ts.length:=(dupT_sub ts).length_le
set_option maxHeartbeats 1000000 in
theorem compRG_calls (ts:List TG)(hsz:∀ y∈ts,y.l.length≤1099511627776)(b c:Nat)(h2:2≤ts.length)(hc:ts.length≤c)(hm:ts.length≤1099511627776)(w:World)(hA:Holds (rowR (some ⟨b,0,none⟩) c ts::ts.map tgA) w):Calls Tryz.prog 44 #[.slice (some ⟨b,0,none⟩) ts.length c,(.func (.func 45) #[] #[])] w fun e w'=>e=.returned (.slice (some ⟨b,0,none⟩) (dupT ts).length c)∧Turns (rowR (some ⟨b,0,none⟩) c ts::ts.map tgA) (rowR (some ⟨b,0,none⟩) c (dupT ts)::(dupT ts).map tgA) w w':=by
 refine Jdl hA (args:=[.slice (some ⟨b,0,none⟩) ts.length c,(.func (.func 45) #[] #[])]) Tryz.func44 rfl Tryz.ntmps44 rfl rfl ?_
 refine Csr (Za rfl (Nn (Cs (Csr (Zm rfl (Zv (OV.ae rfl T.u39) (Zv ((OV.cm rfl rfl).cast (u:=.bool false) (congrArg Value.bool (decide_eq_false (by omega)))) (Nn (WC.bu (show _=some (Value.bool false) from by rfl) ?_)))))))))
 refine Ck (Xn (Cs (Csr (Za rfl (Nn (Cb ?_))))))
 refine WC.cg (fun (i:Nat)=>[(0,.slice (some ⟨b,0,none⟩) ts.length c),(1,(.func (.func 45) #[] #[])),(5,.int .i64 (i:Int))])
   (fun i w'=>(1≤i∧i≤ts.length∧∀ p,p<i→kpB ts p=true)∧SatA w (rowR (some ⟨b,0,none⟩) c ts::ts.map tgA) (row 27 1 (some ⟨b,0,none⟩) ts.length c (ts.map tgV)::ts.map tgA) w')
   (fun i=>ts.length - i) 1 Y3 (fun w' hw=>⟨⟨by omega,by omega,fun p hp=>by (obtain rfl:p=0:=(by omega));rfl⟩,hw⟩) ?_
 intro i
 refine WC.pure (fun hi=>?_)
 obtain ⟨hi1,hi,hK⟩:=hi
 refine Cs (Csr (Zm rfl (Zm rfl (Zv (OV.ae rfl T.u39) (Zv (OV.cm rfl rfl) (Nn ?_))))))
 refine Cc rfl (fun c15=>?_) (fun c15=>?_)
 ·refine Ck (Xn (Cs (Cb (Cs ?_))))
  obtain ⟨y,hy⟩:∃ y,ts[i]?=some y:=⟨_,List.getElem?_eq_getElem (by omega)⟩
  obtain ⟨z,hz⟩:∃ y,ts[i - 1]?=some y:=⟨_,List.getElem?_eq_getElem (by omega)⟩
  have hgy:ts.getD i default=y:=by rw [List.getD_eq_getElem?_getD,hy];rfl
  have hgz:ts.getD (i - 1) default=z:=by rw [List.getD_eq_getElem?_getD,hz];rfl
  refine Hq [10] (m:=11) rfl ?_
  refine Hf 0 rfl (OV.aw rfl) (Hf 1 rfl (OV.aw rfl) (Hf 2 rfl (OV.aw rfl) (Hf 3 rfl ((OV.dy rfl rfl T.u39 T.z27 (by omega)).cast (u:=.pointer (some ⟨b,i,none⟩)) (by first | rfl | (congr 3;omega))) ?_)))
  refine Ht 4 rfl (OV.ah (v:=tgV y) rfl T.u27 rfl (fun _ hw=>by have h:=Jd1 hw rfl (.head _) (i) (tgV y) (by rw [List.getElem?_map,hy,Option.map_some]);rwa [Jap,Nat.zero_add] at h)) ?_
  refine Hf 5 rfl (OV.aw rfl) (Hf 6 rfl (OV.aw rfl) (Hf 7 rfl ((OV.mr rfl rfl (by omega)).cast (u:=.int .i64 ((i - 1:Nat):Int)) (by congr 1;omega)) (Hf 8 rfl ((OV.dy rfl rfl T.u39 T.z27 (by omega)).cast (u:=.pointer (some ⟨b,i - 1,none⟩)) (by first | rfl | (congr 3;omega))) ?_)))
  refine Ht 9 rfl (OV.ah (v:=tgV z) rfl T.u27 rfl (fun _ hw=>by have h:=Jd1 hw rfl (.head _) (i - 1) (tgV z) (by rw [List.getElem?_map,hz,Option.map_some]);rwa [Jap,Nat.zero_add] at h)) ?_
  refine Ho 10 rfl (fl':=true) rfl ?_
  refine WL.e5 (f:=45) (caps:=[]) (vs:=[tgV y,tgV z]) (v:=.bool (decide (Jby cmpT y.l z.l=0))) (by kernel_rfl) rfl rfl rfl (fun w' hw'=>solveE_calls y.l z.l y.a z.a y.c z.c (hsz y (List.mem_of_getElem? hy)) (hsz z (List.mem_of_getElem? hz)) w' (RT.of_row (c:=y.c) rfl hw' (.tail _ (List.mem_map.2 ⟨y,List.mem_of_getElem? hy,rfl⟩))) (RT.of_row (c:=z.c) rfl hw' (.tail _ (List.mem_map.2 ⟨z,List.mem_of_getElem? hz,rfl⟩)))) ?_
  refine Hc (fun h=>by cases h) ?_
  refine He (Xn ?_)
  refine Cc rfl (fun c28=>?_) (fun c28=>?_)
  ·refine Csr (Zm rfl (Zm rfl (Zv (OV.sliceFrom1 rfl T.u39 T.z27 rfl (by omega) (by omega)) (Za rfl (Nn (Cs (Csr (Za rfl (Nn (Cb ?_))))))))))
   have hnk:kpB ts i=false:=by
    unfold kpB
    rw [hgy,hgz,Bool.or_eq_false_iff]
    exact ⟨decide_eq_false (by omega),by simpa using c28⟩
   have hall:kpT ts i=ts.take i:=Jn8 hi hK
   have hi1n:kpT ts (i+1)=ts.take i:=by rw [Jke,if_neg (by rw [hnk];simp),List.append_nil,hall]
   clear hgy hgz c28 hy hz
   obtain ⟨i0,rfl⟩:∃ j,j=i:=⟨i,rfl⟩
   refine WC.kx (fun (k:Nat) (C:List TG)=>[(0,.slice (some ⟨b,0,none⟩) ts.length c),(1,(.func (.func 45) #[] #[])),(5,.int .i64 ((kpT ts (i0+k)).length:Nat)),(6,.slice (some ⟨b,i0,none⟩) (ts.length - i0) (c - i0)),(7,.int .i64 (k:Int))])
     (fun k C w'=>((1≤k∧k≤ts.length - i0∧(kpT ts (i0+k)).length<i0+k∧C.length=ts.length)∧C.take (kpT ts (i0+k)).length=kpT ts (i0+k)∧∀ p,i0+k≤p+1→C[p]?=ts[p]?)∧SatA w (rowR (some ⟨b,0,none⟩) c ts::ts.map tgA) (row 27 1 (some ⟨b,0,none⟩) ts.length c (C.map tgV)::ts.map tgA) w')
     (fun k _=>ts.length - i0 - k) 1 ts ⟨rfl,rfl,by rw [hi1n,List.length_take,Nat.min_eq_left hi];rfl,rfl,rfl,trivial⟩ (fun w' hw=>⟨⟨⟨by omega,by omega,by rw [hi1n,List.length_take];omega,rfl⟩,by rw [hi1n,List.length_take,Nat.min_eq_left hi],fun p _=>rfl⟩,hw⟩) ?_
   intro k C
   refine WC.pure (fun hk=>?_)
   clear hK
   obtain ⟨⟨hk1,hk,hK,hCl⟩,hC1,hC2⟩:=hk
   refine Cs (Csr (Zm rfl (Zm rfl (Zv (OV.ae rfl T.u39) (Zv (OV.cm rfl rfl) (Nn ?_))))))
   refine Cc rfl (fun c35=>?_) (fun c35=>?_)
   ·refine Ck (Xn (Cs (Cb (Cs ?_))))
    obtain ⟨y,hy⟩:∃ y,ts[i0+k]?=some y:=⟨_,List.getElem?_eq_getElem (by omega)⟩
    obtain ⟨z,hz⟩:∃ y,ts[i0+k - 1]?=some y:=⟨_,List.getElem?_eq_getElem (by omega)⟩
    have hgy:ts.getD (i0+k) default=y:=by rw [List.getD_eq_getElem?_getD,hy];rfl
    have hgz:ts.getD (i0+k - 1) default=z:=by rw [List.getD_eq_getElem?_getD,hz];rfl
    have hkle:=kpT_le ts (i0+k)
    refine Hq [10] (m:=12) rfl ?_
    refine Hf 0 rfl (OV.aw rfl) (Hf 1 rfl (OV.aw rfl) (Hf 2 rfl (OV.aw rfl) (Hf 3 rfl ((OV.dy rfl rfl T.u39 T.z27 (by omega)).cast (u:=.pointer (some ⟨b,i0+k,none⟩)) (by first | rfl | (congr 3;omega))) ?_)))
    refine Ht 4 rfl (OV.ah (v:=tgV y) rfl T.u27 rfl (fun _ hw=>by have h:=Jd1 hw rfl (.head _) (i0+k) (tgV y) (by rw [List.getElem?_map,hC2 (i0+k) (by omega),hy,Option.map_some]);rwa [Jap,Nat.zero_add] at h)) ?_
    refine Hf 5 rfl (OV.aw rfl) (Hf 6 rfl (OV.aw rfl) (Hf 7 rfl ((OV.mr rfl rfl (by omega)).cast (u:=.int .i64 ((k - 1:Nat):Int)) (by congr 1;omega)) (Hf 8 rfl ((OV.dy rfl rfl T.u39 T.z27 (by omega)).cast (u:=.pointer (some ⟨b,i0+k - 1,none⟩)) (by first | rfl | (congr 3;omega))) ?_)))
    refine Ht 9 rfl (OV.ah (v:=tgV z) rfl T.u27 rfl (fun _ hw=>by have h:=Jd1 hw rfl (.head _) (i0+k - 1) (tgV z) (by rw [List.getElem?_map,hC2 (i0+k - 1) (by omega),hz,Option.map_some]);rwa [Jap,Nat.zero_add] at h)) ?_
    refine Ho 10 rfl (fl':=true) rfl ?_
    refine WL.e5 (f:=45) (caps:=[]) (vs:=[tgV y,tgV z]) (v:=.bool (decide (Jby cmpT y.l z.l=0))) (by kernel_rfl) rfl rfl rfl (fun w' hw'=>solveE_calls y.l z.l y.a z.a y.c z.c (hsz y (List.mem_of_getElem? hy)) (hsz z (List.mem_of_getElem? hz)) w' (RT.of_row (c:=y.c) rfl hw' (.tail _ (List.mem_map.2 ⟨y,List.mem_of_getElem? hy,rfl⟩))) (RT.of_row (c:=z.c) rfl hw' (.tail _ (List.mem_map.2 ⟨z,List.mem_of_getElem? hz,rfl⟩)))) ?_
    refine Hc (fun h=>by cases h) ?_
    refine Hf 11 rfl (OV.not rfl) (He (Xn ?_))
    refine Cc rfl (fun c49=>?_) (fun c49=>?_)
    ·refine Csr (Zm rfl (Zm rfl (Zm rfl (Zm rfl (Zv ((OV.dy rfl rfl T.u39 T.z27 (by omega)).cast (u:=.pointer (some ⟨b,i0+k,none⟩)) (by first | rfl | (congr 3;omega))) ?_)))))
     refine WL.val (OV.ah (v:=tgV y) rfl T.u27 rfl (fun _ hw=>by have h:=Jd1 hw rfl (.head _) (i0+k) (tgV y) (by rw [List.getElem?_map,hC2 (i0+k) (by omega),hy,Option.map_some]);rwa [Jap,Nat.zero_add] at h)) rfl ?_
     refine Zv ((OV.dy rfl rfl T.u39 T.z27 (by omega)).cast (u:=.pointer (some ⟨b,(kpT ts (i0+k)).length,none⟩)) (by first | rfl | (congr 3;omega))) (WL.storeRow (o:=(kpT ts (i0+k)).length) rfl rfl rfl rfl T.z27 (by rw [List.length_map];omega) ?_)
     refine Nn (Cr (Zm rfl (Zv (OV.bi (j:=1) rfl rfl (by omega)) (Za rfl (Nl (Xb (Xn (Cr (Zm rfl (Zv (OV.bi (j:=1) rfl rfl (by omega)) (Za rfl (Nl ?_))))))))))))
     have hkp:kpB ts (i0+k)=true:=by
      unfold kpB
      rw [hgy,hgz,Bool.or_eq_true]
      exact Or.inr (by simpa using c49)
     have hsn:kpT ts (i0+k+1)=kpT ts (i0+k)++[y]:=by rw [Jke,if_pos hkp,hgy]
     have hsl:(kpT ts (i0+(k+1))).length=(kpT ts (i0+k)).length+1:=by rw [show i0+(k+1)=i0+k+1 by omega,hsn,List.length_append];rfl
     exact WX.d8 (k+1) (C.set (kpT ts (i0+k)).length y) ⟨rfl,rfl,by rw [hsl];rfl,rfl,rfl,trivial⟩ (fun w' hw=>⟨⟨⟨by omega,by omega,by omega,by rw [List.length_set];exact hCl⟩,by
      rw [hsl,show i0+(k+1)=i0+k+1 by omega,hsn,Jb2 (t:=y) (by rw [List.getElem?_set_self (by omega)]),List.take_set_of_le (Nat.le_refl _),hC1],fun p hp=>by
      rw [List.getElem?_set_ne (by omega)];exact hC2 p (by omega)⟩,by rw [← List.map_set] at hw;exact hw⟩) (by show ts.length - i0 - (k+1)<ts.length - i0 - k;omega)
    refine Ck (Xb (Xn (Cr (Zm rfl (Zv (OV.bi (j:=1) rfl rfl (by omega)) (Za rfl (Nl ?_)))))))
    have hkp:kpB ts (i0+k)=false:=by
     unfold kpB
     rw [hgy,hgz,Bool.or_eq_false_iff]
     exact ⟨decide_eq_false (by omega),by simpa using c49⟩
    have hsn:kpT ts (i0+(k+1))=kpT ts (i0+k):=by rw [show i0+(k+1)=i0+k+1 by omega,Jke,if_neg (by rw [hkp];simp),List.append_nil]
    exact WX.d8 (k+1) C ⟨rfl,rfl,by rw [hsn];rfl,rfl,rfl,trivial⟩ (fun w' hw=>⟨⟨⟨by omega,by omega,by rw [hsn];omega,hCl⟩,by rw [hsn];exact hC1,fun p hp=>hC2 p (by omega)⟩,hw⟩) (by show ts.length - i0 - (k+1)<ts.length - i0 - k;omega)
   refine Ce (Xe (Xe (Xh (Xn (Cs ?_)))))
   obtain rfl:k=ts.length - i0:=by omega
   have he:i0+(ts.length - i0)=ts.length:=by omega
   rw [he] at hK hC1 hC2 ⊢
   have hdl:(kpT ts ts.length).length=(dupT ts).length:=rfl
   refine Cr (Zm rfl (Zm rfl (Zv (OV.sliceFrom1 rfl T.u39 T.z27 rfl (by omega) (by omega)) (WL.clearRow (o:=(dupT ts).length) (l:=ts.length - (dupT ts).length) (z:=.slice none 0 0) rfl rfl T.u39 T.zr27 rfl (by omega) (by omega) ?_))))
   refine Nn (Cs ?_)
   have hdl2:(dupT ts).length≤ts.length:=dupT_le ts
   refine Cr (Zm rfl (Zm rfl (Zv (OV.sliceTo rfl T.u39 T.z27 rfl (by omega)) (Za rfl (Nn (WC.az ?_))))))
   refine Xq (Xr (Xr (Xq (Xr ?_))))
   have hfin:((C.map tgV).take (dupT ts).length++List.replicate (ts.length - (dupT ts).length) (Value.slice none 0 0)).take ((dupT ts).length*1)=(dupT ts).map tgV:=by
    rw [Nat.mul_one,List.take_append_of_le_length (by rw [List.length_take,List.length_map];omega),List.take_take,Nat.min_self,← List.map_take,show C.take (dupT ts).length=dupT ts from hC1]
   exact WX.ret1 rfl rfl rfl (fun w' hw=>⟨rfl,by
    have h1:=hw.rowCut (k:=(dupT ts).length) hdl2
    rw [hfin] at h1
    exact (Hw.Sat.part (List.Sublist.cons_cons _ ((dupT_sub ts).map tgA)) h1).turned⟩)
  refine Ck (Xb (Xn (Cr (Zm rfl (Zv (OV.bi (j:=1) rfl rfl (by omega)) (Za rfl (Nl ?_)))))))
  exact WX.bg (i+1) Y3 (fun w' hw=>⟨⟨by omega,by omega,fun p hp=>by
   rcases Nat.lt_or_ge p i with h | h
   ·exact hK p h
   ·obtain rfl:p=i:=by omega
    unfold kpB
    rw [hgy,hgz,Bool.or_eq_true]
    exact Or.inr (by simpa using c28)⟩,hw⟩) (by show ts.length - (i+1)<ts.length - i;omega)
 refine Ce (Xe (Xe (Xh (Xn (Csr (Zm rfl (Za rfl (Nn (WC.az ?_)))))))))
 obtain rfl:i=ts.length:=by omega
 have hd:dupT ts=ts:=by
  unfold dupT
  rw [Jn8 (Nat.le_refl _) hK,List.take_length]
 exact WX.ret1 rfl rfl rfl (fun w' hw=>⟨by rw [hd],by rw [hd];exact hw.turned⟩)
theorem kp_ok {ts:List TG}(hs:ts.Pairwise fun x y=>¬ Jby cmpT y.l x.l<0):∀ j,j≤ts.length→Str cmpR ((kpT ts j).map TG.l)∧(0<j→∃ m,(kpT ts j).map TG.l=m++[(ts.getD (j - 1) default).l])∧∀ r,r∈(kpT ts j).map TG.l↔r∈(ts.take j).map TG.l
 | 0,_=>⟨List.Pairwise.nil,fun h=>absurd h (by omega),fun r=>by simp [kpT,kpL]⟩
 | j+1,hj=>by
  obtain ⟨h1,h2,h3⟩:=kp_ok hs j (by omega)
  obtain ⟨x,hx⟩:∃ x,ts[j]?=some x:=⟨_,List.getElem?_eq_getElem (by omega)⟩
  have hgx:ts.getD j default=x:=by rw [List.getD_eq_getElem?_getD,hx];rfl
  rw [Jke,hgx,Jb2 hx]
  by_cases hk:kpB ts j=true
  ·rw [if_pos hk,List.map_append,List.map_append]
   refine ⟨List.pairwise_append.2 ⟨h1,by simp,fun a ha b hb=>?_⟩,fun _=>⟨_,by rw [Nat.add_sub_cancel,hgx];rfl⟩,fun r=>by rw [List.mem_append,List.mem_append,h3]⟩
   simp only [List.map_cons,List.map_nil,List.mem_singleton] at hb
   subst hb
   rcases Nat.eq_zero_or_pos j with rfl | h0
   ·simp [kpT,kpL] at ha
   obtain ⟨m,hm⟩:=h2 h0
   obtain ⟨z,hz⟩:∃ z,ts[j - 1]?=some z:=⟨_,List.getElem?_eq_getElem (by omega)⟩
   have hgz:ts.getD (j - 1) default=z:=by rw [List.getD_eq_getElem?_getD,hz];rfl
   have hzx:cmpR z.l x.l<0:=by
    unfold kpB at hk
    rw [hgx,hgz,Bool.or_eq_true,decide_eq_true_eq] at hk
    have hne:Jby cmpT x.l z.l≠0:=by
     rcases hk with h | h
     ·omega
     ·simpa using h
    have hnl:¬ Jby cmpT x.l z.l<0:=by
     have h5:=List.pairwise_iff_getElem.1 hs (j - 1) j (by omega) (by omega) (by omega)
     rw [List.getElem?_eq_getElem (by omega)] at hx hz
     rw [← Option.some.inj hx,← Option.some.inj hz]
     exact h5
    have h6:=Jnm.anti x.l z.l
    show Jby cmpT z.l x.l<0
    have h7:cmpR z.l x.l=- cmpR x.l z.l:=h6
    have h8:cmpR x.l z.l=Jby cmpT x.l z.l:=rfl
    have h9:cmpR z.l x.l=Jby cmpT z.l x.l:=rfl
    omega
   rw [hm,hgz] at ha h1
   rcases List.mem_append.1 ha with h | h
   ·exact Jnm.tr _ _ _ ((List.pairwise_append.1 h1).2.2 a h _ (by simp)) hzx
   ·simp only [List.mem_singleton] at h;rw [h];exact hzx
  ·rw [if_neg hk,List.append_nil]
   have hk2:kpB ts j=false:=by simpa using hk
   unfold kpB at hk2
   rw [Bool.or_eq_false_iff] at hk2
   have h0:0<j:=by have:=hk2.1;simp at this;omega
   have he:x.l=(ts.getD (j - 1) default).l:=by
    have h5:=hk2.2
    rw [hgx] at h5
    exact Jnm.eq _ _ (by simpa using h5)
   obtain ⟨m,hm⟩:=h2 h0
   refine ⟨h1,fun _=>⟨m,by rw [Nat.add_sub_cancel,hgx,he];exact hm⟩,fun r=>?_⟩
   rw [h3,List.map_append,List.mem_append]
   refine ⟨Or.inl,fun h=>h.elim id fun h=>?_⟩
   simp only [List.map_cons,List.map_nil,List.mem_singleton] at h
   rw [h,he,← h3,hm]
   simp
theorem dup_ok {ts:List TG}(hs:ts.Pairwise fun x y=>¬ Jby cmpT y.l x.l<0):Str cmpR ((dupT ts).map TG.l)∧∀ r,r∈(dupT ts).map TG.l↔r∈ts.map TG.l:=by
 obtain ⟨h1,_,h3⟩:=kp_ok hs ts.length (Nat.le_refl _)
 rw [List.take_length] at h3
 exact ⟨h1,h3⟩
def ResOK (rs:List (List Tm))(l:List (List Tm)):Prop:=Str cmpR l∧∀ r,r∈l↔r∈rs
theorem comp_ok {rs:List (List Tm)}(hl:rs.length≤1099511627776)(hr:∀ r∈rs,r.length≤1099511627776):Jo7 rs (ResOK rs):=by
 intro a c ts w1 hp hs hA
 have hlen:ts.length=rs.length:=by have:=hp.length_eq;simpa using this
 have hsz:∀ y∈ts,y.l.length≤1099511627776:=fun y hy=>hr _ (hp.mem_iff.1 (List.mem_map.2 ⟨y,hy,rfl⟩))
 by_cases h2:ts.length<2
 ·have h3:Str cmpR (ts.map TG.l):=by
   rcases ts with _ | ⟨x,_ | ⟨y,l⟩⟩
   ·exact List.Pairwise.nil
   ·simp [Str]
   ·simp at h2;omega
  refine (compR1_calls a ts.length c _ h2 w1).mono (fun e w2 ⟨h5,h6⟩=>⟨ts,h5,⟨h3,fun r=>hp.mem_iff⟩,⟨h6.mono (fun _ f=>f.elim),(Hw.Sat.keep (Sat.startA hA) h6).holdsAll.φ,fun i hi b hb=>⟨(Hw.Sat.keep (Sat.startA hA) h6).holdsAll.lt i hi b hb,Or.inl ⟨i,hi,hb⟩⟩,hA.disj⟩⟩)
 ·obtain ⟨b,rfl,hc⟩:∃ b,a=some ⟨b,0,none⟩∧ts.length≤c:=by
   rcases (Jdt (Sat.startA hA) (.head _)).2 with ⟨_,h,_⟩ | h
   ·omega
   ·exact h
  exact (compRG_calls ts hsz b c (by omega) hc (by omega) w1 hA).mono (fun e w2 ⟨h5,h6⟩=>⟨dupT ts,h5,⟨(dup_ok hs).1,fun r=>((dup_ok hs).2 r).trans hp.mem_iff⟩,h6⟩)
theorem goM_drop {m:Bn}{ts us:List Tm}{i:Nat}{t u:Tm}(h1:ts[i]?=some t)(h2:us[i]?=some u):goM m (ts.drop i) (us.drop i)=if varB t=false then (if t=u then goM m (ts.drop (i+1)) (us.drop (i+1)) else none) else if (gotT m t.n).isSome∧(gotT m t.n).getD T0≠u then none else goM (upsT m t.n u) (ts.drop (i+1)) (us.drop (i+1)):=by
 rw [Jfy h1,Jfy h2];rfl
theorem Jm5 {p x:At}{s:Bn}(h:¬ fitB p x):Jcx p x s=none:=by unfold Jcx;rw [if_neg h]
theorem Ji5 {p x:At}{s:Bn}(h:fitB p x):Jcx p x s=(goM s (plc p) (plc x)).map srtB:=by unfold Jcx;rw [if_pos h]
theorem sb_take (ys:List Bd)(i:Nat):sb (ys.take i)=(sb ys).take i:=by unfold sb;rw [List.map_take]
theorem Jow {ys:List Bd}(h:SB (sb ys)){i:Nat}{y:Bd}(hy:ys[i]?=some y):gotT (sb (ys.take i)) y.v=none:=by
 cases hg:gotT (sb (ys.take i)) y.v with
 | none=>rfl
 | some z=>
  have hn:NK (sb (ys.take i)):=by rw [sb_take];exact SB.nk (List.Pairwise.sublist (List.take_sublist _ _) h)
  have h1:=(Jeu hn).1 hg
  rw [sb_take] at h1
  obtain ⟨j,hj⟩:=List.mem_iff_getElem?.1 h1
  rw [List.getElem?_take] at hj
  split at hj
  ·rename_i hji
   have e2:(sb ys)[i]?=some (y.v,y.t):=by unfold sb;rw [List.getElem?_map,hy];rfl
   have hjl:=(List.getElem?_eq_some_iff.1 hj)
   have hil:=(List.getElem?_eq_some_iff.1 e2)
   obtain ⟨a1,a2⟩:=hjl
   obtain ⟨b1,b2⟩:=hil
   have:=List.pairwise_iff_getElem.1 h j i a1 b1 hji
   rw [a2,b2] at this
   exact absurd this (Int.lt_irrefl _)
  ·cases hj
theorem sb_ups {ys:List Bd}(h:SB (sb ys)){i:Nat}{y:Bd}(hy:ys[i]?=some y):upsT (sb (ys.take i)) y.v y.t=sb (ys.take (i+1)):=by
 have hn:=Jow h hy
 have key:∀ (l:Bn),gotT l y.v=none→upsT l y.v y.t=l++[(y.v,y.t)]:=by
  intro l
  induction l with
  | nil=>intro _;rfl
  | cons q l ih=>
   intro hq
   unfold gotT at hq
   unfold upsT
   split at hq
   ·cases hq
   ·rename_i hne
    rw [if_neg hne,ih hq];rfl
 rw [key _ hn,List.take_add_one,hy]
 simp [sb]
theorem srt_eq {zs:List Bd}{l:Bn}(hk:NK l)(hp:(sb zs).Perm l)(hu:upB zs):sb zs=srtB l:=by
 have hn:NK (sb zs):=by unfold NK at hk ⊢;exact (List.Perm.nodup_iff (hp.map (·.1))).2 hk
 refine SB.ext (sb_up hu hn) (Jng hk) fun v=>?_
 rw [Jki hk]
 exact gotT_perm hn hp v
theorem match_nil (p x:At):(Jcx p x []).isSome=Jcz p x:=by
 unfold Jcx Jcz
 rw [← Jlx]
 by_cases h:fitB p x
 ·rw [if_pos h,decide_eq_true h,Bool.true_and,Option.isSome_map]
 ·rw [if_neg h,decide_eq_false h];rfl
theorem match_a1 (p x:At)(ys:List Bd)(a1 a2 sa:Option Addr)(c1 c2 sc:Nat)(h1:p.args.length+ys.length≤1048575)(h2:x.args.length≤1048575)(hS:SB (sb ys))(w:World)(hr1:RT w a1 p.args)(hr2:RT w a2 x.args)(hr3:RBd w sa ys)(hn:p.name≠x.name):Calls Tryz.prog 55 #[atV p a1 c1,atV x a2 c2,.slice sa ys.length sc] w fun e w'=>∃ a c zs,e=.returned (.tuple #[.slice a zs.length c,.bool (Jcx p x (sb ys)).isSome])∧(∀ s',Jcx p x (sb ys)=some s'→sb zs=s')∧Turns [] [rowB a c zs] w w':=by
 refine Jbl (args:=[atV p a1 c1,atV x a2 c2,.slice sa ys.length sc]) (fun _=>False) Tryz.func55 rfl Tryz.ntmps55 rfl rfl ?_
 refine Csr (WL.box rfl rfl rfl ?_)
 intro b3
 refine WL.box rfl rfl rfl ?_
 intro b4
 refine Za rfl (Za rfl (Nn (Cs (Csr (Zv (OV.f0 3 rfl T.u29 rfl) (Zv (OV.l1 (v:=.string p.name) rfl T.u9 rfl (.tail _ (.head _)) rfl) (Zv (OV.f0 3 rfl T.u29 rfl) (Zv (OV.l1 (v:=.string x.name) rfl T.u9 rfl (.head _) rfl) (Zv ((OV.ny rfl rfl).cast (u:=.bool true) (by simp [hn])) (Zm rfl (WL.known (t:=23) (b:=true) rfl (by rfl) ?_)))))))))))
 refine Zs rfl rfl rfl (Zs rfl rfl rfl (Zs rfl rfl rfl (Zs rfl rfl rfl (Zs rfl rfl rfl (Zs rfl rfl rfl (Zs rfl rfl rfl (Zv (OV.am rfl rfl) (Zm rfl (Zs rfl rfl rfl (Zs rfl rfl rfl (Zs rfl rfl rfl (Zs rfl rfl rfl (Zu rfl rfl (Zu rfl rfl (Zu rfl rfl (Zu rfl rfl (Zs rfl rfl rfl (Zv (OV.am rfl rfl) (Nn (WC.cj (show _=some (Value.bool true) from by rfl) ?_))))))))))))))))))))
 refine Csr (Za rfl (Za rfl (Nn (WC.az ?_))))
 refine Xr ?_
 have hM:=Jm5 (s:=sb ys) (show ¬ fitB p x from fun h=>hn h.1)
 exact WX.ret2 rfl rfl rfl rfl (fun w' hw=>⟨none,0,[],by rw [hM];rfl,(fun s' h=>by rw [hM] at h;cases h),((Sat.part (List.nil_sublist _) hw).rowNil 64 4).turned0⟩)
theorem match_a2 (p x:At)(ys:List Bd)(a1 a2 sa:Option Addr)(c1 c2 sc:Nat)(h1:p.args.length+ys.length≤1048575)(h2:x.args.length≤1048575)(hS:SB (sb ys))(w:World)(hr1:RT w a1 p.args)(hr2:RT w a2 x.args)(hr3:RBd w sa ys)(hn:p.name=x.name)(hl:p.args.length≠x.args.length):Calls Tryz.prog 55 #[atV p a1 c1,atV x a2 c2,.slice sa ys.length sc] w fun e w'=>∃ a c zs,e=.returned (.tuple #[.slice a zs.length c,.bool (Jcx p x (sb ys)).isSome])∧(∀ s',Jcx p x (sb ys)=some s'→sb zs=s')∧Turns [] [rowB a c zs] w w':=by
 refine Jbl (args:=[atV p a1 c1,atV x a2 c2,.slice sa ys.length sc]) (fun _=>False) Tryz.func55 rfl Tryz.ntmps55 rfl rfl ?_
 refine Csr (WL.box rfl rfl rfl ?_)
 intro b3
 refine WL.box rfl rfl rfl ?_
 intro b4
 refine Za rfl (Za rfl (Nn (Cs (Csr (Zv (OV.f0 3 rfl T.u29 rfl) (Zv (OV.l1 (v:=.string p.name) rfl T.u9 rfl (.tail _ (.head _)) rfl) (Zv (OV.f0 3 rfl T.u29 rfl) (Zv (OV.l1 (v:=.string x.name) rfl T.u9 rfl (.head _) rfl) (Zv ((OV.ny rfl rfl).cast (u:=.bool false) (by simp [hn])) (Zm rfl (WL.known (t:=23) (b:=false) rfl (by rfl) ?_)))))))))))
 refine Zg rfl rfl rfl (Zv (OV.f0 4 rfl T.u29 rfl) (Zg rfl rfl rfl (Zv (OV.l1 (v:=.slice a1 p.args.length c1) rfl T.u27 rfl (.tail _ (.head _)) rfl) (Zg rfl rfl rfl (Zv (OV.ae rfl T.u27) (Zg rfl rfl rfl (Zv (OV.f0 4 rfl T.u29 rfl) (Zg rfl rfl rfl (Zv (OV.l1 (v:=.slice a2 x.args.length c2) rfl T.u27 rfl (.head _) rfl) (Zg rfl rfl rfl (Zv (OV.ae rfl T.u27) (Zg rfl rfl rfl (Zv ((OV.ic rfl rfl).cast (u:=.bool true) (by rw [decide_eq_false (by omega)];rfl)) (Zv (OV.aj rfl rfl) (Zm rfl (WL.known (t:=32) (b:=true) rfl (by rfl) ?_))))))))))))))))
 refine Zs rfl rfl rfl (Zs rfl rfl rfl (Zs rfl rfl rfl (Zs rfl rfl rfl (Zu rfl rfl (Zu rfl rfl (Zu rfl rfl (Zu rfl rfl (Zs rfl rfl rfl (Zv (OV.am rfl rfl) (Nn (WC.cj (show _=some (Value.bool true) from by rfl) ?_)))))))))))
 refine Csr (Za rfl (Za rfl (Nn (WC.az ?_))))
 refine Xr ?_
 have hM:=Jm5 (s:=sb ys) (show ¬ fitB p x from fun h=>hl h.2.1)
 exact WX.ret2 rfl rfl rfl rfl (fun w' hw=>⟨none,0,[],by rw [hM];rfl,(fun s' h=>by rw [hM] at h;cases h),((Sat.part (List.nil_sublist _) hw).rowNil 64 4).turned0⟩)
theorem match_a3 (p x:At)(ys:List Bd)(a1 a2 sa:Option Addr)(c1 c2 sc:Nat)(h1:p.args.length+ys.length≤1048575)(h2:x.args.length≤1048575)(hS:SB (sb ys))(w:World)(hr1:RT w a1 p.args)(hr2:RT w a2 x.args)(hr3:RBd w sa ys)(hn:p.name=x.name)(hl:p.args.length=x.args.length)(hv:varB p.b=true)(hk:x.b.kind=0):Calls Tryz.prog 55 #[atV p a1 c1,atV x a2 c2,.slice sa ys.length sc] w fun e w'=>∃ a c zs,e=.returned (.tuple #[.slice a zs.length c,.bool (Jcx p x (sb ys)).isSome])∧(∀ s',Jcx p x (sb ys)=some s'→sb zs=s')∧Turns [] [rowB a c zs] w w':=by
 refine Jbl (args:=[atV p a1 c1,atV x a2 c2,.slice sa ys.length sc]) (fun _=>False) Tryz.func55 rfl Tryz.ntmps55 rfl rfl ?_
 refine Csr (WL.box rfl rfl rfl ?_)
 intro b3
 refine WL.box rfl rfl rfl ?_
 intro b4
 refine Za rfl (Za rfl (Nn (Cs (Csr (Zv (OV.f0 3 rfl T.u29 rfl) (Zv (OV.l1 (v:=.string p.name) rfl T.u9 rfl (.tail _ (.head _)) rfl) (Zv (OV.f0 3 rfl T.u29 rfl) (Zv (OV.l1 (v:=.string x.name) rfl T.u9 rfl (.head _) rfl) (Zv ((OV.ny rfl rfl).cast (u:=.bool false) (by simp [hn])) (Zm rfl (WL.known (t:=23) (b:=false) rfl (by rfl) ?_)))))))))))
 refine Zg rfl rfl rfl (Zv (OV.f0 4 rfl T.u29 rfl) (Zg rfl rfl rfl (Zv (OV.l1 (v:=.slice a1 p.args.length c1) rfl T.u27 rfl (.tail _ (.head _)) rfl) (Zg rfl rfl rfl (Zv (OV.ae rfl T.u27) (Zg rfl rfl rfl (Zv (OV.f0 4 rfl T.u29 rfl) (Zg rfl rfl rfl (Zv (OV.l1 (v:=.slice a2 x.args.length c2) rfl T.u27 rfl (.head _) rfl) (Zg rfl rfl rfl (Zv (OV.ae rfl T.u27) (Zg rfl rfl rfl (Zv ((OV.ic rfl rfl).cast (u:=.bool false) (by rw [decide_eq_true (by omega)];rfl)) (Zv (OV.aj rfl rfl) (Zm rfl (WL.known (t:=32) (b:=false) rfl (by rfl) ?_))))))))))))))))
 refine Zg rfl rfl rfl (Zv (OV.f0 0 rfl T.u29 rfl) (Zg rfl rfl rfl (Zv (OV.ai (cs:=tmC p.b) rfl T.u26 rfl T.z26 (fun _ hw j v hj=>by rw [Jap];exact Jbo hw (.tail _ (.head _)) (o:=0) (cs':=tmC p.b) rfl j v hj)) (Zg rfl rfl rfl (WL.c0 (v:=.bool true) (vs:=[tmV p.b]) (fun w' hw'=>(Jcn p.b w').mono (fun en w'' ⟨q1,q2⟩=>⟨by rw [q1,hv],q2⟩)) ?_)))))
 refine Zg rfl rfl rfl (Zm rfl (WL.known (t:=36) (b:=true) rfl (by rfl) ?_))
 refine Zg rfl rfl rfl (Zv (OV.f0 0 rfl T.u29 rfl) (Zg rfl rfl rfl (Zv (OV.f0 0 rfl T.u26 rfl) (Zg rfl rfl rfl (Zv (OV.l1 (v:=.int .i64 x.b.kind) rfl T.u3 rfl (.head _) rfl) (Zg rfl rfl rfl (Zv ((OV.d0 rfl rfl).cast (u:=.bool true) (by rw [hk];rfl)) (Zg rfl rfl rfl (Zv (OV.am rfl rfl) (Zv (OV.aj rfl rfl) (Nn (WC.cj (show _=some (Value.bool true) from by rfl) ?_))))))))))))
 refine Csr (Za rfl (Za rfl (Nn (WC.az ?_))))
 refine Xr ?_
 have hM:=Jm5 (s:=sb ys) (show ¬ fitB p x from fun h=>h.2.2 ⟨hv,hk⟩)
 exact WX.ret2 rfl rfl rfl rfl (fun w' hw=>⟨none,0,[],by rw [hM];rfl,(fun s' h=>by rw [hM] at h;cases h),((Sat.part (List.nil_sublist _) hw).rowNil 64 4).turned0⟩)
set_option maxHeartbeats 2000000 in
theorem match_b (p x:At)(ys:List Bd)(a1 a2 sa:Option Addr)(c1 c2 sc:Nat)(h1:p.args.length+ys.length≤1048575)(h2:x.args.length≤1048575)(hS:SB (sb ys))(w:World)(hr1:RT w a1 p.args)(hr2:RT w a2 x.args)(hr3:RBd w sa ys)(hn:p.name=x.name)(hl:p.args.length=x.args.length)(hvk:¬ (varB p.b=true∧x.b.kind=0)):Calls Tryz.prog 55 #[atV p a1 c1,atV x a2 c2,.slice sa ys.length sc] w fun e w'=>∃ a c zs,e=.returned (.tuple #[.slice a zs.length c,.bool (Jcx p x (sb ys)).isSome])∧(∀ s',Jcx p x (sb ys)=some s'→sb zs=s')∧Turns [] [rowB a c zs] w w':=by
 refine Jbl (args:=[atV p a1 c1,atV x a2 c2,.slice sa ys.length sc]) (fun _=>False) Tryz.func55 rfl Tryz.ntmps55 rfl rfl ?_
 refine Csr (WL.box rfl rfl rfl ?_)
 intro b3
 refine WL.box rfl rfl rfl ?_
 intro b4
 refine Za rfl (Za rfl (Nn (Cs (Csr (Zv (OV.f0 3 rfl T.u29 rfl) (Zv (OV.l1 (v:=.string p.name) rfl T.u9 rfl (.tail _ (.head _)) rfl) (Zv (OV.f0 3 rfl T.u29 rfl) (Zv (OV.l1 (v:=.string x.name) rfl T.u9 rfl (.head _) rfl) (Zv ((OV.ny rfl rfl).cast (u:=.bool false) (by simp [hn])) (Zm rfl (WL.known (t:=23) (b:=false) rfl (by rfl) ?_)))))))))))
 refine Zg rfl rfl rfl (Zv (OV.f0 4 rfl T.u29 rfl) (Zg rfl rfl rfl (Zv (OV.l1 (v:=.slice a1 p.args.length c1) rfl T.u27 rfl (.tail _ (.head _)) rfl) (Zg rfl rfl rfl (Zv (OV.ae rfl T.u27) (Zg rfl rfl rfl (Zv (OV.f0 4 rfl T.u29 rfl) (Zg rfl rfl rfl (Zv (OV.l1 (v:=.slice a2 x.args.length c2) rfl T.u27 rfl (.head _) rfl) (Zg rfl rfl rfl (Zv (OV.ae rfl T.u27) (Zg rfl rfl rfl (Zv ((OV.ic rfl rfl).cast (u:=.bool false) (by rw [decide_eq_true (by omega)];rfl)) (Zv (OV.aj rfl rfl) (Zm rfl (WL.known (t:=32) (b:=false) rfl (by rfl) ?_))))))))))))))))
 refine Zg rfl rfl rfl (Zv (OV.f0 0 rfl T.u29 rfl) (Zg rfl rfl rfl (Zv (OV.ai (cs:=tmC p.b) rfl T.u26 rfl T.z26 (fun _ hw j v hj=>by rw [Jap];exact Jbo hw (.tail _ (.head _)) (o:=0) (cs':=tmC p.b) rfl j v hj)) (Zg rfl rfl rfl (WL.au (v:=.bool (varB p.b)) (by kernel_rfl) rfl rfl (fun w' hw'=>Jcn p.b w') ?_)))))
 refine Zg rfl rfl rfl (Zm rfl ?_)
 refine Zp (t:=36) rfl (fun g36=>?_) (fun g36=>?_)
 ·refine Zg rfl rfl rfl (Zv (OV.f0 0 rfl T.u29 rfl) (Zg rfl rfl rfl (Zv (OV.f0 0 rfl T.u26 rfl) (Zg rfl rfl rfl (Zv (OV.l1 (v:=.int .i64 x.b.kind) rfl T.u3 rfl (.head _) rfl) (Zg rfl rfl rfl (Zv ((OV.d0 rfl rfl).cast (u:=.bool false) (by rw [decide_eq_false (fun hk=>hvk ⟨by simpa using g36,hk⟩)])) (Zg rfl rfl rfl (Zv (OV.am rfl rfl) (Zv (OV.aj rfl rfl) (Nn (WC.bu (show _=some (Value.bool false) from by rfl) ?_))))))))))))
  refine Ck (Xn (Csr (WL.makeMap (iV) rfl ?_)))
  intro m43
  refine Za rfl (Nn (Cs (Csr (Zm rfl (Zv (OV.ae rfl T.u54) (Zm rfl (Nn (Cb ?_))))))))
  refine WC.cg (fun (i:Nat)=>[(3,.pointer (some ⟨b3,0,none⟩)),(4,.pointer (some ⟨b4,0,none⟩)),(8,.map (some m43)),(44,.slice sa ys.length sc),(45,.int .i64 (ys.length:Int)),(46,.int .i64 (i:Int))])
    (fun i w'=>i≤ys.length∧Sat0 w (own m43 (mapK iV (kvT (sb (ys.take i))))::oQ b4 (atC x a2 c2) 29::oQ b3 (atC p a1 c1) 29::[]) w') (fun i=>ys.length - i) 0 Y6 (fun w' hw=>⟨by omega,hw⟩) ?_
  intro i
  refine WC.pure (fun hi=>?_)
  refine Csr (Zv (OV.cm rfl rfl) (Nn (Cs ?_)))
  refine Cc rfl (fun c47=>?_) (fun c47=>?_)
  ·refine Ck (Xn (Cs (Cb (Csr ?_))))
   obtain ⟨q1,y,hq1,hy,hym,hc1⟩:=hr3.get (i:=i) (by omega)
   have hgn:=Jow hS hy
   refine Zv ((OV.ad (show _=some (Value.slice (some q1) ys.length sc) by rw [← hq1];rfl) rfl T.u54 T.z64 (by omega)).cast (u:=.pointer (some (q1.add (i*4)))) (by rw [Int.toNat_natCast])) (Zv (OV.ai (cs:=bdC y) rfl T.u64 rfl T.z64 (fun _ hw j u hj=>hw.keeps _ _ (hc1 j u hj))) (WL.alloc T.zr64 rfl ?_))
   intro b10
   refine WL.ag (vs:=bdC y) rfl rfl rfl T.z64 rfl ?_
   refine Nn (Csr (Zm rfl (Zv (OV.f0 0 rfl T.u64 rfl) (Zv (OV.l1 (v:=.int .i64 y.v) rfl T.u3 rfl (.head _) rfl) (Zv ((OV.fj Jie T.u175 (show Program.zv Tryz.prog 26=some (tmV T0) by kernel_rfl) rfl rfl (fun _ hw=>hw.it (own m43 (mapK iV (kvT (sb (ys.take i))))) (by simp))).cast (u:=.tuple #[tmV T0,.bool false]) (by rw [Jni,hgn];rfl)) (Zm rfl (Zv (OV.extract rfl rfl) (Zv (OV.extract rfl rfl) (WL.alloc T.zr26 rfl ?_)))))))))
   intro b11
   refine WL.ag (vs:=tmC T0) rfl rfl rfl T.z26 rfl ?_
   refine Za rfl (Nn (Csr (Zm rfl (Zv (OV.not rfl) (Nn (WC.cj (show _=some (Value.bool true) from by rfl) ?_))))))
   refine Cr (Zm rfl (Zv (OV.f0 0 rfl T.u64 rfl) (Zv (OV.l1 (v:=.int .i64 y.v) rfl T.u3 rfl (.tail _ (.head _)) rfl) (Zv (OV.f0 1 rfl T.u64 rfl) (Zv (OV.ai (cs:=tmC y.t) rfl T.u26 rfl T.z26 (fun _ hw j v hj=>by rw [Jap];exact Jbo hw (.tail _ (.head _)) (o:=1) (cs':=tmC y.t) rfl j v hj)) ?_)))))
   refine WL.focus perm2 (WL.mapUpdate Jie T.u175 rfl rfl rfl ?_)
   refine Nl (Xb (Xn (Cr (Zv (OV.bi (j:=1) rfl rfl (by omega)) (Zm rfl (Nl ?_))))))
   refine WX.bg (i+1) Y6 (fun w' hw=>⟨by omega,?_⟩) (by show ys.length - (i+1)<ys.length - i;omega)
   rw [Jjw,sb_ups hS hy] at hw
   exact hw.pik [[own m43 (mapK iV (kvT (sb (ys.take (i+1)))))],[oQ b11 (tmC T0) 26],[oQ b10 (bdC y) 64],[oQ b4 (atC x a2 c2) 29],[oQ b3 (atC p a1 c1) 29]] [0,3,4] 5
  refine Ce (Xe (Xe (Xh (Xn (Csr (Zv (OV.lN (cs:=atC x a2 c2) rfl T.u29 rfl T.z29 (.tail _ (.head _))) (WL.cT (ι:=Nat × Nat) (vs:=[atV x a2 c2]) (vv:=fun q=>.slice (some ⟨q.1,0,none⟩) (plc x).length q.2) (pp:=fun _=>True) [] (AA:=fun q=>[rowT (some ⟨q.1,0,none⟩) q.2 (plc x)]) rfl (fun w' hw' _=>(Jes x a2 c2 (by omega) w' (hr2.keeps hw'.keeps)).mono (fun en w'' ⟨b,lc,q1,q2⟩=>⟨(b,lc),q1,trivial,q2⟩)) ?_)))))))
  rintro ⟨qx,xc⟩ _
  refine Za rfl (Nn (Cs (Csr (Zv (OV.lN (cs:=atC p a1 c1) rfl T.u29 rfl T.z29 (.tail _ (.tail _ (.tail _ (.head _))))) (WL.cT (ι:=Nat × Nat) (vs:=[atV p a1 c1]) (vv:=fun q=>.slice (some ⟨q.1,0,none⟩) (plc p).length q.2) (pp:=fun _=>True) [] (AA:=fun q=>[rowT (some ⟨q.1,0,none⟩) q.2 (plc p)]) rfl (fun w' hw' _=>(Jes p a1 c1 (by omega) w' (hr1.keeps hw'.keeps)).mono (fun en w'' ⟨b,lc,q1,q2⟩=>⟨(b,lc),q1,trivial,q2⟩)) ?_)))))
  rintro ⟨qp,pc⟩ _
  refine Zv (OV.ae rfl T.u27) (Zm rfl (Nn (Cb ?_)))
  have eys:ys.take i=ys:=List.take_of_length_le (by omega)
  rw [eys]
  have hnp:(plc p).length=p.args.length+1:=rfl
  have hnx:(plc x).length=x.args.length+1:=rfl
  refine WC.focus (ow':=own m43 (mapK iV (kvT (sb ys)))::rowT (some ⟨qp,0,none⟩) pc (plc p)::rowT (some ⟨qx,0,none⟩) xc (plc x)::oQ b4 (atC x a2 c2) 29::oQ b3 (atC p a1 c1) 29::[]) (List.Perm.trans (List.Perm.of_eq rfl) (pmP [_,_,_,_,_] [2,0,1,3,4])) ?_
  refine WC.kx (fun (i:Nat) (l:List (Int × Tm))=>[(8,.map (some m43)),(13,.slice (some ⟨qx,0,none⟩) (plc x).length xc),(68,.slice (some ⟨qp,0,none⟩) (plc p).length pc),(69,.int .i64 ((plc p).length:Int)),(70,.int .i64 (i:Int))])
    (fun i l w'=>(i≤(plc p).length∧l.length≤i+ys.length∧NK l∧goM (sb ys) (plc p) (plc x)=goM l ((plc p).drop i) ((plc x).drop i))∧Sat0 w (own m43 (mapK iV (kvT l))::rowT (some ⟨qp,0,none⟩) pc (plc p)::rowT (some ⟨qx,0,none⟩) xc (plc x)::oQ b4 (atC x a2 c2) 29::oQ b3 (atC p a1 c1) 29::[]) w')
    (fun i _=>(plc p).length - i) 0 (sb ys) Y5 (fun w' hw=>⟨⟨by omega,by simp [sb],hS.nk,rfl⟩,hw⟩) ?_
  intro i l
  refine WC.pure (fun hi=>?_)
  obtain ⟨hi,hll,hnk,hgo⟩:=hi
  refine Csr (Zv (OV.cm rfl rfl) (Nn (Cs ?_)))
  refine Cc rfl (fun c71=>?_) (fun c71=>?_)
  ·refine Ck (Xn (Cs (Cb (Csr (Zm rfl ?_)))))
   obtain ⟨t,htp⟩:∃ t,(plc p)[i]?=some t:=⟨_,List.getElem?_eq_getElem (by omega)⟩
   obtain ⟨u,htx⟩:∃ u,(plc x)[i]?=some u:=⟨_,List.getElem?_eq_getElem (by omega)⟩
   have hstep:=goM_drop (m:=l) htp htx
   refine Zv ((OV.ad rfl rfl T.u27 T.z26 (by omega)).cast (u:=.pointer (some ((⟨qp,0,none⟩:Addr).add (i*3)))) (by rw [Int.toNat_natCast])) ?_
   refine WL.val (OV.ai (cs:=tmC t) rfl T.u26 rfl T.z26 (fun _ hw j v hj=>by have hj3:j<3:=(List.getElem?_eq_some_iff.1 hj).1;have h:=Jck rfl (hw.it (rowT (some ⟨qp,0,none⟩) pc (plc p)) (.tail _ (.head _))) (i*3+j) v (by rw [Jco Jcu _ i j t htp (by omega)];exact hj);rwa [Jdm] at h)) rfl ?_
   refine WL.alloc T.zr26 rfl ?_
   intro b15
   refine Za rfl (WL.ag (vs:=tmC t) rfl rfl rfl T.z26 rfl ?_)
   refine Nn (Cs (Csr (Zv (OV.lN (cs:=tmC t) rfl T.u26 rfl T.z26 (.head _)) (WL.au (v:=.bool (varB t)) (by kernel_rfl) rfl rfl (fun w' hw'=>Jcn t w') ?_))))
   refine Zv (OV.not rfl) (Nn ?_)
   refine Cc rfl (fun c77=>?_) (fun c77=>?_)
   ·refine Cs (Cs (Hd (fun w'=>w'.heap[b15]?=some (.cells (tmC t).toArray 26 (0,0))∧(rowT (some ⟨qx,0,none⟩) xc (plc x)).φ w') [] (fun _ hw=>⟨hw.it (oQ b15 (tmC t) 26) (by simp),hw.it (rowT (some ⟨qx,0,none⟩) xc (plc x)) (by simp)⟩) (m:=6) rfl ?_))
    refine Ht 0 rfl (OV.ai (cs:=tmC t) rfl T.u26 rfl T.z26 (fun _ hw j v hj=>by rw [Jap];exact Jb3 hw.1 (o:=0) (cs':=tmC t) rfl j v hj)) (Hf 1 rfl (OV.aw rfl) (Hf 2 rfl (OV.aw rfl) (Hf 3 rfl ((OV.ad rfl rfl T.u27 T.z26 (by omega)).cast (u:=.pointer (some ((⟨qx,0,none⟩:Addr).add (i*3)))) (by rw [Int.toNat_natCast])) ?_)))
    refine Ht 4 rfl (OV.ai (cs:=tmC u) rfl T.u26 rfl T.z26 (fun _ hw j v hj=>by have hj3:j<3:=(List.getElem?_eq_some_iff.1 hj).1;have h:=Jck rfl hw.2 (i*3+j) v (by rw [Jco Jcu _ i j u htx (by omega)];exact hj);rwa [Jdm] at h)) ?_
    refine Hf 5 rfl (OV.ky (a:=t) (b:=u) rfl rfl) (He (Xn ?_))
    refine Cc rfl (fun c83=>?_) (fun c83=>?_)
    ·refine Csr (Za rfl (Za rfl (Nn (WC.az ?_))))
     refine Xr (Xr (Xq (Xr (Xr (Xq (Xr ?_))))))
     have hv:varB t=false:=by simpa using c77
     have hu:¬ t=u:=by simpa using c83
     have hM:Jcx p x (sb ys)=none:=by rw [Ji5 ⟨hn,hl,hvk⟩,hgo,hstep,if_pos hv,if_neg hu];rfl
     exact WX.ret2 rfl rfl rfl rfl (fun w' hw=>⟨none,0,[],by rw [hM];rfl,(fun s' h=>by rw [hM] at h;cases h),((Sat.part (List.nil_sublist _) hw).rowNil 64 4).turned0⟩)
    refine Ck (Xn (Ce (Xe (Xh (Xn (Cr (Zv (OV.bi (j:=1) rfl rfl (by omega)) (Zm rfl (Nl ?_)))))))))
    have hv:varB t=false:=by simpa using c77
    have hu:t=u:=by simpa using c83
    exact WX.d8 (i+1) l Y5 (fun w' hw=>⟨⟨by omega,by omega,hnk,by rw [hgo,hstep,if_pos hv,if_pos hu]⟩,hw.drop⟩) (by show (plc p).length - (i+1)<(plc p).length - i;omega)
   refine Ck (Xn (Cs (Csr (Zm rfl (Zv (OV.f0 1 rfl T.u26 rfl) (Zv (OV.l1 (v:=.int .i64 t.n) rfl T.u3 rfl (.head _) rfl) (Zv ((OV.fj Jie T.u175 (show Program.zv Tryz.prog 26=some (tmV T0) by kernel_rfl) rfl rfl (fun _ hw=>hw.it (own m43 (mapK iV (kvT l))) (by simp))).cast (u:=.tuple #[tmV ((gotT l t.n).getD T0),.bool (gotT l t.n).isSome]) (by rw [Jni];cases gotT l t.n <;> rfl)) (Zm rfl (Zv (OV.extract rfl rfl) (Zv (OV.extract rfl rfl) (WL.alloc T.zr26 rfl ?_)))))))))))
   intro b16
   refine WL.ag (vs:=tmC ((gotT l t.n).getD T0)) rfl rfl rfl T.z26 rfl ?_
   refine Za rfl (Nn (Cs (Hd (fun w'=>w'.heap[b16]?=some (.cells (tmC ((gotT l t.n).getD T0)).toArray 26 (0,0))∧(rowT (some ⟨qx,0,none⟩) xc (plc x)).φ w') [] (fun _ hw=>⟨hw.it (oQ b16 (tmC ((gotT l t.n).getD T0)) 26) (by simp),hw.it (rowT (some ⟨qx,0,none⟩) xc (plc x)) (by simp)⟩) (m:=9) rfl ?_)))
   refine Hf 0 rfl (OV.aw rfl) (Hf 1 rfl (OV.aw rfl) ?_)
   refine Hp (t:=92) rfl (fun g92=>?_) (fun g92=>?_)
   ·refine Htg 2 rfl rfl rfl rfl (OV.ai (cs:=tmC ((gotT l t.n).getD T0)) rfl T.u26 rfl T.z26 (fun _ hw j v hj=>by rw [Jap];exact Jb3 hw.1 (o:=0) (cs':=tmC ((gotT l t.n).getD T0)) rfl j v hj)) (Hfg 3 rfl rfl rfl rfl (OV.aw rfl) (Hfg 4 rfl rfl rfl rfl (OV.aw rfl) (Hfg 5 rfl rfl rfl rfl ((OV.ad rfl rfl T.u27 T.z26 (by omega)).cast (u:=.pointer (some ((⟨qx,0,none⟩:Addr).add (i*3)))) (by rw [Int.toNat_natCast])) ?_)))
    refine Htg 6 rfl rfl rfl rfl (OV.ai (cs:=tmC u) rfl T.u26 rfl T.z26 (fun _ hw j v hj=>by have hj3:j<3:=(List.getElem?_eq_some_iff.1 hj).1;have h:=Jck rfl hw.2 (i*3+j) v (by rw [Jco Jcu _ i j u htx (by omega)];exact hj);rwa [Jdm] at h)) ?_
    refine Hfg 7 rfl rfl rfl rfl (OV.ky (a:=(gotT l t.n).getD T0) (b:=u) rfl rfl) (Hf 8 rfl (OV.am rfl rfl) (He (Xn ?_)))
    refine Cc rfl (fun c99=>?_) (fun c99=>?_)
    ·refine Csr (Za rfl (Za rfl (Nn (WC.az ?_))))
     refine Xr (Xq (Xr (Xr (Xq (Xr ?_)))))
     have hv:¬ varB t=false:=by simpa using c77
     have hsm:(gotT l t.n).isSome=true∧(gotT l t.n).getD T0≠u:=⟨by simpa using g92,by simpa using c99⟩
     have hM:Jcx p x (sb ys)=none:=by rw [Ji5 ⟨hn,hl,hvk⟩,hgo,hstep,if_neg hv,if_pos hsm];rfl
     exact WX.ret2 rfl rfl rfl rfl (fun w' hw=>⟨none,0,[],by rw [hM];rfl,(fun s' h=>by rw [hM] at h;cases h),((Sat.part (List.nil_sublist _) hw).rowNil 64 4).turned0⟩)
    refine Ck (Xn (Hd (fun w'=>w'.heap[b15]?=some (.cells (tmC t).toArray 26 (0,0))∧(rowT (some ⟨qx,0,none⟩) xc (plc x)).φ w') [] (fun _ hw=>⟨hw.it (oQ b15 (tmC t) 26) (by simp),hw.it (rowT (some ⟨qx,0,none⟩) xc (plc x)) (by simp)⟩) (m:=8) rfl ?_))
    refine Hf 0 rfl (OV.aw rfl) (Hf 1 rfl (OV.f0 1 rfl T.u26 rfl) (Ht 2 rfl (OV.ah (v:=.int .i64 t.n) rfl T.u3 rfl (fun _ hw=>(Jav hw.1 (o:=1) rfl).1)) (Hf 3 rfl (OV.aw rfl) (Hf 4 rfl (OV.aw rfl) (Hf 5 rfl ((OV.ad rfl rfl T.u27 T.z26 (by omega)).cast (u:=.pointer (some ((⟨qx,0,none⟩:Addr).add (i*3)))) (by rw [Int.toNat_natCast])) ?_)))))
    refine Ht 6 rfl (OV.ai (cs:=tmC u) rfl T.u26 rfl T.z26 (fun _ hw j v hj=>by have hj3:j<3:=(List.getElem?_eq_some_iff.1 hj).1;have h:=Jck rfl hw.2 (i*3+j) v (by rw [Jco Jcu _ i j u htx (by omega)];exact hj);rwa [Jdm] at h)) ?_
    refine Ho 7 rfl (fl':=false) rfl ?_
    refine WL.focus perm2 (WL.mapUpdate Jie T.u175 rfl rfl rfl ?_)
    refine Hc (fun _=>(fun _ hw=>⟨hw.it (oQ b15 (tmC t) 26) (by simp),hw.it (rowT (some ⟨qx,0,none⟩) xc (plc x)) (by simp)⟩)) ?_
    refine He (Xb (Xn (Cr (Zv (OV.bi (j:=1) rfl rfl (by omega)) (Zm rfl (Nl ?_))))))
    have hv:¬ varB t=false:=by simpa using c77
    have hsm:¬ ((gotT l t.n).isSome=true∧(gotT l t.n).getD T0≠u):=fun h=>h.2 (by simpa using c99)
    refine WX.d8 (i+1) (upsT l t.n u) Y5 (fun w' hw=>⟨⟨by omega,by have:=Jjx t.n u l;omega,hnk.ups _ _,by rw [hgo,hstep,if_neg hv,if_neg hsm]⟩,?_⟩) (by show (plc p).length - (i+1)<(plc p).length - i;omega)
    rw [Jjw] at hw
    exact hw.pik [[own m43 (mapK iV (kvT (upsT l t.n u)))],[oQ b16 (tmC ((gotT l t.n).getD T0)) 26],[oQ b15 (tmC t) 26],[rowT (some ⟨qp,0,none⟩) pc (plc p)],[rowT (some ⟨qx,0,none⟩) xc (plc x)],[oQ b4 (atC x a2 c2) 29],[oQ b3 (atC p a1 c1) 29]] [0,3,4,5,6] 7
   refine Hs 2 rfl rfl rfl rfl (Hs 3 rfl rfl rfl rfl (Hs 4 rfl rfl rfl rfl (Hs 5 rfl rfl rfl rfl (Hs 6 rfl rfl rfl rfl (Hs 7 rfl rfl rfl rfl (Hf 8 rfl (OV.aj rfl rfl) (He (Xn (WC.bu (show _=some (Value.bool false) from by rfl) ?_)))))))))
   refine Ck (Xn (Hd (fun w'=>w'.heap[b15]?=some (.cells (tmC t).toArray 26 (0,0))∧(rowT (some ⟨qx,0,none⟩) xc (plc x)).φ w') [] (fun _ hw=>⟨hw.it (oQ b15 (tmC t) 26) (by simp),hw.it (rowT (some ⟨qx,0,none⟩) xc (plc x)) (by simp)⟩) (m:=8) rfl ?_))
   refine Hf 0 rfl (OV.aw rfl) (Hf 1 rfl (OV.f0 1 rfl T.u26 rfl) (Ht 2 rfl (OV.ah (v:=.int .i64 t.n) rfl T.u3 rfl (fun _ hw=>(Jav hw.1 (o:=1) rfl).1)) (Hf 3 rfl (OV.aw rfl) (Hf 4 rfl (OV.aw rfl) (Hf 5 rfl ((OV.ad rfl rfl T.u27 T.z26 (by omega)).cast (u:=.pointer (some ((⟨qx,0,none⟩:Addr).add (i*3)))) (by rw [Int.toNat_natCast])) ?_)))))
   refine Ht 6 rfl (OV.ai (cs:=tmC u) rfl T.u26 rfl T.z26 (fun _ hw j v hj=>by have hj3:j<3:=(List.getElem?_eq_some_iff.1 hj).1;have h:=Jck rfl hw.2 (i*3+j) v (by rw [Jco Jcu _ i j u htx (by omega)];exact hj);rwa [Jdm] at h)) ?_
   refine Ho 7 rfl (fl':=false) rfl ?_
   refine WL.focus perm2 (WL.mapUpdate Jie T.u175 rfl rfl rfl ?_)
   refine Hc (fun _=>(fun _ hw=>⟨hw.it (oQ b15 (tmC t) 26) (by simp),hw.it (rowT (some ⟨qx,0,none⟩) xc (plc x)) (by simp)⟩)) ?_
   refine He (Xb (Xn (Cr (Zv (OV.bi (j:=1) rfl rfl (by omega)) (Zm rfl (Nl ?_))))))
   have hv:¬ varB t=false:=by simpa using c77
   have hsm:¬ ((gotT l t.n).isSome=true∧(gotT l t.n).getD T0≠u):=fun h=>by simp [h.1] at g92
   refine WX.d8 (i+1) (upsT l t.n u) Y5 (fun w' hw=>⟨⟨by omega,by have:=Jjx t.n u l;omega,hnk.ups _ _,by rw [hgo,hstep,if_neg hv,if_neg hsm]⟩,?_⟩) (by show (plc p).length - (i+1)<(plc p).length - i;omega)
   rw [Jjw] at hw
   exact hw.pik [[own m43 (mapK iV (kvT (upsT l t.n u)))],[oQ b16 (tmC ((gotT l t.n).getD T0)) 26],[oQ b15 (tmC t) 26],[rowT (some ⟨qp,0,none⟩) pc (plc p)],[rowT (some ⟨qx,0,none⟩) xc (plc x)],[oQ b4 (atC x a2 c2) 29],[oQ b3 (atC p a1 c1) 29]] [0,3,4,5,6] 7
  refine Ce (Xe (Xe (Xh (Xn (Csr (Zm rfl (WL.focus (ow':=[]++(own m43 (mapK iV (kvT l))::rowT (some ⟨qp,0,none⟩) pc (plc p)::rowT (some ⟨qx,0,none⟩) xc (plc x)::oQ b4 (atC x a2 c2) 29::oQ b3 (atC p a1 c1) 29::[])) (List.Perm.refl _) ?_)))))))
  refine WL.cT (ι:=Nat × Nat × List Bd) (vs:=[.map (some m43)]) (vv:=fun q=>.slice (some ⟨q.1,0,none⟩) q.2.2.length q.2.1) (pp:=fun q=>(sb q.2.2).Perm l∧upB q.2.2) [] (AA:=fun q=>[rowB (some ⟨q.1,0,none⟩) q.2.1 q.2.2]) rfl (fun w' hw' _=>(sorted_calls m43 l (by omega) w' (hw'.it (own m43 (mapK iV (kvT l))) (.head _))).mono (fun en w'' ⟨b,c,ys,q1,qp,q2⟩=>⟨(b,c,ys),q1,qp,q2⟩)) ?_
  rintro z hz
  refine Za rfl (Za rfl (Nn (WC.az ?_)))
  have hM:Jcx p x (sb ys)=some (srtB l):=by rw [Ji5 ⟨hn,hl,hvk⟩,hgo,List.drop_eq_nil_of_le (by omega)];rfl
  exact WX.ret2 rfl rfl rfl rfl (fun w' hw=>⟨some ⟨z.1,0,none⟩,z.2.1,z.2.2,by rw [hM];rfl,(fun s' h=>by rw [hM] at h;rw [← Option.some.inj h];exact srt_eq hnk hz.1 hz.2),(Sat.part (List.Sublist.cons_cons _ (List.nil_sublist _)) hw).turned0⟩)
 refine Zs rfl rfl rfl (Zs rfl rfl rfl (Zs rfl rfl rfl (Zs rfl rfl rfl (Zg rfl rfl rfl (Zv (OV.aj rfl rfl) (Zv (OV.aj rfl rfl) (Nn (WC.bu (show _=some (Value.bool false) from by rfl) ?_))))))))
 refine Ck (Xn (Csr (WL.makeMap (iV) rfl ?_)))
 intro m43
 refine Za rfl (Nn (Cs (Csr (Zm rfl (Zv (OV.ae rfl T.u54) (Zm rfl (Nn (Cb ?_))))))))
 refine WC.cg (fun (i:Nat)=>[(3,.pointer (some ⟨b3,0,none⟩)),(4,.pointer (some ⟨b4,0,none⟩)),(8,.map (some m43)),(44,.slice sa ys.length sc),(45,.int .i64 (ys.length:Int)),(46,.int .i64 (i:Int))])
   (fun i w'=>i≤ys.length∧Sat0 w (own m43 (mapK iV (kvT (sb (ys.take i))))::oQ b4 (atC x a2 c2) 29::oQ b3 (atC p a1 c1) 29::[]) w') (fun i=>ys.length - i) 0 Y6 (fun w' hw=>⟨by omega,hw⟩) ?_
 intro i
 refine WC.pure (fun hi=>?_)
 refine Csr (Zv (OV.cm rfl rfl) (Nn (Cs ?_)))
 refine Cc rfl (fun c47=>?_) (fun c47=>?_)
 ·refine Ck (Xn (Cs (Cb (Csr ?_))))
  obtain ⟨q1,y,hq1,hy,hym,hc1⟩:=hr3.get (i:=i) (by omega)
  have hgn:=Jow hS hy
  refine Zv ((OV.ad (show _=some (Value.slice (some q1) ys.length sc) by rw [← hq1];rfl) rfl T.u54 T.z64 (by omega)).cast (u:=.pointer (some (q1.add (i*4)))) (by rw [Int.toNat_natCast])) (Zv (OV.ai (cs:=bdC y) rfl T.u64 rfl T.z64 (fun _ hw j u hj=>hw.keeps _ _ (hc1 j u hj))) (WL.alloc T.zr64 rfl ?_))
  intro b10
  refine WL.ag (vs:=bdC y) rfl rfl rfl T.z64 rfl ?_
  refine Nn (Csr (Zm rfl (Zv (OV.f0 0 rfl T.u64 rfl) (Zv (OV.l1 (v:=.int .i64 y.v) rfl T.u3 rfl (.head _) rfl) (Zv ((OV.fj Jie T.u175 (show Program.zv Tryz.prog 26=some (tmV T0) by kernel_rfl) rfl rfl (fun _ hw=>hw.it (own m43 (mapK iV (kvT (sb (ys.take i))))) (by simp))).cast (u:=.tuple #[tmV T0,.bool false]) (by rw [Jni,hgn];rfl)) (Zm rfl (Zv (OV.extract rfl rfl) (Zv (OV.extract rfl rfl) (WL.alloc T.zr26 rfl ?_)))))))))
  intro b11
  refine WL.ag (vs:=tmC T0) rfl rfl rfl T.z26 rfl ?_
  refine Za rfl (Nn (Csr (Zm rfl (Zv (OV.not rfl) (Nn (WC.cj (show _=some (Value.bool true) from by rfl) ?_))))))
  refine Cr (Zm rfl (Zv (OV.f0 0 rfl T.u64 rfl) (Zv (OV.l1 (v:=.int .i64 y.v) rfl T.u3 rfl (.tail _ (.head _)) rfl) (Zv (OV.f0 1 rfl T.u64 rfl) (Zv (OV.ai (cs:=tmC y.t) rfl T.u26 rfl T.z26 (fun _ hw j v hj=>by rw [Jap];exact Jbo hw (.tail _ (.head _)) (o:=1) (cs':=tmC y.t) rfl j v hj)) ?_)))))
  refine WL.focus perm2 (WL.mapUpdate Jie T.u175 rfl rfl rfl ?_)
  refine Nl (Xb (Xn (Cr (Zv (OV.bi (j:=1) rfl rfl (by omega)) (Zm rfl (Nl ?_))))))
  refine WX.bg (i+1) Y6 (fun w' hw=>⟨by omega,?_⟩) (by show ys.length - (i+1)<ys.length - i;omega)
  rw [Jjw,sb_ups hS hy] at hw
  exact hw.pik [[own m43 (mapK iV (kvT (sb (ys.take (i+1)))))],[oQ b11 (tmC T0) 26],[oQ b10 (bdC y) 64],[oQ b4 (atC x a2 c2) 29],[oQ b3 (atC p a1 c1) 29]] [0,3,4] 5
 refine Ce (Xe (Xe (Xh (Xn (Csr (Zv (OV.lN (cs:=atC x a2 c2) rfl T.u29 rfl T.z29 (.tail _ (.head _))) (WL.cT (ι:=Nat × Nat) (vs:=[atV x a2 c2]) (vv:=fun q=>.slice (some ⟨q.1,0,none⟩) (plc x).length q.2) (pp:=fun _=>True) [] (AA:=fun q=>[rowT (some ⟨q.1,0,none⟩) q.2 (plc x)]) rfl (fun w' hw' _=>(Jes x a2 c2 (by omega) w' (hr2.keeps hw'.keeps)).mono (fun en w'' ⟨b,lc,q1,q2⟩=>⟨(b,lc),q1,trivial,q2⟩)) ?_)))))))
 rintro ⟨qx,xc⟩ _
 refine Za rfl (Nn (Cs (Csr (Zv (OV.lN (cs:=atC p a1 c1) rfl T.u29 rfl T.z29 (.tail _ (.tail _ (.tail _ (.head _))))) (WL.cT (ι:=Nat × Nat) (vs:=[atV p a1 c1]) (vv:=fun q=>.slice (some ⟨q.1,0,none⟩) (plc p).length q.2) (pp:=fun _=>True) [] (AA:=fun q=>[rowT (some ⟨q.1,0,none⟩) q.2 (plc p)]) rfl (fun w' hw' _=>(Jes p a1 c1 (by omega) w' (hr1.keeps hw'.keeps)).mono (fun en w'' ⟨b,lc,q1,q2⟩=>⟨(b,lc),q1,trivial,q2⟩)) ?_)))))
 rintro ⟨qp,pc⟩ _
 refine Zv (OV.ae rfl T.u27) (Zm rfl (Nn (Cb ?_)))
 have eys:ys.take i=ys:=List.take_of_length_le (by omega)
 rw [eys]
 have hnp:(plc p).length=p.args.length+1:=rfl
 have hnx:(plc x).length=x.args.length+1:=rfl
 refine WC.focus (ow':=own m43 (mapK iV (kvT (sb ys)))::rowT (some ⟨qp,0,none⟩) pc (plc p)::rowT (some ⟨qx,0,none⟩) xc (plc x)::oQ b4 (atC x a2 c2) 29::oQ b3 (atC p a1 c1) 29::[]) (List.Perm.trans (List.Perm.of_eq rfl) (pmP [_,_,_,_,_] [2,0,1,3,4])) ?_
 refine WC.kx (fun (i:Nat) (l:List (Int × Tm))=>[(8,.map (some m43)),(13,.slice (some ⟨qx,0,none⟩) (plc x).length xc),(68,.slice (some ⟨qp,0,none⟩) (plc p).length pc),(69,.int .i64 ((plc p).length:Int)),(70,.int .i64 (i:Int))])
   (fun i l w'=>(i≤(plc p).length∧l.length≤i+ys.length∧NK l∧goM (sb ys) (plc p) (plc x)=goM l ((plc p).drop i) ((plc x).drop i))∧Sat0 w (own m43 (mapK iV (kvT l))::rowT (some ⟨qp,0,none⟩) pc (plc p)::rowT (some ⟨qx,0,none⟩) xc (plc x)::oQ b4 (atC x a2 c2) 29::oQ b3 (atC p a1 c1) 29::[]) w')
   (fun i _=>(plc p).length - i) 0 (sb ys) Y5 (fun w' hw=>⟨⟨by omega,by simp [sb],hS.nk,rfl⟩,hw⟩) ?_
 intro i l
 refine WC.pure (fun hi=>?_)
 obtain ⟨hi,hll,hnk,hgo⟩:=hi
 refine Csr (Zv (OV.cm rfl rfl) (Nn (Cs ?_)))
 refine Cc rfl (fun c71=>?_) (fun c71=>?_)
 ·refine Ck (Xn (Cs (Cb (Csr (Zm rfl ?_)))))
  obtain ⟨t,htp⟩:∃ t,(plc p)[i]?=some t:=⟨_,List.getElem?_eq_getElem (by omega)⟩
  obtain ⟨u,htx⟩:∃ u,(plc x)[i]?=some u:=⟨_,List.getElem?_eq_getElem (by omega)⟩
  have hstep:=goM_drop (m:=l) htp htx
  refine Zv ((OV.ad rfl rfl T.u27 T.z26 (by omega)).cast (u:=.pointer (some ((⟨qp,0,none⟩:Addr).add (i*3)))) (by rw [Int.toNat_natCast])) ?_
  refine WL.val (OV.ai (cs:=tmC t) rfl T.u26 rfl T.z26 (fun _ hw j v hj=>by have hj3:j<3:=(List.getElem?_eq_some_iff.1 hj).1;have h:=Jck rfl (hw.it (rowT (some ⟨qp,0,none⟩) pc (plc p)) (.tail _ (.head _))) (i*3+j) v (by rw [Jco Jcu _ i j t htp (by omega)];exact hj);rwa [Jdm] at h)) rfl ?_
  refine WL.alloc T.zr26 rfl ?_
  intro b15
  refine Za rfl (WL.ag (vs:=tmC t) rfl rfl rfl T.z26 rfl ?_)
  refine Nn (Cs (Csr (Zv (OV.lN (cs:=tmC t) rfl T.u26 rfl T.z26 (.head _)) (WL.au (v:=.bool (varB t)) (by kernel_rfl) rfl rfl (fun w' hw'=>Jcn t w') ?_))))
  refine Zv (OV.not rfl) (Nn ?_)
  refine Cc rfl (fun c77=>?_) (fun c77=>?_)
  ·refine Cs (Cs (Hd (fun w'=>w'.heap[b15]?=some (.cells (tmC t).toArray 26 (0,0))∧(rowT (some ⟨qx,0,none⟩) xc (plc x)).φ w') [] (fun _ hw=>⟨hw.it (oQ b15 (tmC t) 26) (by simp),hw.it (rowT (some ⟨qx,0,none⟩) xc (plc x)) (by simp)⟩) (m:=6) rfl ?_))
   refine Ht 0 rfl (OV.ai (cs:=tmC t) rfl T.u26 rfl T.z26 (fun _ hw j v hj=>by rw [Jap];exact Jb3 hw.1 (o:=0) (cs':=tmC t) rfl j v hj)) (Hf 1 rfl (OV.aw rfl) (Hf 2 rfl (OV.aw rfl) (Hf 3 rfl ((OV.ad rfl rfl T.u27 T.z26 (by omega)).cast (u:=.pointer (some ((⟨qx,0,none⟩:Addr).add (i*3)))) (by rw [Int.toNat_natCast])) ?_)))
   refine Ht 4 rfl (OV.ai (cs:=tmC u) rfl T.u26 rfl T.z26 (fun _ hw j v hj=>by have hj3:j<3:=(List.getElem?_eq_some_iff.1 hj).1;have h:=Jck rfl hw.2 (i*3+j) v (by rw [Jco Jcu _ i j u htx (by omega)];exact hj);rwa [Jdm] at h)) ?_
   refine Hf 5 rfl (OV.ky (a:=t) (b:=u) rfl rfl) (He (Xn ?_))
   refine Cc rfl (fun c83=>?_) (fun c83=>?_)
   ·refine Csr (Za rfl (Za rfl (Nn (WC.az ?_))))
    refine Xr (Xr (Xq (Xr (Xr (Xq (Xr ?_))))))
    have hv:varB t=false:=by simpa using c77
    have hu:¬ t=u:=by simpa using c83
    have hM:Jcx p x (sb ys)=none:=by rw [Ji5 ⟨hn,hl,hvk⟩,hgo,hstep,if_pos hv,if_neg hu];rfl
    exact WX.ret2 rfl rfl rfl rfl (fun w' hw=>⟨none,0,[],by rw [hM];rfl,(fun s' h=>by rw [hM] at h;cases h),((Sat.part (List.nil_sublist _) hw).rowNil 64 4).turned0⟩)
   refine Ck (Xn (Ce (Xe (Xh (Xn (Cr (Zv (OV.bi (j:=1) rfl rfl (by omega)) (Zm rfl (Nl ?_)))))))))
   have hv:varB t=false:=by simpa using c77
   have hu:t=u:=by simpa using c83
   exact WX.d8 (i+1) l Y5 (fun w' hw=>⟨⟨by omega,by omega,hnk,by rw [hgo,hstep,if_pos hv,if_pos hu]⟩,hw.drop⟩) (by show (plc p).length - (i+1)<(plc p).length - i;omega)
  refine Ck (Xn (Cs (Csr (Zm rfl (Zv (OV.f0 1 rfl T.u26 rfl) (Zv (OV.l1 (v:=.int .i64 t.n) rfl T.u3 rfl (.head _) rfl) (Zv ((OV.fj Jie T.u175 (show Program.zv Tryz.prog 26=some (tmV T0) by kernel_rfl) rfl rfl (fun _ hw=>hw.it (own m43 (mapK iV (kvT l))) (by simp))).cast (u:=.tuple #[tmV ((gotT l t.n).getD T0),.bool (gotT l t.n).isSome]) (by rw [Jni];cases gotT l t.n <;> rfl)) (Zm rfl (Zv (OV.extract rfl rfl) (Zv (OV.extract rfl rfl) (WL.alloc T.zr26 rfl ?_)))))))))))
  intro b16
  refine WL.ag (vs:=tmC ((gotT l t.n).getD T0)) rfl rfl rfl T.z26 rfl ?_
  refine Za rfl (Nn (Cs (Hd (fun w'=>w'.heap[b16]?=some (.cells (tmC ((gotT l t.n).getD T0)).toArray 26 (0,0))∧(rowT (some ⟨qx,0,none⟩) xc (plc x)).φ w') [] (fun _ hw=>⟨hw.it (oQ b16 (tmC ((gotT l t.n).getD T0)) 26) (by simp),hw.it (rowT (some ⟨qx,0,none⟩) xc (plc x)) (by simp)⟩) (m:=9) rfl ?_)))
  refine Hf 0 rfl (OV.aw rfl) (Hf 1 rfl (OV.aw rfl) ?_)
  refine Hp (t:=92) rfl (fun g92=>?_) (fun g92=>?_)
  ·refine Htg 2 rfl rfl rfl rfl (OV.ai (cs:=tmC ((gotT l t.n).getD T0)) rfl T.u26 rfl T.z26 (fun _ hw j v hj=>by rw [Jap];exact Jb3 hw.1 (o:=0) (cs':=tmC ((gotT l t.n).getD T0)) rfl j v hj)) (Hfg 3 rfl rfl rfl rfl (OV.aw rfl) (Hfg 4 rfl rfl rfl rfl (OV.aw rfl) (Hfg 5 rfl rfl rfl rfl ((OV.ad rfl rfl T.u27 T.z26 (by omega)).cast (u:=.pointer (some ((⟨qx,0,none⟩:Addr).add (i*3)))) (by rw [Int.toNat_natCast])) ?_)))
   refine Htg 6 rfl rfl rfl rfl (OV.ai (cs:=tmC u) rfl T.u26 rfl T.z26 (fun _ hw j v hj=>by have hj3:j<3:=(List.getElem?_eq_some_iff.1 hj).1;have h:=Jck rfl hw.2 (i*3+j) v (by rw [Jco Jcu _ i j u htx (by omega)];exact hj);rwa [Jdm] at h)) ?_
   refine Hfg 7 rfl rfl rfl rfl (OV.ky (a:=(gotT l t.n).getD T0) (b:=u) rfl rfl) (Hf 8 rfl (OV.am rfl rfl) (He (Xn ?_)))
   refine Cc rfl (fun c99=>?_) (fun c99=>?_)
   ·refine Csr (Za rfl (Za rfl (Nn (WC.az ?_))))
    refine Xr (Xq (Xr (Xr (Xq (Xr ?_)))))
    have hv:¬ varB t=false:=by simpa using c77
    have hsm:(gotT l t.n).isSome=true∧(gotT l t.n).getD T0≠u:=⟨by simpa using g92,by simpa using c99⟩
    have hM:Jcx p x (sb ys)=none:=by rw [Ji5 ⟨hn,hl,hvk⟩,hgo,hstep,if_neg hv,if_pos hsm];rfl
    exact WX.ret2 rfl rfl rfl rfl (fun w' hw=>⟨none,0,[],by rw [hM];rfl,(fun s' h=>by rw [hM] at h;cases h),((Sat.part (List.nil_sublist _) hw).rowNil 64 4).turned0⟩)
   refine Ck (Xn (Hd (fun w'=>w'.heap[b15]?=some (.cells (tmC t).toArray 26 (0,0))∧(rowT (some ⟨qx,0,none⟩) xc (plc x)).φ w') [] (fun _ hw=>⟨hw.it (oQ b15 (tmC t) 26) (by simp),hw.it (rowT (some ⟨qx,0,none⟩) xc (plc x)) (by simp)⟩) (m:=8) rfl ?_))
   refine Hf 0 rfl (OV.aw rfl) (Hf 1 rfl (OV.f0 1 rfl T.u26 rfl) (Ht 2 rfl (OV.ah (v:=.int .i64 t.n) rfl T.u3 rfl (fun _ hw=>(Jav hw.1 (o:=1) rfl).1)) (Hf 3 rfl (OV.aw rfl) (Hf 4 rfl (OV.aw rfl) (Hf 5 rfl ((OV.ad rfl rfl T.u27 T.z26 (by omega)).cast (u:=.pointer (some ((⟨qx,0,none⟩:Addr).add (i*3)))) (by rw [Int.toNat_natCast])) ?_)))))
   refine Ht 6 rfl (OV.ai (cs:=tmC u) rfl T.u26 rfl T.z26 (fun _ hw j v hj=>by have hj3:j<3:=(List.getElem?_eq_some_iff.1 hj).1;have h:=Jck rfl hw.2 (i*3+j) v (by rw [Jco Jcu _ i j u htx (by omega)];exact hj);rwa [Jdm] at h)) ?_
   refine Ho 7 rfl (fl':=false) rfl ?_
   refine WL.focus perm2 (WL.mapUpdate Jie T.u175 rfl rfl rfl ?_)
   refine Hc (fun _=>(fun _ hw=>⟨hw.it (oQ b15 (tmC t) 26) (by simp),hw.it (rowT (some ⟨qx,0,none⟩) xc (plc x)) (by simp)⟩)) ?_
   refine He (Xb (Xn (Cr (Zv (OV.bi (j:=1) rfl rfl (by omega)) (Zm rfl (Nl ?_))))))
   have hv:¬ varB t=false:=by simpa using c77
   have hsm:¬ ((gotT l t.n).isSome=true∧(gotT l t.n).getD T0≠u):=fun h=>h.2 (by simpa using c99)
   refine WX.d8 (i+1) (upsT l t.n u) Y5 (fun w' hw=>⟨⟨by omega,by have:=Jjx t.n u l;omega,hnk.ups _ _,by rw [hgo,hstep,if_neg hv,if_neg hsm]⟩,?_⟩) (by show (plc p).length - (i+1)<(plc p).length - i;omega)
   rw [Jjw] at hw
   exact hw.pik [[own m43 (mapK iV (kvT (upsT l t.n u)))],[oQ b16 (tmC ((gotT l t.n).getD T0)) 26],[oQ b15 (tmC t) 26],[rowT (some ⟨qp,0,none⟩) pc (plc p)],[rowT (some ⟨qx,0,none⟩) xc (plc x)],[oQ b4 (atC x a2 c2) 29],[oQ b3 (atC p a1 c1) 29]] [0,3,4,5,6] 7
  refine Hs 2 rfl rfl rfl rfl (Hs 3 rfl rfl rfl rfl (Hs 4 rfl rfl rfl rfl (Hs 5 rfl rfl rfl rfl (Hs 6 rfl rfl rfl rfl (Hs 7 rfl rfl rfl rfl (Hf 8 rfl (OV.aj rfl rfl) (He (Xn (WC.bu (show _=some (Value.bool false) from by rfl) ?_)))))))))
  refine Ck (Xn (Hd (fun w'=>w'.heap[b15]?=some (.cells (tmC t).toArray 26 (0,0))∧(rowT (some ⟨qx,0,none⟩) xc (plc x)).φ w') [] (fun _ hw=>⟨hw.it (oQ b15 (tmC t) 26) (by simp),hw.it (rowT (some ⟨qx,0,none⟩) xc (plc x)) (by simp)⟩) (m:=8) rfl ?_))
  refine Hf 0 rfl (OV.aw rfl) (Hf 1 rfl (OV.f0 1 rfl T.u26 rfl) (Ht 2 rfl (OV.ah (v:=.int .i64 t.n) rfl T.u3 rfl (fun _ hw=>(Jav hw.1 (o:=1) rfl).1)) (Hf 3 rfl (OV.aw rfl) (Hf 4 rfl (OV.aw rfl) (Hf 5 rfl ((OV.ad rfl rfl T.u27 T.z26 (by omega)).cast (u:=.pointer (some ((⟨qx,0,none⟩:Addr).add (i*3)))) (by rw [Int.toNat_natCast])) ?_)))))
  refine Ht 6 rfl (OV.ai (cs:=tmC u) rfl T.u26 rfl T.z26 (fun _ hw j v hj=>by have hj3:j<3:=(List.getElem?_eq_some_iff.1 hj).1;have h:=Jck rfl hw.2 (i*3+j) v (by rw [Jco Jcu _ i j u htx (by omega)];exact hj);rwa [Jdm] at h)) ?_
  refine Ho 7 rfl (fl':=false) rfl ?_
  refine WL.focus perm2 (WL.mapUpdate Jie T.u175 rfl rfl rfl ?_)
  refine Hc (fun _=>(fun _ hw=>⟨hw.it (oQ b15 (tmC t) 26) (by simp),hw.it (rowT (some ⟨qx,0,none⟩) xc (plc x)) (by simp)⟩)) ?_
  refine He (Xb (Xn (Cr (Zv (OV.bi (j:=1) rfl rfl (by omega)) (Zm rfl (Nl ?_))))))
  have hv:¬ varB t=false:=by simpa using c77
  have hsm:¬ ((gotT l t.n).isSome=true∧(gotT l t.n).getD T0≠u):=fun h=>by simp [h.1] at g92
  refine WX.d8 (i+1) (upsT l t.n u) Y5 (fun w' hw=>⟨⟨by omega,by have:=Jjx t.n u l;omega,hnk.ups _ _,by rw [hgo,hstep,if_neg hv,if_neg hsm]⟩,?_⟩) (by show (plc p).length - (i+1)<(plc p).length - i;omega)
  rw [Jjw] at hw
  exact hw.pik [[own m43 (mapK iV (kvT (upsT l t.n u)))],[oQ b16 (tmC ((gotT l t.n).getD T0)) 26],[oQ b15 (tmC t) 26],[rowT (some ⟨qp,0,none⟩) pc (plc p)],[rowT (some ⟨qx,0,none⟩) xc (plc x)],[oQ b4 (atC x a2 c2) 29],[oQ b3 (atC p a1 c1) 29]] [0,3,4,5,6] 7
 refine Ce (Xe (Xe (Xh (Xn (Csr (Zm rfl (WL.focus (ow':=[]++(own m43 (mapK iV (kvT l))::rowT (some ⟨qp,0,none⟩) pc (plc p)::rowT (some ⟨qx,0,none⟩) xc (plc x)::oQ b4 (atC x a2 c2) 29::oQ b3 (atC p a1 c1) 29::[])) (List.Perm.refl _) ?_)))))))
 refine WL.cT (ι:=Nat × Nat × List Bd) (vs:=[.map (some m43)]) (vv:=fun q=>.slice (some ⟨q.1,0,none⟩) q.2.2.length q.2.1) (pp:=fun q=>(sb q.2.2).Perm l∧upB q.2.2) [] (AA:=fun q=>[rowB (some ⟨q.1,0,none⟩) q.2.1 q.2.2]) rfl (fun w' hw' _=>(sorted_calls m43 l (by omega) w' (hw'.it (own m43 (mapK iV (kvT l))) (.head _))).mono (fun en w'' ⟨b,c,ys,q1,qp,q2⟩=>⟨(b,c,ys),q1,qp,q2⟩)) ?_
 rintro z hz
 refine Za rfl (Za rfl (Nn (WC.az ?_)))
 have hM:Jcx p x (sb ys)=some (srtB l):=by rw [Ji5 ⟨hn,hl,hvk⟩,hgo,List.drop_eq_nil_of_le (by omega)];rfl
 exact WX.ret2 rfl rfl rfl rfl (fun w' hw=>⟨some ⟨z.1,0,none⟩,z.2.1,z.2.2,by rw [hM];rfl,(fun s' h=>by rw [hM] at h;rw [← Option.some.inj h];exact srt_eq hnk hz.1 hz.2),(Sat.part (List.Sublist.cons_cons _ (List.nil_sublist _)) hw).turned0⟩)
theorem match2_calls (p x:At)(ys:List Bd)(a1 a2 sa:Option Addr)(c1 c2 sc:Nat)(h1:p.args.length+ys.length≤1048575)(h2:x.args.length≤1048575)(hS:SB (sb ys))(w:World)(hr1:RT w a1 p.args)(hr2:RT w a2 x.args)(hr3:RBd w sa ys):Calls Tryz.prog 55 #[atV p a1 c1,atV x a2 c2,.slice sa ys.length sc] w fun e w'=>∃ a c zs,e=.returned (.tuple #[.slice a zs.length c,.bool (Jcx p x (sb ys)).isSome])∧(∀ s',Jcx p x (sb ys)=some s'→sb zs=s')∧Turns [] [rowB a c zs] w w':=by
 by_cases hn:p.name=x.name
 ·by_cases hl:p.args.length=x.args.length
  ·by_cases hv:varB p.b=true∧x.b.kind=0
   ·exact match_a3 p x ys a1 a2 sa c1 c2 sc h1 h2 hS w hr1 hr2 hr3 hn hl hv.1 hv.2
   ·exact match_b p x ys a1 a2 sa c1 c2 sc h1 h2 hS w hr1 hr2 hr3 hn hl hv
  ·exact match_a2 p x ys a1 a2 sa c1 c2 sc h1 h2 hS w hr1 hr2 hr3 hn hl
 ·exact match_a1 p x ys a1 a2 sa c1 c2 sc h1 h2 hS w hr1 hr2 hr3 hn
theorem match_calls (p x:At)(a1 a2:Option Addr)(c1 c2:Nat)(h1:p.args.length≤1048575)(h2:x.args.length≤1048575)(w:World)(hr1:RT w a1 p.args)(hr2:RT w a2 x.args):Calls Tryz.prog 55 #[atV p a1 c1,atV x a2 c2,.slice none 0 0] w fun e w'=>∃ v,e=.returned (.tuple #[v,.bool (Jcz p x)])∧Fr0 w w':=
 (match2_calls p x [] a1 a2 none c1 c2 0 h1 h2 List.Pairwise.nil w hr1 hr2 (RBd.nil0 w)).mono fun e w' ⟨a,c,zs,q1,_,q3⟩=>⟨.slice a zs.length c,q1.trans (by rw [show sb []=[] from rfl,match_nil]),q3.fr0⟩
def ckOf (vs:List Tm):Nat→List Tm→List (Int × Int)
 | _,[]=>[]
 | i,t::ts=>if varB t=true then ckOf vs (i+1) ts else ((i:Int),(((numOf vs t).getD 0:Nat):Int))::ckOf vs (i+1) ts
def Jne (vs:List Tm)(ts:List Tm):Prop:=∀ t∈ts,varB t=false→(numOf vs t).isSome=true
theorem Jod (vs:List Tm):∀ (i:Nat) (ts:List Tm) (t:Tm),ckOf vs i (ts++[t])=ckOf vs i ts++(if varB t=true then [] else [(((i+ts.length:Nat):Int),(((numOf vs t).getD 0:Nat):Int))])
 | i,[],t=>by simp [ckOf]
 | i,u::ts,t=>by
  simp only [List.cons_append,ckOf]
  rw [Jod vs (i+1) ts t]
  have e:i+1+ts.length=i+(u::ts).length:=by simp;omega
  split <;> simp [e]
theorem Jo2 (vs:List Tm):∀ (i:Nat) (ts:List Tm),(ckOf vs i ts).length≤ts.length
 | _,[]=>by simp [ckOf]
 | i,t::ts=>by
  have:=Jo2 vs (i+1) ts
  unfold ckOf;split <;> simp <;> omega
theorem Jo3 (vs:List Tm):∀ (i:Nat) (ts:List Tm),∀ q∈ckOf vs i ts,(i:Int)≤q.1∧q.1<((i+ts.length:Nat):Int)
 | i,[],q,h=>by simp [ckOf] at h
 | i,t::ts,q,h=>by
  unfold ckOf at h
  split at h
  ·have:=Jo3 vs (i+1) ts q h
   simp only [List.length_cons];omega
  ·rcases List.mem_cons.1 h with h | h
   ·subst h;simp only [List.length_cons];omega
   ·have:=Jo3 vs (i+1) ts q h
    simp only [List.length_cons];omega
def Jcw (F:List (At × Nat))(parts:Int)(p:At):List At:=sortA ((selF F parts).filter (Jcz p))
theorem Jiv {p x:At}(h:Jcz p x=true):Jax p=Jax x:=by
 unfold Jcz at h
 rw [Bool.and_eq_true,decide_eq_true_eq] at h
 unfold Jax;rw [h.1.1,h.1.2.1]
theorem Jo0:∀ {ts us:List Tm} {m:List (Int × Tm)},Jiw m ts us=true→∀ (i:Nat) (t u:Tm),ts[i]?=some t→us[i]?=some u→varB t=false→t=u
 | [],_,_,_,i,t,u,h,_,_=>by simp at h
 | _::_,[],_,_,i,t,u,_,h,_=>by simp at h
 | s::ts,v::us,m,h,i,t,u,ht,hu,hv=>by
  unfold Jiw at h
  cases i with
  | zero=>
   simp only [List.getElem?_cons_zero,Option.some.injEq] at ht hu
   subst ht;subst hu
   rw [if_pos hv] at h
   by_cases he:s=v
   ·exact he
   ·rw [if_neg he] at h;cases h
  | succ i=>
   simp only [List.getElem?_cons_succ] at ht hu
   split at h
   ·split at h
    ·exact Jo0 h i t u ht hu hv
    ·cases h
   ·split at h
    ·cases h
    ·exact Jo0 h i t u ht hu hv
theorem match_fix {p x:At}(h:Jcz p x=true){i:Nat}{t u:Tm}(ht:(plc p)[i]?=some t)(hu:(plc x)[i]?=some u)(hv:varB t=false):t=u:=by
 unfold Jcz at h
 rw [Bool.and_eq_true] at h
 exact Jo0 h.2 i t u ht hu hv
end Go.Proofs.YtgebaodagaecmaaGreatDoor
