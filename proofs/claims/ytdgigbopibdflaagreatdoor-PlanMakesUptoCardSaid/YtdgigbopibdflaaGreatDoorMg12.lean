/- The text of numbers at base 36: it tells them. Contracts of functions of the program: what each returns and leaves in memory. Printed by gen.py and walk.py. The library's sorts, on a row of the call's own. What a lock does where one goroutine runs. A relation as it lies in memory. The library's sorts lie in the loaded program as on the kit's shelf. The library's sort on a row of the call's own whose elements are structs; the comparison may lay blocks of its own. -/
import Derived.Test.YtdgigbopibdflaaGreatDoorTy
import Derived.Test.YtdgigbopibdflaaGreatDoorHxFunc
import Derived.Test.YtdgigbopibdflaaGreatDoorHxA
import Derived.Shelf.SlSortCmp.NoneTotal
import Derived.Shelf.SortM.Plain
import Derived.Shelf.SortM.SortNone
import Derived.Laws.LoneSync
import Derived.Test.YtdgigbopibdflaaGreatDoorProg
import Derived.Lib.Bytealg
set_option maxRecDepth 10000
namespace Go.Proofs.YtdgigbopibdflaaGreatDoor
open Go Go.Hw
set_option linter.unusedSimpArgs false
set_option linter.unusedVariables false
def dig36 (u:Nat):UInt8:=if u<10 then UInt8.ofNat (48+u) else UInt8.ofNat (87+u)
def fmt36 (u:Nat):List UInt8:=if u<36 then [dig36 u] else fmt36 (u / 36)++[dig36 (u % 36)]
decreasing_by omega
def itoa36 (n:Int):List UInt8:=if n<0 then 45::fmt36 n.natAbs else fmt36 n.natAbs
def keyL (l:List Int):List UInt8:=l.flatMap fun n=>itoa36 n++[32]
def keyB (l:List Int):ByteArray:=⟨(keyL l).toArray⟩
def i64s (l:List Int):Prop:=∀ n∈l,-9223372036854775808≤n∧n≤9223372036854775807
def pickL (l:List Int)(cs:List Int):List Int:=cs.map fun c=>l.getD c.toNat 0
theorem T.apI:appB Tryz.prog 32 3 1 8=true:=by kernel_rfl
def ints (l:List Int):List Value:=l.map (Value.int .i64)
theorem ints_length (l:List Int):(ints l).length=l.length:=by simp [ints]
theorem Jdf (l:List Int):∀ u∈ints l,u.oneCell'=true:=by
 intro u hu;simp only [ints,xR] at hu;obtain ⟨c,_,rfl⟩:=hu;rfl
theorem ints_get {l:List Int}{i:Nat}{n:Int}(h:l[i]?=some n):(ints l)[i]?=some (.int .i64 n):=by simp [ints,h]
def RI (w:World)(a:Option Addr)(m:Nat)(l:List Int):Prop:=
 l.length=m∧(a=none→m=0)∧∀ b,a=some b→∀ j n,l[j]?=some n→w.cell? (b.add j)=some (.int .i64 n)
theorem RI.mono {w w':World}{a:Option Addr}{m:Nat}{l:List Int}(h:RI w a m l)(hc:∀ q v,(∃ b,a=some b∧q.block=b.block)→w.cell? q=some v→w'.cell? q=some v):RI w' a m l:=
 ⟨h.1,h.2.1,fun b hb j n hj=>hc _ _ ⟨b,hb,by rw [Jdr]⟩ (h.2.2 b hb j n hj)⟩
theorem RI.sat {w w':World}{M:Nat→Prop}{ow:List Hw.Item}{a:Option Addr}{m:Nat}{l:List Int}(h:RI w a m l)(hw:Sat w M (fun b=>b<w.heap.size) w ow w'):RI w' a m l:=
 h.mono fun _ _ _ hc=>snapL hw hc
theorem RI.fr {w w':World}{M:Nat→Prop}{a:Option Addr}{m:Nat}{l:List Int}(h:RI w a m l)(hM:∀ b,a=some b→0<m→¬ M b.block)(hf:Fr M w w'):RI w' a m l:=
 ⟨h.1,h.2.1,fun b hb j n hj=>by
  have hc:=h.2.2 b hb j n hj;have hm:0<m:=by have:=(List.getElem?_eq_some_iff.1 hj).1;have:=h.1;omega
  rw [World.cell?_of_block (hf.keep _ (World.block_lt_of_cell? w _ hc) (by rw [Jdr];exact hM b hb hm))];exact hc⟩
theorem RI.cell {w:World}{q:Addr}{m:Nat}{l:List Int}(h:RI w (some q) m l){j:Nat}(hj:j<l.length):w.cell? (q.add j)=some (.int .i64 (l.getD j 0)):=by
 refine h.2.2 q rfl j _ ?_;rw [yD,xD hj];rfl
theorem RI.of_row {w0 ws w:World}{M I:Nat→Prop}{ow:List Hw.Item}{a:Option Addr}{c:Nat}{l:List Int}(hw:Sat w0 M I ws ow w)(hm:row 3 1 a l.length c (ints l)∈ow):RI w a l.length l:=
 ⟨rfl,fun ha=>((Jdl hw hm).2.elim (fun h=>h.2.1) (fun ⟨b,hb,_⟩=>(by rw [ha] at hb;cases hb))),fun b hb j n hj=>by subst hb;exact Jdu hw hm j _ (ints_get hj)⟩
theorem Holds.one {w:World}{i:Hw.Item}(h:i.φ w)(hlt:∀ b,i.D b→b<w.heap.size):Holds [i] w:=
 ⟨fun j hj=>by simp only [xI] at hj;subst hj;exact h,fun j hj b hb=>by simp only [xI] at hj;subst hj;exact hlt b hb,List.pairwise_singleton _ _⟩
end Go.Proofs.YtdgigbopibdflaaGreatDoor
namespace Go.Hw
set_option linter.unusedVariables false
set_option linter.unusedSimpArgs false
open Go Go.RowKit Go.Proofs Go.Shelf
variable {P:Program} {ρ:Ren} {w:World} {T:TypeId} {b c:Nat}
theorem row_block {α:Type}{enc:α→Value}{xs:List α}(h:(row T 1 (some ⟨b,0,none⟩) xs.length c (xs.map enc)).φ w):
  ∃ cur,w.heap[b]?=some (.cells cur T (0,0))∧cur.size=c∧xs.length≤c∧c≤maxLen∧cur.toList.take xs.length=xs.map enc:=by
 have h1:w.ownsRow 0 T 1 (.slice (some ⟨b,0,none⟩) xs.length c) xs.length (xs.map enc):=h;rcases h1.2 with ⟨hv,_⟩ | ⟨g,cc,cur,hv,_,hg,hmc,hcm,hcs,htake⟩
 ·cases hv
 ·simp only [Value.slice.injEq,Option.some.injEq,Addr.mk.injEq,and_true] at hv;obtain ⟨rfl,_,rfl⟩:=hv;exact ⟨cur,hg,by simpa using hcs,hmc,hcm,by simpa using htake⟩
theorem row_holds {α:Type}[Inhabited α]{enc:α→Value}{xs:List α}(h:(row T 1 (some ⟨b,0,none⟩) xs.length c (xs.map enc)).φ w):Go.Sort.Holds enc w b 0 xs.toArray:=by
 obtain ⟨cur,hb,hs,hle,_,ht⟩:=row_block h;intro j hj;have hj':j<xs.length:=by simpa using hj
 have hc:cur[j]?=some (enc (xs.toArray[j]!)):=by
  have h2:=congrArg (fun l:List Value=>l[j]?) ht;simp only [List.getElem?_take_of_lt hj',xG,xD hj',Option.map_some] at h2;rw [← Array.getElem?_toList,h2];simp [hj']
 exact ⟨by simp [World.cell?,hb,hc],by simp [World.frozen?,hb]⟩
theorem sort_turns {α:Type}[Inhabited α]{enc:α→Value}{xs:List α}{d:Array α}{n:Nat}{os:Array Obj}(hA:Holds [row T 1 (some ⟨b,0,none⟩) xs.length c (xs.map enc)] w)(hd:d.size=xs.length):
  Turns [row T 1 (some ⟨b,0,none⟩) xs.length c (xs.map enc)] [row T 1 (some ⟨b,0,none⟩) d.toList.length c (d.toList.map enc)] w (sortWorld enc w b 0 n d os):=by
 have h:=hA.φ _ yF;obtain ⟨cur,hb,hs,hle,hcm,ht⟩:=row_block h;have hlt:b<w.heap.size:=(Array.getElem?_eq_some_iff.1 hb).1
 have hsize:w.heap.size≤(sortWorld enc w b 0 n d os).heap.size:=by
  show w.heap.size≤((Go.Sort.putRow enc (Go.Sort.ahead w n) b 0 d).heap++os).size;rw [Array.size_append,Go.Sort.size_putRow];exact Nat.le_add_right _ _
 have hkeep:∀ i,i<w.heap.size→(sortWorld enc w b 0 n d os).heap[i]?=(Go.Sort.putRow enc w b 0 d).heap[i]?:=by
  intro i hi;show ((Go.Sort.putRow enc (Go.Sort.ahead w n) b 0 d).heap++os)[i]?=_;rw [Array.getElem?_append_left (by rw [Go.Sort.size_putRow];exact hi)];rfl
 have hnew:(sortWorld enc w b 0 n d os).heap[b]?=some (.cells (Go.Sort.putCells enc 0 d cur) T (0,0)):=by
  rw [hkeep b hlt];show (w.heap.modify b _)[b]?=_;rw [Array.getElem?_modify,if_pos rfl,hb];rfl
 refine ⟨⟨rfl,rfl,rfl,hsize,fun i hi hn=>?_,Nat.le_add_right _ _⟩,fun i hi=>?_,fun i hi q hq=>?_,List.pairwise_singleton _ _⟩
 ·rw [hkeep i hi];show (w.heap.modify b _)[i]?=_;rw [Array.getElem?_modify,if_neg (fun e=>hn ⟨_,.head _,⟨_,rfl,e⟩⟩)]
 ·simp only [xI] at hi;subst hi;refine ⟨by simp,.inr ⟨b,c,Go.Sort.putCells enc 0 d cur,rfl,Nat.zero_le _,hnew,by simpa [hd] using hle,hcm,by simp [Go.Sort.putCells,hs],?_⟩⟩;apply List.ext_getElem?;intro j;simp only [Array.length_toList,Nat.mul_one,xG]
  by_cases hj:j<d.size
  ·have hjc:j<cur.size:=by omega
   rw [List.getElem?_take_of_lt hj,Array.getElem?_toList];simp [Go.Sort.putCells,hjc,hj]
  ·rw [xU (by simp;omega),xU (by simp;omega)];rfl
 ·simp only [xI] at hi;subst hi;obtain ⟨a,ha,rfl⟩:=hq;simp only [Option.some.injEq] at ha;subst ha;exact ⟨Nat.lt_of_lt_of_le hlt hsize,.inl ⟨_,.head _,⟨_,rfl,rfl⟩⟩⟩
theorem sort_fr {α:Type}[Inhabited α]{enc:α→Value}{d:Array α}{n:Nat}{os:Array Obj}:Fr (fun i=>i=b) w (sortWorld enc w b 0 n d os):=by
 refine ⟨rfl,rfl,rfl,?_,fun i hi hn=>?_,Nat.le_add_right _ _⟩
 ·show w.heap.size≤((Go.Sort.putRow enc (Go.Sort.ahead w n) b 0 d).heap++os).size;rw [Array.size_append,Go.Sort.size_putRow];exact Nat.le_add_right _ _
 ·show ((Go.Sort.putRow enc (Go.Sort.ahead w n) b 0 d).heap++os)[i]?=_;rw [Array.getElem?_append_left (by rw [Go.Sort.size_putRow];exact hi)];show (w.heap.modify b _)[i]?=_;rw [Array.getElem?_modify,if_neg (fun e=>hn e.symm)]
theorem permIn_perm {α:Type}[Inhabited α]{d d':Array α}(h:Go.Sort.PermIn 0 d.size d d'):d'.toList.Perm d.toList∧d'.size=d.size:=by
 obtain ⟨h1,_,h3⟩:=h;refine ⟨?_,h1⟩;have e1:d.extract 0 d.size=d:=by simp
 have e2:d'.extract 0 d.size=d':=by rw [← h1];simp
 rw [e1,e2] at h3;exact h3
theorem sortedIn_pairwise {α:Type}[Inhabited α]{lt:α→α→Bool}{d:Array α}{m:Nat}(hm:m=d.size)(h:Go.Sort.SortedIn lt 0 m d):d.toList.Pairwise fun x y=>lt y x=false:=by
 subst hm;rw [List.pairwise_iff_getElem];intro i j hi hj hij;have hi':i<d.size:=by simpa using hi
 have hj':j<d.size:=by simpa using hj
 have:=h i j (Nat.zero_le _) hij hj';rw [getElem!_pos d i hi',getElem!_pos d j hj'] at this
 simpa using this
end Go.Hw
set_option maxRecDepth 10000
namespace Go.Proofs.YtdgigbopibdflaaGreatDoor
open Go Go.Hw
set_option linter.unusedSimpArgs false
set_option linter.unusedVariables false
def cmpL:List Int→List Int→Int
 | [],[]=>0
 | [],_::_=>-1
 | _::_,[]=>1
 | x::l,y::m=>if x<y then -1 else if y<x then 1 else cmpL l m
end Go.Proofs.YtdgigbopibdflaaGreatDoor
namespace Go.Hw
set_option linter.unusedVariables false
set_option linter.unusedSimpArgs false
open Go Go.RowKit
variable {w0 ws w w':World} {M I:Nat→Prop} {A A' ow:List Item} {i j:Item}
variable {P:Program} {ops:Array Oper} {Q:Post} {n:Nat} {ds:DS} {e:Env} {rest:List Oper} {c:Code}
variable {dst:Option Tmp} {t lt:TypeId} {p:String} {af:Array Edge} {x y z:Operand} {v u:Value} {d:TypeDesc} {S S':World→Prop} {k:Nat}
theorem WL.extern0 {f:FuncId}{xs:List Operand}{vs:List Value}{ats:Array TypeId}(hv:evs e xs=some vs)(hk:Nat.blt k n=true) 
  (hc:∀ w,S w→(callFunc f vs.toArray).run P w=.ok (.value v) w)
  (h:WL P ops Q n ds ((k,v)::e) S rest):WL P ops Q n ds e S (⟨some k,.call ⟨.value (.func f),xs.toArray,ats⟩,t,p,af,none⟩::rest):=
 WL.extern (ι:=Unit) (vv:=fun _=>v) (SS:=fun _=>S) hv hk (fun w hw=>⟨(),w,hc w hw,hw⟩) (fun _=>h)
theorem Jbn {w:World}{b o:Nat}{cs:List Value}{T:TypeId}{v:Value}(hb:w.heap[b]?=some (.cells cs.toArray T (0,0)))(hv:cs[o]?=some v):w.cell? ⟨b,o,none⟩=some v∧w.frozen? ⟨b,o,none⟩=false:=by
 constructor
 ·simp [World.cell?,hb,hv]
 ·simp [World.frozen?,hb]
theorem Sat.turnedL {w w' ws:World}{A A' B:List Item}{I:Nat→Prop}(h:Sat w (DD A) I ws (A'++B) w'):Turns A A' w w':=Sat.turned (Sat.part (List.sublist_append_left _ _) h)
theorem Jgu {α:Type}{R:List α}(l:List α)(p:List Nat)(h:p.Perm (List.range p.length))(hl:l.length=p.length):(p.filterMap (fun i=>l[i]?)++R).Perm (l++R):=by
 refine List.Perm.append_right R ?_;rw [← hl] at h;have h1:=h.filterMap (fun i=>l[i]?)
 have h2:(List.range l.length).filterMap (fun i=>l[i]?)=l:=by
  have e:(List.range l.length).map (fun i=>l[i]?)=l.map some:=by
   apply List.ext_getElem?;intro i
   by_cases hi:i<l.length
   ·simp [hi]
   ·rw [xU (by simp;omega),xU (by simp;omega)]
  have:=congrArg (List.filterMap id) e
  simpa [List.filterMap_map] using this
 rwa [h2] at h1
def cat {α:Type}:List (List α)→List α
 | []=>[]
 | [a]=>a
 | a::b::l=>a++cat (b::l)
theorem Je4 {α:Type}:∀ L:List (List α),cat L=L.flatten
 | []=>rfl
 | [a]=>by simp [cat]
 | a::b::l=>by rw [cat,Je4 (b::l)];rfl
theorem perm_cat {α:Type}(L:List (List α))(p:List Nat)(h:p.Perm (List.range p.length))(hl:L.length=p.length):(cat (p.filterMap (fun i=>L[i]?))).Perm (cat L):=by
 rw [Je4,Je4];have:=Jgu (R:=[]) L p h hl;rw [xX,xX] at this;exact this.flatten
theorem WX.focus {x:Exit}{ow':List Item}(hp:ow'.Perm ow)(h:WX Q n ds e (Sat w0 M I ws ow') x):WX Q n ds e (Sat w0 M I ws ow) x:=WX.weak (fun _ hw=>hw.perm hp) h
theorem Sat.pick (L:List (List Item))(p:List Nat)(k:Nat)(hl:L.length=k)(hnd:p.Nodup)(hlt:∀ i∈p,i<k)(h:Sat w0 M I ws (cat L) w):Sat w0 M I ws (cat (p.filterMap fun i=>L[i]?)) w:=by
 have hp:(p++(List.range k).filter fun i=>!p.contains i).Perm (List.range k):=by
  rw [List.perm_ext_iff_of_nodup _ List.nodup_range]
  ·intro i;simp only [xS,List.mem_filter,List.mem_range,Bool.not_eq_true',List.contains_eq_mem,decide_eq_false_iff_not];constructor
   ·rintro (hi | hi)
    ·exact hlt i hi
    ·exact hi.1
   ·intro hi
    by_cases hip:i∈p
    ·exact .inl hip
    ·exact .inr ⟨hi,hip⟩
  ·rw [List.nodup_append];refine ⟨hnd,List.Pairwise.filter _ List.nodup_range,fun a ha b hb e=>?_⟩;subst e;have:=(List.mem_filter.1 hb).2;simp [ha] at this
 have hlen:(p++(List.range k).filter fun i=>!p.contains i).length=k:=by rw [hp.length_eq,List.length_range]
 have h1:=Jgu (R:=[]) L (p++(List.range k).filter fun i=>!p.contains i) (by rw [hlen];exact hp) (by rw [hlen];exact hl);rw [xX,xX,List.filterMap_append] at h1;have h2:=h1.flatten;rw [List.flatten_append] at h2;rw [Je4] at h ⊢;exact Sat.part (List.sublist_append_left _ _) (h.perm h2)
def Keeps (w w':World):Prop:=∀ q v,w.cell? q=some v→w'.cell? q=some v
theorem Keeps.refl (w:World):Keeps w w:=fun _ _ h=>h
theorem Keeps.trans {a b c:World}(h:Keeps a b)(k:Keeps b c):Keeps a c:=fun q v hq=>k q v (h q v hq)
theorem Keeps.fr0 {a b:World}(h:Fr0 a b):Keeps a b:=fun q v hq=>by
 rw [World.cell?_of_block (h.keep _ (World.block_lt_of_cell? _ _ hq) (fun f=>f.elim))];exact hq
theorem Sat.keeps (h:Sat w M (fun b=>b<w.heap.size) w ow w'):Keeps w w':=fun q v hq=>by
 rw [World.cell?_of_block ((h.snap _ (World.block_lt_of_cell? _ _ hq)).2)];exact hq
theorem SatR.keeps {w W w':World}{A0 r:List Item}(hS:Sat w (fun _=>False) (fun b=>b<w.heap.size) w (A0++r) W)(hW:SatR W A0 ow w'):Keeps w w':=fun q v hq=>by
 have h1:=hS.keeps q v hq;have hlt:=World.block_lt_of_cell? _ _ hq;rw [World.cell?_of_block (hW.fr.keep _ (World.block_lt_of_cell? _ _ h1) (fun hd=>?_))]
 ·exact h1
 ·obtain ⟨i,hi,hb⟩:=hd;have:=(hS.lt i (xA _ hi) _ hb).2.1;exact this hlt
end Go.Hw
namespace Go.Hw
open Go
theorem pmP {α:Type}{R:List α}(l:List α)(p:List Nat)(h:p.Perm (List.range p.length):=by decide)(hl:l.length=p.length:=by exact rfl):(p.filterMap (fun i=>l[i]?)++R).Perm (l++R):=Jgu l p h hl
theorem pmC {α:Type}(L:List (List α))(p:List Nat)(h:p.Perm (List.range p.length):=by decide)(hl:L.length=p.length:=by exact rfl):(cat (p.filterMap (fun i=>L[i]?))).Perm (cat L):=perm_cat L p h hl
theorem Sat.pik {w0 ws w:World}{M I:Nat→Prop}(L:List (List Item))(p:List Nat)(k:Nat)(h:Sat w0 M I ws (cat L) w)(hl:L.length=k:=by exact rfl)(hnd:p.Nodup:=by decide)(hlt:∀ i∈p,i<k:=by decide):Sat w0 M I ws (cat (p.filterMap fun i=>L[i]?)) w:=Sat.pick L p k hl hnd hlt h
end Go.Hw
set_option maxRecDepth 10000
namespace Go.Proofs.YtdgigbopibdflaaGreatDoor
open Go Go.Hw
set_option linter.unusedSimpArgs false
set_option linter.unusedVariables false
structure Ent where
 p:Nat
 a:Option Addr
 c:Nat
 row:List Int
 part:Nat
structure Col where
 a:Option Addr
 c:Nat
 l:List Int
structure Grp where
 k:ByteArray
 a:Option Addr
 c:Nat
 ps:List Nat
structure Idx where
 p:Nat
 mb:Nat
 col:Col
 gs:List Grp
structure RelG where
 r:Nat
 mb:Nat
 ib:Nat
 width:Nat
 es:List Ent
 fa:Option Addr
 fc:Nat
 fs:List Nat
 na:Option Addr
 nc:Nat
 ns:List Nat
 cols:List Col
 ix:List Idx
def ptr (p:Nat):Value:=.pointer (some ⟨p,0,none⟩)
def ptrs (l:List Nat):List Value:=l.map ptr
def entC (e:Ent):List Value:=[.slice e.a e.row.length e.c,.int .i64 (e.part:Int)]
def entA (e:Ent):List Hw.Item:=[oQ e.p (entC e) 253,row 3 1 e.a e.row.length e.c (ints e.row)]
def colA (c:Col):List Hw.Item:=[row 3 1 c.a c.l.length c.c (ints c.l)]
def grpA (g:Grp):List Hw.Item:=[row 251 1 g.a g.ps.length g.c (ptrs g.ps)]
def grpM (gs:List Grp):List (ByteArray × Value):=gs.map fun g=>(g.k,.slice g.a g.ps.length g.c)
def idxC (x:Idx):List Value:=[.slice x.col.a x.col.l.length x.col.c,.map (some x.mb)]
def idxA (x:Idx):List Hw.Item:=oQ x.p (idxC x) 247::own x.mb (mapK Value.string (grpM x.gs))::x.gs.flatMap grpA
def cnt (es:List Ent)(q:Nat):Nat:=(es.filter fun e=>e.part=q).length
def counts (es:List Ent):List Int:=(List.range 8).map fun q=>(cnt es q:Int)
def hdC (width mb:Nat)(f n:Value)(cts:List Int)(ib:Nat):List Value:=[.int .i64 (width:Int),.map (some mb),f,n]++(ints cts++[.map (some ib),.int .i32 0,.int .u32 0])
def rowsM (es:List Ent):List (ByteArray × Value):=es.map fun e=>(keyB e.row,ptr e.p)
def ixM (ix:List Idx):List (ByteArray × Value):=ix.map fun x=>(keyB x.col.l,ptr x.p)
def fslice (g:RelG):Value:=.slice g.fa g.fs.length g.fc
def nslice (g:RelG):Value:=.slice g.na g.ns.length g.nc
abbrev hdA (r:Nat)(cs:List Value):Hw.Item:=oQ r cs 271
abbrev psA (a:Option Addr)(c:Nat)(l:List Nat):Hw.Item:=row 251 1 a l.length c (ptrs l)
def tailA (es:List Ent)(cols:List Col)(ix:List Idx):List Hw.Item:=es.flatMap entA++(cols.flatMap colA++ix.flatMap idxA)
def relA (g:RelG):List Hw.Item:=
 hdA g.r (hdC g.width g.mb (fslice g) (nslice g) (counts g.es) g.ib)::own g.mb (mapK Value.string (rowsM g.es))::own g.ib (mapK Value.string (ixM g.ix))::psA g.fa g.fc g.fs::psA g.na g.nc g.ns::tailA g.es g.cols g.ix
def psOf (gs:List Grp)(k:ByteArray):List Nat:=((gs.find? fun g=>g.k=k).map (·.ps)).getD []
def ixKey (c:Col)(e:Ent):ByteArray:=keyB (pickL e.row c.l)
structure IdxOK (es:List Ent) (x:Idx):Prop where
 keys:(x.gs.map (·.k)).Nodup
 ps:∀ k,(psOf x.gs k).Perm ((es.filter fun e=>ixKey x.col e=k).map (·.p))
structure RelOK (g:RelG):Prop where
 wid:∀ e∈g.es,e.row.length=g.width
 i64:∀ e∈g.es,i64s e.row
 part:∀ e∈g.es,e.part=1∨e.part=2∨e.part=4
 rows:(g.es.map (·.row)).Nodup
 ptrs:(g.es.map (·.p)).Nodup
 fs:g.fs=(g.es.filter fun e=>e.part=2).map (·.p)
 ns:g.ns=(g.es.filter fun e=>e.part=4).map (·.p)
 cols:∀ c∈g.cols,∀ k∈c.l,0≤k∧k<g.width
 ixc:∀ x∈g.ix,x.col∈g.cols
 ixk:(g.ix.map fun x=>x.col.l).Nodup
 ix:∀ x∈g.ix,IdxOK g.es x
 coll:∀ c∈g.cols,c.l.length≤1099511627776
 wl:g.width≤9223372036854775807
 el:g.es.length≤1099511627776
 rl:∀ e∈g.es,e.row.length≤1099511627776
def RelG.empty (r mb ib width:Nat):RelG:=⟨r,mb,ib,width,[],none,0,[],none,0,[],[],[]⟩
theorem RelOK.empty {r mb ib width:Nat}(h:width≤9223372036854775807):RelOK (RelG.empty r mb ib width):=
 ⟨by simp [RelG.empty],by simp [RelG.empty],by simp [RelG.empty],by simp [RelG.empty],by simp [RelG.empty],rfl,rfl,by simp [RelG.empty],by simp [RelG.empty],by simp [RelG.empty],by simp [RelG.empty],by simp [RelG.empty],h,by simp [RelG.empty],by simp [RelG.empty]⟩
end Go.Proofs.YtdgigbopibdflaaGreatDoor
set_option maxRecDepth 10000
namespace Go.Proofs.YtdgigbopibdflaaGreatDoor
open Go Go.Hw
set_option linter.unusedSimpArgs false
set_option linter.unusedVariables false
def inP (parts:Int)(p:Nat):Bool:=!decide (bits .and .i64 parts (p:Int)=0)
def lenOf (es:List Ent)(parts:Int):Nat:=(es.filter fun e=>inP parts e.part).length
def turnE (e:Ent):Ent:={ e with part:=if e.part=4 then 2 else 1 }
def turnG (g:RelG):RelG:={ g with es:=g.es.map turnE,fa:=g.na,fc:=g.nc,fs:=g.ns,na:=none,nc:=0,ns:=[] }
theorem turn_part {e:Ent}(h:e.part=1∨e.part=2∨e.part=4):(turnE e).part=2↔e.part=4:=by
 unfold turnE;simp only;split <;> omega
theorem turnG_ok {g:RelG}(ok:RelOK g):RelOK (turnG g) where
 wid e he:=by
  obtain ⟨x,hx,rfl⟩:=List.mem_map.1 he;exact ok.wid x hx
 i64 e he:=by
  obtain ⟨x,hx,rfl⟩:=List.mem_map.1 he;exact ok.i64 x hx
 part e he:=by
  obtain ⟨x,hx,rfl⟩:=List.mem_map.1 he;unfold turnE;simp only;split <;> omega
 rows:=by
  show ((g.es.map turnE).map (·.row)).Nodup;rw [List.map_map];exact ok.rows
 ptrs:=by
  show ((g.es.map turnE).map (·.p)).Nodup;rw [List.map_map];exact ok.ptrs
 fs:=by
  show g.ns=((g.es.map turnE).filter fun e=>e.part=2).map (·.p);rw [ok.ns,List.filter_map,List.map_map]
  have:g.es.filter ((fun e=>decide (e.part=2)) ∘ turnE)=g.es.filter fun e=>e.part=4:=by
   apply List.filter_congr;intro e he;have:=turn_part (ok.part e he);simp only [Function.comp_apply];exact decide_eq_decide.2 this
  rw [this];rfl
 ns:=by
  show ([]:List Nat)=((g.es.map turnE).filter fun e=>e.part=4).map (·.p);rw [List.filter_eq_nil_iff.2]
  ·rfl
  ·intro e he;obtain ⟨x,hx,rfl⟩:=List.mem_map.1 he;unfold turnE;simp only;split <;> simp
 cols:=ok.cols
 ixc:=ok.ixc
 ixk:=ok.ixk
 ix x hx:=by
  have h:=ok.ix x hx;refine ⟨h.keys,fun k=>?_⟩;have h2:=h.ps k;show (psOf x.gs k).Perm (((g.es.map turnE).filter fun e=>ixKey x.col e=k).map (·.p));rw [List.filter_map,List.map_map];exact h2
 coll:=ok.coll
 wl:=ok.wl
 rl e he:=by
  obtain ⟨x,hx,rfl⟩:=List.mem_map.1 he;exact ok.rl x hx
 el:=by show (g.es.map turnE).length≤_;rw [xE];exact ok.el
def gadd:List Grp→ByteArray→Nat→Option Addr→Nat→List Grp
 | [],k,p,a,c=>[⟨k,a,c,[p]⟩]
 | g::gs,k,p,a,c=>if k=g.k then ⟨k,a,c,g.ps++[p]⟩::gs else g::gadd gs k p a c
theorem psOf_nil (k:ByteArray):psOf [] k=[]:=rfl
theorem Jfe (g:Grp)(gs:List Grp)(k:ByteArray):psOf (g::gs) k=if k=g.k then g.ps else psOf gs k:=by
 unfold psOf;rw [List.find?_cons]
 by_cases h:k=g.k
 ·subst h;simp
 ·simp [h,Ne.symm h]
theorem psOf_gadd (gs:List Grp)(k:ByteArray)(p:Nat)(a:Option Addr)(c:Nat)(k':ByteArray):psOf (gadd gs k p a c) k'=psOf gs k'++if k'=k then [p] else []:=by
 induction gs with
 | nil=>simp only [gadd,Jfe,psOf_nil];split <;> simp_all
 | cons g gs ih=>
  unfold gadd
  by_cases h:k=g.k
  ·rw [if_pos h,Jfe,Jfe]
   by_cases h2:k'=k
   ·simp [h2,← h]
   ·simp [h2,← h]
  ·rw [if_neg h,Jfe,Jfe,ih]
   by_cases h2:k'=g.k
   ·subst h2;simp [Ne.symm h]
   ·simp [h2]
theorem gadd_keys (gs:List Grp)(k:ByteArray)(p:Nat)(a:Option Addr)(c:Nat):∀ x∈(gadd gs k p a c).map (·.k),x=k∨x∈gs.map (·.k):=by
 induction gs with
 | nil=>intro x hx;simpa [gadd] using hx
 | cons g gs ih=>
  intro x hx;unfold gadd at hx
  split at hx
  ·simp only [yA,yE] at hx ⊢;rcases hx with h | h
   ·exact .inl h
   ·exact .inr (.inr h)
  ·simp only [yA,yE] at hx ⊢;rcases hx with h | h
   ·exact .inr (.inl h)
   ·rcases ih x h with h | h
    ·exact .inl h
    ·exact .inr (.inr h)
theorem gadd_nodup {gs:List Grp}(k:ByteArray)(p:Nat)(a:Option Addr)(c:Nat)(h:(gs.map (·.k)).Nodup):((gadd gs k p a c).map (·.k)).Nodup:=by
 induction gs with
 | nil=>simp [gadd]
 | cons g gs ih=>
  rw [yA,List.nodup_cons] at h;unfold gadd
  split
  ·rename_i hk;rw [yA,List.nodup_cons];exact ⟨by simpa [hk] using h.1,h.2⟩
  ·rename_i hk;rw [yA,List.nodup_cons];refine ⟨fun hh=>?_,ih h.2⟩;rcases gadd_keys gs k p a c _ hh with h1 | h1
   ·exact hk h1.symm
   ·exact h.1 h1
def rp (g:RelG):List (List Int × Nat):=g.es.map fun e=>(e.row,e.part)
structure RelLe (g g':RelG):Prop where
 r:g'.r=g.r
 width:g'.width=g.width
 es:∀ e∈g.es,∃ e'∈g'.es,e'.p=e.p∧e'.a=e.a∧e'.c=e.c∧e'.row=e.row
 cols:∀ c∈g.cols,c∈g'.cols
theorem RelLe.refl (g:RelG):RelLe g g:=⟨rfl,rfl,fun e he=>⟨e,he,rfl,rfl,rfl,rfl⟩,fun _ h=>h⟩
theorem RelLe.trans {a b c:RelG}(h:RelLe a b)(k:RelLe b c):RelLe a c:=
 ⟨k.r.trans h.r,k.width.trans h.width,fun e he=>by
  obtain ⟨e1,h1,a1,a2,a3,a4⟩:=h.es e he;obtain ⟨e2,h2,b1,b2,b3,b4⟩:=k.es e1 h1;exact ⟨e2,h2,b1.trans a1,b2.trans a2,b3.trans a3,b4.trans a4⟩,fun x hx=>k.cols x (h.cols x hx)⟩
structure Ixs (e:Ent) (ix:List Idx) (vis:List Nat) (ix':List Idx):Prop where
 len:ix'.length=ix.length
 at_:∀ j x,ix[j]?=some x→∃ x',ix'[j]?=some x'∧x'.p=x.p∧x'.mb=x.mb∧x'.col=x.col∧(j∈vis→∃ a c,x'.gs=gadd x.gs (ixKey x.col e) e.p a c)∧(j∉vis→x'.gs=x.gs)
theorem Ixs.start (e:Ent)(ix:List Idx):Ixs e ix [] ix:=⟨rfl,fun j x hx=>⟨x,hx,rfl,rfl,rfl,fun h=>(by cases h),fun _=>rfl⟩⟩
theorem Ixs.ixM {e:Ent}{ix ix':List Idx}{vis:List Nat}(h:Ixs e ix vis ix'):ixM ix'=ixM ix:=by
 apply List.ext_getElem?;intro j;show ((ix'.map fun x=>(keyB x.col.l,ptr x.p)))[j]?=((ix.map fun x=>(keyB x.col.l,ptr x.p)))[j]?;simp only [xG];cases hx:ix[j]? with
 | none=>
  have:ix'[j]?=none:=by
   rw [List.getElem?_eq_none_iff] at hx ⊢;rw [h.len];exact hx
  rw [this]
 | some x=>
  obtain ⟨x',h1,h2,_,h4,_⟩:=h.at_ j x hx;rw [h1];simp [h2,h4]
theorem Ixs.step {e:Ent}{ix m1 m2:List Idx}{x:Idx}{vis:List Nat}{a:Option Addr}{c:Nat}(h:Ixs e ix vis (m1++x::m2))(hv:m1.length∉vis):Ixs e ix (vis++[m1.length]) (m1++{ x with gs:=gadd x.gs (ixKey x.col e) e.p a c }::m2):=by
 refine ⟨by rw [← h.len];simp,fun j y hy=>?_⟩;obtain ⟨x',h1,h2,h3,h4,h5,h6⟩:=h.at_ j y hy
 by_cases hj:j=m1.length
 ·subst hj;rw [List.getElem?_append_right (Nat.le_refl _),Nat.sub_self] at h1;simp only [List.getElem?_cons_zero,Option.some.injEq] at h1;subst h1;refine ⟨{ x with gs:=gadd x.gs (ixKey x.col e) e.p a c },by rw [List.getElem?_append_right (Nat.le_refl _),Nat.sub_self];rfl,h2,h3,h4,fun _=>⟨a,c,?_⟩,fun hh=>absurd (by simp) hh⟩;have h7:=h6 hv;show gadd x.gs (ixKey x.col e) e.p a c=_;rw [h7,h4]
 ·refine ⟨x',?_,h2,h3,h4,fun hm=>h5 ?_,fun hm=>h6 ?_⟩
  ·rcases Nat.lt_or_ge j m1.length with hlt | hge
   ·rw [List.getElem?_append_left hlt] at h1 ⊢;exact h1
   ·rw [List.getElem?_append_right hge] at h1 ⊢;obtain ⟨k,hk⟩:∃ k,j - m1.length=k+1:=⟨j - m1.length - 1,by omega⟩
    rw [hk] at h1 ⊢
    simpa using h1
  ·simpa [hj] using hm
  ·simpa [hj] using hm
end Go.Proofs.YtdgigbopibdflaaGreatDoor
namespace Go.Proofs
set_option linter.unusedSimpArgs false
set_option linter.unusedVariables false
open Go Go.Shelf
set_option maxRecDepth 100000
end Go.Proofs
set_option maxRecDepth 10000
namespace Go.Proofs.YtdgigbopibdflaaGreatDoor
open Go Go.Hw
set_option linter.unusedSimpArgs false
set_option linter.unusedVariables false
def good (row:List Int)(p:Int × Int):Prop:=0≤p.1∧p.1<row.length∧row.getD p.1.toNat 0=p.2
def fitsL (row cols key:List Int):Prop:=cols.length=key.length∧∀ p∈cols.zip key,good row p
def lk (m:List (Int × Int))(c:Int):Option Int:=(m.find? fun p=>p.1=c).map (·.2)
theorem Jgw {m:List (Int × Int)}(hn:(m.map (·.1)).Nodup){p:Int × Int}(h:p∈m):lk m p.1=some p.2:=by
 induction m with
 | nil=>cases h
 | cons q m ih=>
  rw [yA,List.nodup_cons] at hn;rcases List.mem_cons.1 h with rfl | h
  ·simp [lk]
  ·have hne:¬ q.1=p.1:=fun e=>hn.1 (by rw [e];exact List.mem_map.2 ⟨p,h,rfl⟩)
   rw [lk,List.find?_cons_of_neg (by simpa using hne)];exact ih hn.2 h
structure QI (width:Nat) (ps:List (Int × Int)) (m:List (Int × Int)):Prop where
 nd:(m.map (·.1)).Nodup
 ok:∀ p∈m,0≤p.1∧p.1<width
 sub:∀ p∈m,p∈ps
 fits:∀ row:List Int,(∀ p∈m,good row p)→∀ p∈ps,good row p
theorem QI.nil (width:Nat):QI width [] []:=⟨by simp,by simp,by simp,by simp⟩
def srt (l:List Int):List Int:=l.mergeSort fun x y=>decide (x≤y)
structure QR (width:Nat) (cols key:List Int) (ls ks:List Int) (b:Bool):Prop where
 no:b=false→∀ row:List Int,row.length=width→¬ fitsL row cols key
 len:ks.length=ls.length
 ok:∀ c∈ls,0≤c∧c<width
 nd:ls.Nodup
 le:ls.length≤cols.length
 i64:i64s ls∧i64s ks
 yes:b=true→∀ row:List Int,row.length=width→(pickL row ls=ks↔fitsL row cols key)
theorem QR.good {width:Nat}{cols key:List Int}{m:List (Int × Int)}(hl:cols.length=key.length)(hq:QI width (cols.zip key) m)(hc:i64s cols)(hk:i64s key)(hle:m.length≤cols.length):QR width cols key (srt (m.map (·.1))) ((srt (m.map (·.1))).map fun c=>(lk m c).getD 0) true:=by
 have hperm:(srt (m.map (·.1))).Perm (m.map (·.1)):=List.mergeSort_perm _ _;have hmem:∀ c,c∈srt (m.map (·.1))↔∃ p∈m,p.1=c:=fun c=>by rw [hperm.mem_iff];simp
 refine ⟨fun h=>(by cases h),by simp,fun c hc=>?_,hperm.nodup_iff.2 hq.nd,by rw [hperm.length_eq];simpa using hle,⟨fun n hn=>?_,fun n hn=>?_⟩,fun _ row hrow=>?_⟩
 ·obtain ⟨p,hp,rfl⟩:=(hmem c).1 hc;exact hq.ok p hp
 ·obtain ⟨p,hp,rfl⟩:=(hmem n).1 hn;exact hc _ (List.of_mem_zip (hq.sub p hp)).1
 ·obtain ⟨c,hcc,rfl⟩:=List.mem_map.1 hn;obtain ⟨p,hp,rfl⟩:=(hmem c).1 hcc;rw [Jgw hq.nd hp];exact hk _ (List.of_mem_zip (hq.sub p hp)).2
 ·unfold pickL;constructor
  ·intro h;refine ⟨hl,fun p hp=>hq.fits row (fun q hqm=>?_) p hp⟩;have h1:=hq.ok q hqm;refine ⟨h1.1,by omega,?_⟩;have h2:=List.map_inj_left.1 h q.1 ((hmem q.1).2 ⟨q,hqm,rfl⟩);rw [h2,Jgw hq.nd hqm];rfl
  ·intro h;apply List.map_congr_left;intro c hcc;obtain ⟨p,hp,rfl⟩:=(hmem c).1 hcc;have h1:=h.2 p (hq.sub p hp);rw [Jgw hq.nd hp];exact h1.2.2
theorem _root_.Go.Hw.Sat.turned0 {w w' ws:World}{I:Nat→Prop}{A':List Hw.Item}(h:Sat w (fun _=>False) I ws A' w'):Turns [] A' w w':=
 ⟨h.fr.mono (fun _ f=>f.elim),h.it,fun i hi b hb=>⟨(h.lt i hi b hb).1,by
  rcases (h.lt i hi b hb).2.2 with hf | hf
  ·exact hf.elim
  ·exact .inr hf⟩,h.disj⟩
structure Vis (es:List Ent) (col:Col) (vis:List Nat) (V:List Ent) (gs:List Grp):Prop where
 nd:vis.Nodup
 at_:vis.map (fun i=>es[i]?)=V.map some
 keys:(gs.map (·.k)).Nodup
 ps:∀ k,psOf gs k=(V.filter fun e=>ixKey col e=k).map (·.p)
theorem Vis.start (es:List Ent)(col:Col):Vis es col [] [] []:=⟨by simp,by simp,by simp,fun k=>rfl⟩
theorem Vis.step {es:List Ent}{col:Col}{vis:List Nat}{V:List Ent}{gs:List Grp}(h:Vis es col vis V gs){i:Nat}{e:Ent}(hi:es[i]?=some e)(hv:i∉vis)(a:Option Addr)(c:Nat):Vis es col (vis++[i]) (V++[e]) (gadd gs (ixKey col e) e.p a c):=by
 refine ⟨?_,by simp [h.at_,hi],gadd_nodup _ _ _ _ h.keys,fun k=>?_⟩
 ·rw [List.nodup_append];exact ⟨h.nd,by simp,fun a ha b hb=>by simp only [xI] at hb;subst hb;exact fun e=>hv (e ▸ ha)⟩
 ·rw [psOf_gadd,h.ps,List.filter_append,xT];congr 1
  by_cases hk:ixKey col e=k
  ·simp [hk]
  ·simp [hk,Ne.symm hk]
theorem Vis.len {es:List Ent}{col:Col}{vis:List Nat}{V:List Ent}{gs:List Grp}(h:Vis es col vis V gs)(k:ByteArray):(psOf gs k).length≤es.length:=by
 have h1:vis.length≤(List.range es.length).length:=by
  refine List.Nodup.length_le_of_subset h.nd (fun i hi=>?_);rw [List.mem_range];have h2:es[i]?∈V.map some:=by rw [← h.at_];exact List.mem_map.2 ⟨i,hi,rfl⟩
  obtain ⟨x,_,hx⟩:=List.mem_map.1 h2;exact (List.getElem?_eq_some_iff.1 hx.symm).1
 have h2:V.length=vis.length:=by have:=congrArg List.length h.at_;simpa using this.symm
 have h3:=List.length_filter_le (fun e=>decide (ixKey col e=k)) V;rw [h.ps,xE];rw [List.length_range] at h1;omega
theorem Vis.all {es:List Ent}{col:Col}{vis:List Nat}{V:List Ent}{gs:List Grp}(h:Vis es col vis V gs)(ha:∀ i,i<es.length→i∈vis):V.Perm es:=by
 have h1:vis.Perm (List.range es.length):=by
  rw [List.perm_ext_iff_of_nodup h.nd List.nodup_range];intro i;rw [List.mem_range];refine ⟨fun hi=>?_,ha i⟩;have h2:es[i]?∈V.map some:=by rw [← h.at_];exact List.mem_map.2 ⟨i,hi,rfl⟩
  obtain ⟨x,_,hx⟩:=List.mem_map.1 h2;exact (List.getElem?_eq_some_iff.1 hx.symm).1
 have h2:=h1.map fun i=>es[i]?
 rw [h.at_] at h2
 have h3:(List.range es.length).map (fun i=>es[i]?)=es.map some:=by
  apply List.ext_getElem?;intro i
  by_cases hi:i<es.length
  ·simp [hi]
  ·rw [xU (by simp;omega),xU (by simp;omega)]
 rw [h3] at h2;have h4:=h2.filterMap id
 simpa [List.filterMap_map] using h4
theorem Vis.ok {es:List Ent}{col:Col}{vis:List Nat}{V:List Ent}{gs:List Grp}(h:Vis es col vis V gs)(ha:∀ i,i<es.length→i∈vis)(p mb:Nat):IdxOK es ⟨p,mb,col,gs⟩:=
 ⟨h.keys,fun k=>by rw [show psOf gs k=_ from h.ps k];exact ((h.all ha).filter _).map _⟩
structure FB where
 bO:Nat
 bR:Nat
 bL:Nat
 bK:Nat
 bP:Nat
 r:Nat
 parts:Int
 la:Option Addr
 lc:Nat
 ls:List Int
 ka:Option Addr
 kc:Nat
 ks:List Int
 b:Bool
def FB.col (F:FB):Col:=⟨F.la,F.lc,F.ls⟩
def FB.caps (F:FB):List Value:=[ptr F.bO,ptr F.bR,ptr F.bL,ptr F.bK,ptr F.bP]
def FB.fn (F:FB):Value:=.func (.func 185) #[] F.caps.toArray
instance (row:List Int) (p:Int × Int):Decidable (good row p):=by unfold good;infer_instance
instance (row cols key:List Int):Decidable (fitsL row cols key):=by unfold fitsL;infer_instance
def sortR (l:List (List Int)):List (List Int):=l.mergeSort fun a b=>!decide (cmpL b a<0)
theorem RI.nil (w:World):RI w none 0 []:=⟨rfl,fun _=>rfl,fun b hb=>by cases hb⟩
theorem RI.some {w:World}{a:Option Addr}{m:Nat}{l:List Int}(h:RI w a m l)(hp:0<m):∃ q,a=Option.some q:=by
 cases a with
 | none=>have:=h.2.1 rfl;omega
 | some q=>exact ⟨q,rfl⟩
theorem RI.keeps {w w':World}{a:Option Addr}{m:Nat}{l:List Int}(h:RI w a m l)(k:Keeps w w'):RI w' a m l:=h.mono fun q v _ hc=>k q v hc
structure RLi (w:World) (a:Option Addr) (n:Nat) (ls:List (List Int)):Prop where
 len:ls.length=n
 nil:a=none→n=0
 big:n≤1099511627776
 at_:∀ q,a=Option.some q→∀ i l,ls[i]?=Option.some l→∃ a' c',w.cell? (q.add i)=Option.some (.slice a' l.length c')∧RI w a' l.length l
 lens:∀ l∈ls,l.length≤1099511627776
 i64:∀ l∈ls,i64s l
theorem RLi.keeps {w w':World}{a:Option Addr}{n:Nat}{ls:List (List Int)}(h:RLi w a n ls)(k:Keeps w w'):RLi w' a n ls:=
 ⟨h.len,h.nil,h.big,fun q hq i l hl=>by
  obtain ⟨a',c',h1,h2⟩:=h.at_ q hq i l hl;exact ⟨a',c',k _ _ h1,h2.keeps k⟩,h.lens,h.i64⟩
theorem RLi.get {w:World}{a:Option Addr}{n:Nat}{ls:List (List Int)}(h:RLi w a n ls){i:Nat}(hi:i<n):∃ q l a' c',a=Option.some q∧ls[i]?=Option.some l∧l∈ls∧w.cell? (q.add i)=Option.some (.slice a' l.length c')∧RI w a' l.length l:=by
 cases a with
 | none=>have:=h.nil rfl;omega
 | some q=>
  have hl:i<ls.length:=by rw [h.len];exact hi
  obtain ⟨a',c',h1,h2⟩:=h.at_ q rfl i _ (xD hl);exact ⟨q,ls[i],a',c',rfl,xD hl,List.getElem_mem hl,h1,h2⟩
theorem take_ext_step {α:Type}{l m:List α}{i:Nat}{x:α}(h:l.take i=m.take i)(hl:l[i]?=some x)(hm:m[i]?=some x):l.take (i+1)=m.take (i+1):=by
 rw [List.take_add_one,List.take_add_one,h,hl,hm]
end Go.Proofs.YtdgigbopibdflaaGreatDoor
namespace Go.Hw
set_option linter.unusedVariables false
set_option linter.unusedSimpArgs false
open Go Go.RowKit Go.Proofs Go.Shelf
variable {P:Program} {ρ:Ren} {w:World} {T:TypeId} {b c:Nat}
theorem Jcp {α:Type}{enc:α→List Value}{k:Nat}(hk:∀ x,(enc x).length=k):∀ xs:List α,(xs.flatMap enc).length=xs.length*k
 | []=>by simp
 | x::xs=>by rw [List.flatMap_cons,xL,hk,Jcp hk xs,List.length_cons,Nat.add_mul,Nat.one_mul,Nat.add_comm]
theorem Jcq {α:Type}{enc:α→List Value}{k:Nat}(hk:∀ x,(enc x).length=k):∀ (xs:List α) (i j:Nat) (x:α),xs[i]?=some x→j<k→(xs.flatMap enc)[i*k+j]?=(enc x)[j]?
 | [],i,j,x,h,_=>by simp at h
 | y::xs,0,j,x,h,hj=>by
  simp only [List.getElem?_cons_zero,Option.some.injEq] at h;subst h;rw [List.flatMap_cons,Nat.zero_mul,xM,List.getElem?_append_left (by rw [hk];exact hj)]
 | y::xs,i+1,j,x,h,hj=>by
  rw [List.flatMap_cons,List.getElem?_append_right (by rw [hk,Nat.add_mul];omega),hk];have:(i+1)*k+j - k=i*k+j:=by rw [Nat.add_mul];omega
  rw [this];exact Jcq hk xs i j x (by simpa using h) hj
theorem flat_flatK {α:Type}[Inhabited α]{enc:α→List Value}{k:Nat}(hk:∀ x,(enc x).length=k)(d:Array α):(Go.Sort.flatK enc k d).toList=d.toList.flatMap enc:=by
 apply List.ext_getElem?;intro t
 by_cases ht:t<d.size*k
 ·have hk0:0<k:=Nat.pos_of_ne_zero (fun h=>by rw [h] at ht;simp at ht);have h1:t / k<d.size:=Nat.div_lt_of_lt_mul (by rwa [Nat.mul_comm] at ht);have h2:t % k<k:=Nat.mod_lt _ hk0;have h3:=Jcq hk d.toList (t / k) (t % k) d[t / k] (by simp [h1]) h2;have h4:t / k*k+t % k=t:=by rw [Nat.mul_comm];exact Nat.div_add_mod t k
  rw [h4] at h3;rw [h3,Array.getElem?_toList];have h5:=Go.Sort.get_flatK enc k d t ht;rw [getElem!_pos _ t (by simpa using ht),getElem!_pos d (t / k) h1,getElem!_pos _ (t % k) (by rw [hk];exact h2)] at h5;rw [Array.getElem?_eq_getElem (by simpa using ht),h5,xD]
 ·rw [xU (by simp;omega),xU (by rw [Jcp hk];simpa using ht)]
theorem row_blockK {k m:Nat}{xs:List Value}(h:(row T k (some ⟨b,0,none⟩) m c xs).φ w):
  ∃ cur,w.heap[b]?=some (.cells cur T (0,0))∧cur.size=c*k∧m≤c∧c≤maxLen∧cur.toList.take (m*k)=xs∧xs.length=m*k:=by
 have h1:w.ownsRow 0 T k (.slice (some ⟨b,0,none⟩) m c) m xs:=h;rcases h1.2 with ⟨hv,_⟩ | ⟨g,cc,cur,hv,_,hg,hmc,hcm,hcs,htake⟩
 ·cases hv
 ·simp only [Value.slice.injEq,Option.some.injEq,Addr.mk.injEq,and_true] at hv;obtain ⟨rfl,_,rfl⟩:=hv;exact ⟨cur,hg,hcs,hmc,hcm,htake,h1.1⟩
theorem row_holdsK {k m:Nat}{xs:List Value}(h:(row T k (some ⟨b,0,none⟩) m c xs).φ w):Go.Sort.Holds id w b 0 xs.toArray:=by
 obtain ⟨cur,hb,hs,hle,_,ht,hl⟩:=row_blockK h;intro j hj;have hj':j<xs.length:=by simpa using hj
 have hc:cur[j]?=some (xs.toArray[j]!):=by
  have h2:=congrArg (fun l:List Value=>l[j]?) ht;simp only [List.getElem?_take_of_lt (show j<m*k by omega),xD hj'] at h2;rw [← Array.getElem?_toList,h2];simp [hj']
 exact ⟨by simp [World.cell?,hb,hc],by simp [World.frozen?,hb]⟩
theorem sort_turnsK {k m:Nat}{xs:List Value}{F:Array Value}{n:Nat}{os:Array Obj}(hA:Holds [row T k (some ⟨b,0,none⟩) m c xs] w)(hd:F.size=m*k):
  Turns [row T k (some ⟨b,0,none⟩) m c xs] [row T k (some ⟨b,0,none⟩) m c F.toList] w (sortWorld id w b 0 n F os):=by
 have h:=hA.φ _ yF;obtain ⟨cur,hb,hs,hle,hcm,ht,hl⟩:=row_blockK h;have hlt:b<w.heap.size:=(Array.getElem?_eq_some_iff.1 hb).1
 have hsize:w.heap.size≤(sortWorld id w b 0 n F os).heap.size:=by
  show w.heap.size≤((Go.Sort.putRow id (Go.Sort.ahead w n) b 0 F).heap++os).size;rw [Array.size_append,Go.Sort.size_putRow];exact Nat.le_add_right _ _
 have hkeep:∀ i,i<w.heap.size→(sortWorld id w b 0 n F os).heap[i]?=(Go.Sort.putRow id w b 0 F).heap[i]?:=by
  intro i hi;show ((Go.Sort.putRow id (Go.Sort.ahead w n) b 0 F).heap++os)[i]?=_;rw [Array.getElem?_append_left (by rw [Go.Sort.size_putRow];exact hi)];rfl
 have hnew:(sortWorld id w b 0 n F os).heap[b]?=some (.cells (Go.Sort.putCells id 0 F cur) T (0,0)):=by
  rw [hkeep b hlt];show (w.heap.modify b _)[b]?=_;rw [Array.getElem?_modify,if_pos rfl,hb];rfl
 have hmk:m*k≤c*k:=Nat.mul_le_mul_right _ hle;refine ⟨⟨rfl,rfl,rfl,hsize,fun i hi hn=>?_,Nat.le_add_right _ _⟩,fun i hi=>?_,fun i hi q hq=>?_,List.pairwise_singleton _ _⟩
 ·rw [hkeep i hi];show (w.heap.modify b _)[i]?=_;rw [Array.getElem?_modify,if_neg (fun e=>hn ⟨_,.head _,⟨_,rfl,e⟩⟩)]
 ·simp only [xI] at hi;subst hi;refine ⟨by simp [hd],.inr ⟨b,c,Go.Sort.putCells id 0 F cur,rfl,Nat.zero_le _,hnew,hle,hcm,by simp [Go.Sort.putCells,hs],?_⟩⟩;apply List.ext_getElem?;intro j
  by_cases hj:j<F.size
  ·have hjc:j<cur.size:=by omega
   rw [List.getElem?_take_of_lt (by omega),Array.getElem?_toList];simp [Go.Sort.putCells,hjc,hj]
  ·rw [xU (by simp;omega),xU (by simp;omega)]
 ·simp only [xI] at hi;subst hi;obtain ⟨a,ha,rfl⟩:=hq;simp only [Option.some.injEq] at ha;subst ha;exact ⟨Nat.lt_of_lt_of_le hlt hsize,.inl ⟨_,.head _,⟨_,rfl,rfl⟩⟩⟩
theorem sort_frK {F:Array Value}{n:Nat}{os:Array Obj}:Fr (fun i=>i=b) w (sortWorld id w b 0 n F os):=sort_fr
theorem Fr.grown {w w':World}(h:Fr0 w w'):∃ q os',w'=Go.Sort.grow (w.drewN q) os':=by
 refine ⟨w'.drawn - w.drawn,w'.heap.extract w.heap.size w'.heap.size,?_⟩
 have hh:w'.heap=w.heap++w'.heap.extract w.heap.size w'.heap.size:=by
  apply Array.ext_getElem?;intro i
  by_cases hi:i<w.heap.size
  ·rw [Array.getElem?_append_left hi];exact h.keep i hi (fun f=>f)
  ·rw [Array.getElem?_append_right (by omega),Array.getElem?_extract]
   by_cases hi2:i<w'.heap.size
   ·rw [if_pos (by omega),show w.heap.size+(i - w.heap.size)=i by omega]
   ·rw [if_neg (by omega),Array.getElem?_eq_none (by omega)]
 have h1:=h.os;have h2:=h.tape;have h3:=h.output;have h4:=h.draws;cases w;cases w';simp only [Go.Sort.grow,World.drewN] at *;subst h1;subst h2;subst h3;congr 1;omega
theorem sortFuncK_calls (L:SlLaysF0.n6 P ρ){α:Type}(k:Nat)(hk0:0<k)(hag:(P.underlying (ρ.t 24)).map aggD=some true)(hz:P.sz (ρ.t 24)=some k)(enc:α→List Value)(hk:∀ x,(enc x).length=k)(h1:∀ x,∀ v∈enc x,v.oneCell'=true)(cf:α→α→Int)(hO:Go.Sort.SWO (ltOf cf))(g:Nat)(hg:bodied P g=true)(a:Option Addr)(xs:List α)(w:World) 
  (hA:Holds [row T k a xs.length c (xs.flatMap enc)] w) (hcmp:∀ q,a=some q→∀ w',Fr (fun i=>i=q.block) w w'→∀ x y,Calls P g #[.agg (enc x).toArray,.agg (enc y).toArray] w' fun e w''=>e=.returned (.int .i64 (cf x y))∧Fr0 w' w'') (hsz:xs.length<4611686018427387904) :
  Calls P (ρ.f 6) #[.slice a xs.length c,.func (.func g) #[] #[]] w fun e w'=>e=.returned (.tuple #[])∧∃ ys:List α,ys.Perm xs∧ys.Pairwise (fun x y=>ltOf cf y x=false) ∧
   Turns [row T k a xs.length c (xs.flatMap enc)] [row T k a ys.length c (ys.flatMap enc)] w w':=by
 cases xs with
 | nil=>
  refine (AnyF.slices_SortFunc_none (P:=P) (ρ:=ρ) L a c (.func (.func g) #[] #[]) w).mono ?_;rintro e w' ⟨rfl,rfl⟩;exact ⟨rfl,[],List.Perm.refl _,List.Pairwise.nil,Turns.refl hA⟩
 | cons x0 xs=>
  haveI:Inhabited α:=⟨x0⟩
  have hφ:=hA.φ _ yF
  have hbase:∃ b,a=some ⟨b,0,none⟩:=by
   have h2:w.ownsRow 0 T k (.slice a (x0::xs).length c) (x0::xs).length ((x0::xs).flatMap enc):=hφ;rcases h2.2 with ⟨hv,h0⟩ | ⟨g,cc,cur,hv,_⟩
   ·simp at h0
   ·simp only [Value.slice.injEq] at hv;exact ⟨g,hv.1⟩
  obtain ⟨b,rfl⟩:=hbase;have hlt:b<w.heap.size:=hA.lt _ yF b ⟨_,rfl,rfl⟩;obtain ⟨d,hu,hd⟩:=Option.map_eq_some_iff.1 hag
  have hflat:Go.Sort.flatK enc k (x0::xs).toArray=((x0::xs).flatMap enc).toArray:=by
   apply Array.toList_inj.1;rw [flat_flatK hk]
  have hcon:=AnyQ.slices_SortFunc L k (fun w=>by rw [Jcy hu,hd]) (fun w=>Hw.run_sizeOf hz w) enc hk h1 cf hO g #[] b 0 c (x0::xs).toArray w (fun args w=>Jep hg args w)
   (fun m os dk hs x y=>(hcmp _ rfl _ (sort_frK (F:=Go.Sort.flatK enc k dk) (n:=m) (os:=os)) x y).mono fun e w' ⟨he,hw⟩=>⟨he,Fr.grown hw⟩)
   (show Go.Sort.Holds id w b 0 (Go.Sort.flatK enc k (x0::xs).toArray) by rw [hflat];exact row_holdsK hφ) hlt (by simpa using hsz)
  have e0:(x0::xs).toArray.size=(x0::xs).length:=by simp
  rw [e0] at hcon;refine hcon.mono ?_;rintro e w' ⟨rfl,d',n,os,hp,hs,rfl⟩;obtain ⟨hp1,hp2⟩:=permIn_perm (d:=(x0::xs).toArray) (by rw [e0];exact hp);have hl:d'.toList.length=(x0::xs).length:=by rw [Array.length_toList,hp2,e0]
  refine ⟨rfl,d'.toList,by simpa using hp1,sortedIn_pairwise (by rw [hp2,e0]) hs,?_⟩;have ht:=sort_turnsK (T:=T) (c:=c) (F:=Go.Sort.flatK enc k d') (n:=n) (os:=os) hA (by rw [Go.Sort.size_flatK,hp2,e0]);rw [flat_flatK hk] at ht;rw [hl];exact ht
end Go.Hw
set_option maxRecDepth 10000
namespace Go.Proofs.YtdgigbopibdflaaGreatDoor
open Go Go.Hw
set_option linter.unusedSimpArgs false
set_option linter.unusedVariables false
theorem _root_.Go.Hw.Holds.fr0 {A:List Hw.Item}{w w':World}(h:Holds A w)(k:Fr0 w w'):Holds A w':=
 ⟨fun i hi=>i.loc w w' (fun b hb=>k.keep b (h.lt i hi b hb) (fun f=>f)) (h.φ i hi),fun i hi b hb=>Nat.lt_of_lt_of_le (h.lt i hi b hb) k.size,h.disj⟩
structure Tm where
 kind:Int
 n:Int
 s:ByteArray
 deriving DecidableEq
instance:Inhabited Tm:=⟨⟨0,0,⟨#[]⟩⟩⟩
structure At where
 b:Tm
 name:ByteArray
 args:List Tm
 deriving DecidableEq
instance:Inhabited At:=⟨⟨default,⟨#[]⟩,[]⟩⟩
structure Pd where
 name:ByteArray
 ar:Nat
 deriving DecidableEq
def tmC (t:Tm):List Value:=[.int .i64 t.kind,.int .i64 t.n,.string t.s]
abbrev tmV (t:Tm):Value:=.agg (tmC t).toArray
def atC (x:At)(a:Option Addr)(c:Nat):List Value:=[.int .i64 x.b.kind,.int .i64 x.b.n,.string x.b.s,.string x.name,.slice a x.args.length c]
abbrev atV (x:At)(a:Option Addr)(c:Nat):Value:=.agg (atC x a c).toArray
def pdC (p:Pd):List Value:=[.string p.name,.int .i64 (p.ar:Int)]
abbrev pdV (p:Pd):Value:=.agg (pdC p).toArray
theorem Jdk (t:Tm):(tmC t).length=3:=rfl
theorem Jiu (t:Tm):∀ v∈tmC t,v.oneCell'=true:=by simp [tmC,Value.oneCell']
theorem Je9 (ts:List Tm):∀ u∈ts.flatMap tmC,u.oneCell'=true:=by
 intro u hu;obtain ⟨t,_,h⟩:=List.mem_flatMap.1 hu;exact Jiu t u h
structure RT (w:World) (a:Option Addr) (ts:List Tm):Prop where
 nil:a=none→ts.length=0
 at_:∀ q,a=some q→∀ i t,ts[i]?=some t→∀ j v,(tmC t)[j]?=some v→w.cell? ((q.add (i*3)).add j)=some v
theorem RT.keeps {w w':World}{a:Option Addr}{ts:List Tm}(h:RT w a ts)(k:Keeps w w'):RT w' a ts:=⟨h.nil,fun q hq i t ht j v hv=>k _ _ (h.at_ q hq i t ht j v hv)⟩
theorem RT.nil0 (w:World):RT w none []:=⟨fun _=>rfl,fun q hq=>by cases hq⟩
theorem RT.get {w:World}{a:Option Addr}{ts:List Tm}(h:RT w a ts){i:Nat}(hi:i<ts.length):∃ q t,a=some q∧ts[i]?=some t∧t∈ts∧ts.getD i default=t∧∀ j v,(tmC t)[j]?=some v→w.cell? ((q.add (i*3)).add j)=some v:=by
 cases a with
 | none=>have:=h.nil rfl;omega
 | some q=>exact ⟨q,ts[i],rfl,xD hi,List.getElem_mem hi,by simp [hi],h.at_ q rfl i _ (xD hi)⟩
theorem Jdz (q:Addr)(i j:Nat):q.add (i+j)=(q.add i).add j:=by
 unfold Addr.add
 by_cases hi:i=0
 ·simp [hi]
 ·by_cases hj:j=0
  ·simp [hj]
  ·simp [hi,hj,yC]
theorem RT.of_row {w0 ws w:World}{M I:Nat→Prop}{ow:List Hw.Item}{a:Option Addr}{m c:Nat}{ts:List Tm}(hl:ts.length=m)(hw:Sat w0 M I ws ow w)(hm:row 23 3 a m c (ts.flatMap tmC)∈ow):RT w a ts:=by
 subst hl;refine ⟨fun ha=>?_,fun q hq i t ht j v hv=>?_⟩
 ·rcases (Jdl hw hm).2 with ⟨_,h,_⟩ | ⟨b,hb,_⟩
  ·exact h
  ·rw [ha] at hb;cases hb
 ·subst hq;have hj:j<3:=(List.getElem?_eq_some_iff.1 hv).1;have h1:=Jdu hw hm (i*3+j) v (by rw [Jcq Jdk ts i j t ht hj];exact hv);rwa [Jdz] at h1
theorem Src.of_rt {a:Option Addr}{ts:List Tm}{S:World→Prop}(h2:a=none→ts.length=0)(h:∀ w,S w→RT w a ts):Src S a ts.length 3 (ts.flatMap tmC):=by
 refine ⟨Jcp Jdk ts,h2,fun w hw b hb j u hj=>?_⟩;have hj3:j<ts.length*3:=by rw [← Jcp Jdk ts];exact (List.getElem?_eq_some_iff.1 hj).1
 have hi:j / 3<ts.length:=Nat.div_lt_of_lt_mul (by omega);have h0:j=j / 3*3+j % 3:=by omega
 rw [h0] at hj;rw [Jcq Jdk ts (j / 3) (j % 3) _ (xD hi) (by omega)] at hj;have h1:=(h w hw).at_ b hb (j / 3) _ (xD hi) (j % 3) u hj;rwa [← Jdz,← h0] at h1
theorem Jcz {w:World}{b:Nat}{cs cs':List Value}{T:TypeId}(h:w.heap[b]?=some (.cells cs.toArray T (0,0))){o:Nat}(hc:(cs.drop o).take cs'.length=cs'):∀ j v,cs'[j]?=some v→w.cell? ⟨b,o+j,none⟩=some v:=by
 intro j v hj;have hl:=(List.getElem?_eq_some_iff.1 hj).1;rw [← hc,List.getElem?_take_of_lt hl,List.getElem?_drop] at hj;exact (Jbn h (by simpa using hj)).1
theorem Jbk {w0 ws w:World}{M I:Nat→Prop}{ow:List Hw.Item}(h:Sat w0 M I ws ow w){b:Nat}{cs cs':List Value}{T:TypeId}{f:Nat × Nat}(hm:own b (.cells cs.toArray T f)∈ow){o:Nat}(hc:(cs.drop o).take cs'.length=cs'):∀ j v,cs'[j]?=some v→w.cell? ⟨b,o+j,none⟩=some v:=by
 intro j v hj;refine Jbt h hm (o+j) v ?_;have hl:=(List.getElem?_eq_some_iff.1 hj).1;rw [← hc,List.getElem?_take_of_lt hl,List.getElem?_drop] at hj;exact hj
theorem s_beq (s u:ByteArray):(s.toList == u.toList)=decide (s=u):=Jgi s u
set_option maxRecDepth 100000 in
theorem Jig (d:Nat)(a b:Tm)(w:World):(Op.equalIn (d+2) 23 (tmV a) (tmV b)).run Tryz.prog w=.ok (decide (a=b)) w:=by
 rw [run_equalIn_struct w (d+1) 23 _ _ (by simp only [Program.fieldsOf,T.u23]) (by kernel_rfl)];obtain ⟨k,n,s⟩:=a;obtain ⟨k',n',s'⟩:=b;simp only [Program.fieldsOf,T.u23];simp [Op.eqFields,part,tmC,Jcy T.u3,Jcy T.u9,aggD,run_equalIn_int w _ _ _ _ _ _ T.u3,run_equalIn_string w _ _ _ _ T.u9,s_beq]
 by_cases h1:k=k' <;> by_cases h2:n=n' <;> by_cases h3:s=s' <;> simp [h1,h2,h3]
theorem findAsking_spot {κ:Type}[DecidableEq κ]{P:Program}{kt:TypeId}{enc:κ→Value}(he:∀ a b w,(Op.equal kt (enc a) (enc b)).run P w=.ok (decide (a=b)) w)(a:κ)(w:World):∀ (l:List (κ × Value)) (i:Nat),(Instr.findAsking kt (enc a) (mapEs enc i l) i).run P w=.ok (spot l a i) w
 | [],i=>by simp [mapEs,Instr.findAsking,spot]
 | q::l,i=>by
  rw [Jgb];have hh:=he a q.1 w;have hh2:=he q.1 a w;unfold Instr.findAsking spot
  by_cases h:a=q.1
  ·simp [Sem.run_bind,hh,hh2,h,he]
  ·have h':¬ q.1=a:=fun e=>h e.symm
   simp [Sem.run_bind,hh,hh2,h,h',he,findAsking_spot he a w l (i+1)]
theorem KeyLaw.wide {κ:Type}[DecidableEq κ]{P:Program}{kt:TypeId}{cs:κ→List Value}(hw:(match P.underlying kt with | some (.array _ _) | some (.struct _)=>true | _=>false)=true)(he:∀ a b w,(Op.equal kt (.agg (cs a).toArray) (.agg (cs b).toArray)).run P w=.ok (decide (a=b)) w) 
  (hc:∀ b a w,(Instr.checkKey b 10000 kt (.agg (cs a).toArray)).run P w=.ok () w) (hs:∀ a,Instr.sameBits 10000 (.agg (cs a).toArray) (.agg (cs a).toArray)=true):KeyLaw P kt (fun a=>.agg (cs a).toArray) where
 check:=hc
 find a l w:=by
  cases hu:P.underlying kt with
  | none=>rw [hu] at hw;cases hw
  | some kd=>
   unfold Instr.findKey;simp only [Sem.run_bind,run_underlying hu,Result.andThen_ok];cases l with
   | nil=>simp [mapEs,Instr.findNow,spot]
   | cons q l=>
    have hn:Instr.findNow kd (.agg (cs a).toArray) (mapEs (fun a=>.agg (cs a).toArray) 0 (q::l)) 0=none:=by
     rw [Jgb];unfold Instr.findNow;rw [hu] at hw;cases kd <;> simp at hw <;> simp [Instr.sameNow]
    rw [hn];exact findAsking_spot (enc:=fun a=>.agg (cs a).toArray) he a w (q::l) 0
 stays:=hs
theorem OV.i8 {n:Nat}{ds:DS}{e:Env}{S:World→Prop}{dst:Option Tmp}{t:TypeId}{p:String}{af:Array Edge}{g:Option (Nat × Bool)}{x y:Operand}{a b:Tm}(hx:ev e x=some (tmV a))(hy:ev e y=some (tmV b)):OV Tryz.prog n ds e S ⟨dst,.binOp .eql 23 x y 23,t,p,af,g⟩ (.bool (decide (a=b))):=fun _ w ha _=>by
 simp [execOp,ha.eval hx,ha.eval hy,run_eqGuard_agg _ _ _ _ _ _ _ (show Program.eqGuardType Tryz.prog (Program.depth Tryz.prog) 23=false by kernel_rfl),run_eql_struct,Jig 9998]
theorem OV.i7 {n:Nat}{ds:DS}{e:Env}{S:World→Prop}{dst:Option Tmp}{t:TypeId}{p:String}{af:Array Edge}{g:Option (Nat × Bool)}{x y:Operand}{a b:Tm}(hx:ev e x=some (tmV a))(hy:ev e y=some (tmV b)):OV Tryz.prog n ds e S ⟨dst,.binOp .neq 23 x y 23,t,p,af,g⟩ (.bool (!decide (a=b))):=fun _ w ha _=>by
 simp [execOp,ha.eval hx,ha.eval hy,run_eqGuard_agg _ _ _ _ _ _ _ (show Program.eqGuardType Tryz.prog (Program.depth Tryz.prog) 23=false by kernel_rfl),run_neq_struct,Jig 9998]
abbrev E0:ByteArray:=⟨#[]⟩
def Jcn (t:Tm):Bool:=if t.kind=1 then decide (t.s=E0) else if t.kind=2 then decide (t.n=0) && decide (t.s.size≤64) else false
def prinB (t:Tm):Bool:=Jcn t && decide (t.kind=2) && !decide (t.s=E0)
def varB (t:Tm):Bool:=decide (t.kind=3) && decide (0≤t.n) && decide (t.s=E0)
def cmpN (a b:Int):Int:=if a<b then -1 else if b<a then 1 else 0
def cmpS (a b:ByteArray):Int:=Lib.compareBytes a.data.toList b.data.toList
def orL:List Int→Int
 | []=>0
 | a::l=>if a≠0 then a else orL l
def cmpT (a b:Tm):Int:=orL [cmpN a.kind b.kind,cmpN a.n b.n,cmpS a.s b.s]
theorem cmpstring_run (a b:ByteArray)(w:World):(callFunc 216 #[.string a,.string b]).run Tryz.prog w=.ok (.value (.int .i64 (cmpS a b))) w:=by
 rw [run_callFunc_extern Tryz.func216 (by kernel_rfl) (by kernel_rfl) (by kernel_rfl) (e:=Extern.BytealgCompare.compare) (by kernel_rfl),Lib.run_compareString];rfl
theorem Jdn (t:Tm)(w:World):Calls Tryz.prog 201 #[tmV t] w fun e w'=>e=.returned (.bool (Jcn t))∧Fr0 w w':=by
 refine Jbi (args:=[tmV t]) (fun _=>False) Tryz.func201 rfl Tryz.ntmps201 rfl rfl ?_;refine Csr (WL.box rfl rfl rfl ?_);intro b1;refine Za rfl (Nn (Cs (Csr (Zv (OV.f0 0 rfl T.u23 rfl) (Zv (OV.ap rfl T.u3 rfl (fun _ hw=>Jbp hw yF rfl)) (Nn (Cb (Csr (Zv (OV.dq rfl rfl) (Za rfl (Nn ?_)))))))))));refine Cc rfl (fun c5=>?_) (fun c5=>?_)
 ·refine Csr (Zv (OV.f0 2 rfl T.u23 rfl) (Zv (OV.ap rfl T.u9 rfl (fun _ hw=>Jbp hw yF rfl)) (Zv (OV.gk rfl rfl) (Za rfl (Nn (WC.ay ?_))))));refine Xq (Xr ?_);exact WX.ret1 rfl rfl rfl (fun w' hw=>⟨by clear hw;simp_all [Jcn] <;> omega,hw.fr⟩)
 refine Csr (Zv (OV.dq rfl rfl) (Za rfl (Nn ?_)));refine Cc rfl (fun c10=>?_) (fun c10=>?_)
 ·refine Csr (Zv (OV.f0 1 rfl T.u23 rfl) (Zv (OV.ap rfl T.u3 rfl (fun _ hw=>Jbp hw yF rfl)) (Zv (OV.dq rfl rfl) (Zm rfl ?_))));refine Zp (t:=15) rfl (fun g15=>?_) (fun g15=>?_)
  ·refine yW (Zv (OV.f0 2 rfl T.u23 rfl) (yW (Zv (OV.ap rfl T.u9 rfl (fun _ hw=>Jbp hw yF rfl)) (yW (Zv (OV.bg rfl T.u9) (yW (Zv (OV.ic rfl rfl) (Zv (OV.ak rfl rfl) (Za rfl (Nn (WC.ay ?_)))))))))));refine Xq (Xr ?_);exact WX.ret1 rfl rfl rfl (fun w' hw=>⟨by clear hw;simp_all [Jcn] <;> omega,hw.fr⟩)
  refine yV (yV (yV (yV (Zv (OV.ai rfl rfl) (Za rfl (Nn (WC.ay ?_)))))));refine Xq (Xr ?_);exact WX.ret1 rfl rfl rfl (fun w' hw=>⟨by clear hw;simp_all [Jcn] <;> omega,hw.fr⟩)
 refine Ck (Xb (Xn (Csr (Za rfl (Nn (WC.ay ?_))))));exact WX.ret1 rfl rfl rfl (fun w' hw=>⟨by clear hw;simp_all [Jcn] <;> omega,hw.fr⟩)
theorem Jcw (t:Tm)(w:World):Calls Tryz.prog 194 #[tmV t] w fun e w'=>e=.returned (.bool (Jcn t))∧Fr0 w w':=by
 refine Jbi (args:=[tmV t]) (fun _=>False) Tryz.func194 rfl Tryz.ntmps194 rfl rfl ?_;refine Csr (WL.box rfl rfl rfl ?_);intro b1;refine Za rfl (Nn (Csr (Zv (OV.f0 0 rfl T.u23 rfl) (Zv (OV.ap rfl T.u3 rfl (fun _ hw=>Jbp hw yF rfl)) (Zv (OV.dq rfl rfl) (Zm rfl ?_))))));refine Zp (t:=6) rfl (fun g6=>?_) (fun g6=>?_)
 ·refine yW (Zv (OV.f0 2 rfl T.u23 rfl) (yW (Zv (OV.ap rfl T.u9 rfl (fun _ hw=>Jbp hw yF rfl)) (yW (Zv (OV.gk rfl rfl) (Zv (OV.ak rfl rfl) (Zm rfl ?_)))))));refine Zp (t:=11) rfl (fun g11=>?_) (fun g11=>?_)
  ·refine yV (yV (yV (yV (Zu rfl rfl (Zu rfl rfl (Zu rfl rfl (yV (yV (Zu rfl rfl (Zu rfl rfl (Zu rfl rfl (Zu rfl rfl (yV (Zv (OV.ak rfl rfl) (Za rfl (Nn (WC.ay ?_)))))))))))))))));exact WX.ret1 rfl rfl rfl (fun w' hw=>⟨by clear hw;simp_all [Jcn] <;> omega,hw.fr⟩)
  refine yW (Zv (OV.f0 0 rfl T.u23 rfl) (yW (Zv (OV.ap rfl T.u3 rfl (fun _ hw=>Jbp hw yF rfl)) (yW (Zv (OV.dq rfl rfl) (yW (Zm rfl ?_)))))));refine Zp (t:=15) rfl (fun g15=>?_) (fun g15=>?_)
  ·refine yW (Zv (OV.f0 1 rfl T.u23 rfl) (yW (Zv (OV.ap rfl T.u3 rfl (fun _ hw=>Jbp hw yF rfl)) (yW (Zv (OV.dq rfl rfl) (yW (Zv (OV.ak rfl rfl) (yW (Zm rfl ?_)))))))));refine Zp (t:=20) rfl (fun g20=>?_) (fun g20=>?_)
   ·refine yW (Zv (OV.f0 2 rfl T.u23 rfl) (yW (Zv (OV.ap rfl T.u9 rfl (fun _ hw=>Jbp hw yF rfl)) (yW (Zv (OV.bg rfl T.u9) (yW (Zv (OV.ic rfl rfl) (yW (Zv (OV.ak rfl rfl) (Zv (OV.ai rfl rfl) (Za rfl (Nn (WC.ay ?_)))))))))))));exact WX.ret1 rfl rfl rfl (fun w' hw=>⟨by clear hw;simp_all [Jcn] <;> omega,hw.fr⟩)
   refine yV (yV (yV (yV (yW (Zv (OV.ai rfl rfl) (Zv (OV.ai rfl rfl) (Za rfl (Nn (WC.ay ?_)))))))));exact WX.ret1 rfl rfl rfl (fun w' hw=>⟨by clear hw;simp_all [Jcn] <;> omega,hw.fr⟩)
  refine yV (yV (yV (yW (Zv (OV.ai rfl rfl) (yW (Zm rfl (yV (yV (yV (yV (yW (Zv (OV.ai rfl rfl) (Zv (OV.ai rfl rfl) (Za rfl (Nn (WC.ay ?_))))))))))))))));exact WX.ret1 rfl rfl rfl (fun w' hw=>⟨by clear hw;simp_all [Jcn] <;> omega,hw.fr⟩)
 refine yV (yV (yV (Zv (OV.ai rfl rfl) (Zm rfl (yW (Zv (OV.f0 0 rfl T.u23 rfl) (yW (Zv (OV.ap rfl T.u3 rfl (fun _ hw=>Jbp hw yF rfl)) (yW (Zv (OV.dq rfl rfl) (yW (Zm rfl ?_))))))))))));refine Zp (t:=15) rfl (fun g15=>?_) (fun g15=>?_)
 ·refine yW (Zv (OV.f0 1 rfl T.u23 rfl) (yW (Zv (OV.ap rfl T.u3 rfl (fun _ hw=>Jbp hw yF rfl)) (yW (Zv (OV.dq rfl rfl) (yW (Zv (OV.ak rfl rfl) (yW (Zm rfl ?_)))))))));refine Zp (t:=20) rfl (fun g20=>?_) (fun g20=>?_)
  ·refine yW (Zv (OV.f0 2 rfl T.u23 rfl) (yW (Zv (OV.ap rfl T.u9 rfl (fun _ hw=>Jbp hw yF rfl)) (yW (Zv (OV.bg rfl T.u9) (yW (Zv (OV.ic rfl rfl) (yW (Zv (OV.ak rfl rfl) (Zv (OV.ai rfl rfl) (Za rfl (Nn (WC.ay ?_)))))))))))));exact WX.ret1 rfl rfl rfl (fun w' hw=>⟨by clear hw;simp_all [Jcn] <;> omega,hw.fr⟩)
  refine yV (yV (yV (yV (yW (Zv (OV.ai rfl rfl) (Zv (OV.ai rfl rfl) (Za rfl (Nn (WC.ay ?_)))))))));exact WX.ret1 rfl rfl rfl (fun w' hw=>⟨by clear hw;simp_all [Jcn] <;> omega,hw.fr⟩)
 refine yV (yV (yV (yW (Zv (OV.ai rfl rfl) (yW (Zm rfl (yV (yV (yV (yV (yW (Zv (OV.ai rfl rfl) (Zv (OV.ai rfl rfl) (Za rfl (Nn (WC.ay ?_))))))))))))))));exact WX.ret1 rfl rfl rfl (fun w' hw=>⟨by clear hw;simp_all [Jcn] <;> omega,hw.fr⟩)
theorem prin_calls (t:Tm)(w:World):Calls Tryz.prog 223 #[tmV t] w fun e w'=>e=.returned (.bool (prinB t))∧Fr0 w w':=by
 refine Jbi (args:=[tmV t]) (fun _=>False) Tryz.func223 rfl Tryz.ntmps223 rfl rfl ?_;refine Csr (WL.box rfl rfl rfl ?_);intro b1;refine Za rfl (Nn (Csr (Zv (OV.lN (cs:=tmC t) rfl T.u23 rfl T.z23 yF) (WL.aw (v:=.bool (Jcn t)) (by kernel_rfl) rfl rfl (fun w' hw'=>Jdn t w') ?_))));refine Zm rfl ?_;refine Zp (t:=5) rfl (fun g5=>?_) (fun g5=>?_)
 ·refine yW (Zv (OV.f0 0 rfl T.u23 rfl) (yW (Zv (OV.ap rfl T.u3 rfl (fun _ hw=>Jbp hw yF rfl)) (yW (Zv (OV.dq rfl rfl) (Zv (OV.ak rfl rfl) (Zm rfl ?_)))))));refine Zp (t:=10) rfl (fun g10=>?_) (fun g10=>?_)
  ·refine yW (Zv (OV.f0 2 rfl T.u23 rfl) (yW (Zv (OV.ap rfl T.u9 rfl (fun _ hw=>Jbp hw yF rfl)) (yW (Zv (OV.neqS rfl rfl) (Zv (OV.ak rfl rfl) (Za rfl (Nn (WC.ay ?_)))))))));exact WX.ret1 rfl rfl rfl (fun w' hw=>⟨by clear hw;simp_all [prinB] <;> omega,hw.fr⟩)
  refine yV (yV (yV (Zv (OV.ai rfl rfl) (Za rfl (Nn (WC.ay ?_))))));exact WX.ret1 rfl rfl rfl (fun w' hw=>⟨by clear hw;simp_all [prinB] <;> omega,hw.fr⟩)
 refine yV (yV (yV (Zv (OV.ai rfl rfl) (Zm rfl (yV (yV (yV (Zv (OV.ai rfl rfl) (Za rfl (Nn (WC.ay ?_)))))))))));exact WX.ret1 rfl rfl rfl (fun w' hw=>⟨by clear hw;simp_all [prinB] <;> omega,hw.fr⟩)
theorem refPrin_calls (t:Tm)(w:World):Calls Tryz.prog 193 #[tmV t] w fun e w'=>e=.returned (.bool (prinB t))∧Fr0 w w':=by
 refine Jbi (args:=[tmV t]) (fun _=>False) Tryz.func193 rfl Tryz.ntmps193 rfl rfl ?_;refine Csr (WL.box rfl rfl rfl ?_);intro b1;refine Za rfl (Nn (Csr (Zv (OV.lN (cs:=tmC t) rfl T.u23 rfl T.z23 yF) (WL.aw (v:=.bool (Jcn t)) (by kernel_rfl) rfl rfl (fun w' hw'=>Jcw t w') ?_))));refine Zm rfl ?_;refine Zp (t:=5) rfl (fun g5=>?_) (fun g5=>?_)
 ·refine yW (Zv (OV.f0 0 rfl T.u23 rfl) (yW (Zv (OV.ap rfl T.u3 rfl (fun _ hw=>Jbp hw yF rfl)) (yW (Zv (OV.dq rfl rfl) (Zv (OV.ak rfl rfl) (Zm rfl ?_)))))));refine Zp (t:=10) rfl (fun g10=>?_) (fun g10=>?_)
  ·refine yW (Zv (OV.f0 2 rfl T.u23 rfl) (yW (Zv (OV.ap rfl T.u9 rfl (fun _ hw=>Jbp hw yF rfl)) (yW (Zv (OV.neqS rfl rfl) (Zv (OV.ak rfl rfl) (Za rfl (Nn (WC.ay ?_)))))))));exact WX.ret1 rfl rfl rfl (fun w' hw=>⟨by clear hw;simp_all [prinB] <;> omega,hw.fr⟩)
  refine yV (yV (yV (Zv (OV.ai rfl rfl) (Za rfl (Nn (WC.ay ?_))))));exact WX.ret1 rfl rfl rfl (fun w' hw=>⟨by clear hw;simp_all [prinB] <;> omega,hw.fr⟩)
 refine yV (yV (yV (Zv (OV.ai rfl rfl) (Zm rfl (yV (yV (yV (Zv (OV.ai rfl rfl) (Za rfl (Nn (WC.ay ?_)))))))))));exact WX.ret1 rfl rfl rfl (fun w' hw=>⟨by clear hw;simp_all [prinB] <;> omega,hw.fr⟩)
theorem Jcr (t:Tm)(w:World):Calls Tryz.prog 88 #[tmV t] w fun e w'=>e=.returned (.bool (varB t))∧Fr0 w w':=by
 refine Jbi (args:=[tmV t]) (fun _=>False) Tryz.func88 rfl Tryz.ntmps88 rfl rfl ?_;refine Csr (WL.box rfl rfl rfl ?_);intro b1;refine Za rfl (Nn (Csr (Zv (OV.f0 0 rfl T.u23 rfl) (Zv (OV.ap rfl T.u3 rfl (fun _ hw=>Jbp hw yF rfl)) (Zv (OV.dq rfl rfl) (Zm rfl ?_))))));refine Zp (t:=6) rfl (fun g6=>?_) (fun g6=>?_)
 ·refine yW (Zv (OV.f0 1 rfl T.u23 rfl) (yW (Zv (OV.ap rfl T.u3 rfl (fun _ hw=>Jbp hw yF rfl)) (yW (Zv (OV.fx rfl rfl) (Zv (OV.ak rfl rfl) (Zm rfl ?_)))))));refine Zp (t:=11) rfl (fun g11=>?_) (fun g11=>?_)
  ·refine yW (Zv (OV.f0 2 rfl T.u23 rfl) (yW (Zv (OV.ap rfl T.u9 rfl (fun _ hw=>Jbp hw yF rfl)) (yW (Zv (OV.gk rfl rfl) (Zv (OV.ak rfl rfl) (Za rfl (Nn (WC.ay ?_)))))))));exact WX.ret1 rfl rfl rfl (fun w' hw=>⟨by clear hw;simp_all [varB] <;> omega,hw.fr⟩)
  refine yV (yV (yV (Zv (OV.ai rfl rfl) (Za rfl (Nn (WC.ay ?_))))));exact WX.ret1 rfl rfl rfl (fun w' hw=>⟨by clear hw;simp_all [varB] <;> omega,hw.fr⟩)
 refine yV (yV (yV (Zv (OV.ai rfl rfl) (Zm rfl (yV (yV (yV (Zv (OV.ai rfl rfl) (Za rfl (Nn (WC.ay ?_)))))))))));exact WX.ret1 rfl rfl rfl (fun w' hw=>⟨by clear hw;simp_all [varB] <;> omega,hw.fr⟩)
theorem Jcv (t:Tm)(w:World):Calls Tryz.prog 98 #[tmV t] w fun e w'=>e=.returned (.bool (varB t))∧Fr0 w w':=by
 refine Jbi (args:=[tmV t]) (fun _=>False) Tryz.func98 rfl Tryz.ntmps98 rfl rfl ?_;refine Csr (WL.box rfl rfl rfl ?_);intro b1;refine Za rfl (Nn (Csr (Zv (OV.f0 0 rfl T.u23 rfl) (Zv (OV.ap rfl T.u3 rfl (fun _ hw=>Jbp hw yF rfl)) (Zv (OV.dq rfl rfl) (Zm rfl ?_))))));refine Zp (t:=6) rfl (fun g6=>?_) (fun g6=>?_)
 ·refine yW (Zv (OV.f0 1 rfl T.u23 rfl) (yW (Zv (OV.ap rfl T.u3 rfl (fun _ hw=>Jbp hw yF rfl)) (yW (Zv (OV.fx rfl rfl) (Zv (OV.ak rfl rfl) (Zm rfl ?_)))))));refine Zp (t:=11) rfl (fun g11=>?_) (fun g11=>?_)
  ·refine yW (Zv (OV.f0 2 rfl T.u23 rfl) (yW (Zv (OV.ap rfl T.u9 rfl (fun _ hw=>Jbp hw yF rfl)) (yW (Zv (OV.gk rfl rfl) (Zv (OV.ak rfl rfl) (Za rfl (Nn (WC.ay ?_)))))))));exact WX.ret1 rfl rfl rfl (fun w' hw=>⟨by clear hw;simp_all [varB] <;> omega,hw.fr⟩)
  refine yV (yV (yV (Zv (OV.ai rfl rfl) (Za rfl (Nn (WC.ay ?_))))));exact WX.ret1 rfl rfl rfl (fun w' hw=>⟨by clear hw;simp_all [varB] <;> omega,hw.fr⟩)
 refine yV (yV (yV (Zv (OV.ai rfl rfl) (Zm rfl (yV (yV (yV (Zv (OV.ai rfl rfl) (Za rfl (Nn (WC.ay ?_)))))))))));exact WX.ret1 rfl rfl rfl (fun w' hw=>⟨by clear hw;simp_all [varB] <;> omega,hw.fr⟩)
theorem isNaN_calls (a:Int)(w:World):Calls Tryz.prog 137 #[.int .i64 a] w fun e w'=>e=.returned (.bool false)∧Fr0 w w':=by
 refine Jbi (args:=[.int .i64 a]) (fun _=>False) Tryz.func137 rfl Tryz.ntmps137 rfl rfl ?_;refine Csr (Za rfl (Nn (Csr (Zm rfl (Zm rfl (Zv (OV.fb rfl rfl) (Za rfl (Nn (WC.ay ?_)))))))));exact WX.ret1 rfl rfl rfl (fun w' hw=>⟨by clear hw;simp_all [] <;> omega,hw.fr⟩)
theorem Jeq (a b:Int)(w:World):Calls Tryz.prog 92 #[.int .i64 a,.int .i64 b] w fun e w'=>e=.returned (.int .i64 (cmpN a b))∧Fr0 w w':=by
 refine Jbi (args:=[.int .i64 a,.int .i64 b]) (fun _=>False) Tryz.func92 rfl Tryz.ntmps92 rfl rfl ?_;refine Csr (Za rfl (Nn (Csr (Zm rfl (WL.aw (v:=.bool false) (by kernel_rfl) rfl rfl (fun w' hw'=>isNaN_calls _ w') ?_)))));refine Za rfl (Nn (Csr (Zm rfl (WL.aw (v:=.bool false) (by kernel_rfl) rfl rfl (fun w' hw'=>isNaN_calls _ w') ?_))));refine Za rfl (Nn (Cs (Csr (Zm rfl (Nn (WC.ca rfl ?_))))));refine Ck (Xn (Cs (Csr (Zm rfl (Nn (WC.ca rfl ?_))))));refine Ck (Xn (Cs (Csr (Zm rfl (Zm rfl (Zv (OV.cu rfl rfl) (Nn ?_)))))));refine Cc rfl (fun c16=>?_) (fun c16=>?_)
 ·refine Csr (Za rfl (Nn (WC.ay ?_)));refine Xr ?_;exact WX.ret1 rfl rfl rfl (fun w' hw=>⟨by clear hw;congr 2;unfold cmpN;split <;> (try split) <;> omega,hw.fr⟩)
 refine Ck (Xn (Cs (Csr (Zm rfl (Zm rfl (Zv (OV.ia rfl rfl) (Nn ?_)))))));refine Cc rfl (fun c19=>?_) (fun c19=>?_)
 ·refine Csr (Za rfl (Nn (WC.ay ?_)));refine Xr ?_;exact WX.ret1 rfl rfl rfl (fun w' hw=>⟨by clear hw;congr 2;unfold cmpN;split <;> (try split) <;> omega,hw.fr⟩)
 refine Ck (Xn (Csr (Za rfl (Nn (WC.ay ?_)))));exact WX.ret1 rfl rfl rfl (fun w' hw=>⟨by clear hw;congr 2;unfold cmpN;split <;> (try split) <;> omega,hw.fr⟩)
theorem bcmp_calls (a b:ByteArray)(w:World):Calls Tryz.prog 174 #[.string a,.string b] w fun e w'=>e=.returned (.int .i64 (cmpS a b))∧Fr0 w w':=by
 refine Jbi (args:=[.string a,.string b]) (fun _=>False) Tryz.func174 rfl Tryz.ntmps174 rfl rfl ?_;refine Csr (Za rfl (Nn (Csr (Zm rfl (Zm rfl (WL.extern0 rfl rfl (fun w' _=>cmpstring_run a b w') ?_))))));refine Za rfl (Nn (WC.ay ?_));exact WX.ret1 rfl rfl rfl (fun w' hw=>⟨rfl,hw.fr⟩)
theorem scmp_calls (a b:ByteArray)(w:World):Calls Tryz.prog 118 #[.string a,.string b] w fun e w'=>e=.returned (.int .i64 (cmpS a b))∧Fr0 w w':=by
 refine Jbi (args:=[.string a,.string b]) (fun _=>False) Tryz.func118 rfl Tryz.ntmps118 rfl rfl ?_;refine Csr (Za rfl (Nn (Csr (Zm rfl (Zm rfl (WL.aw (v:=.int .i64 (cmpS a b)) (by kernel_rfl) rfl rfl (fun w' hw'=>bcmp_calls a b w') ?_))))));refine Za rfl (Nn (WC.ay ?_));exact WX.ret1 rfl rfl rfl (fun w' hw=>⟨rfl,hw.fr⟩)
theorem orL_at {l:List Int}{i:Nat}(h:∀ j,j<i→l.getD j 0=0)(hi:i<l.length)(hv:l.getD i 0≠0):orL l=l.getD i 0:=by
 induction l generalizing i with
 | nil=>simp at hi
 | cons a l ih=>
  cases i with
  | zero=>simp only [List.getD_cons_zero] at hv ⊢;simp [orL,hv]
  | succ i=>
   have h0:a=0:=by simpa using h 0 (by omega)
   rw [orL,if_neg (by simpa using h0)];simp only [List.getD_cons_succ] at hv ⊢;exact ih (fun j hj=>by simpa using h (j+1) (by omega)) (by simpa using hi) hv
theorem orL_zero {l:List Int}(h:∀ j,j<l.length→l.getD j 0=0):orL l=0:=by
 induction l with
 | nil=>rfl
 | cons a l ih=>
  have h0:a=0:=by simpa using h 0 (by simp)
  rw [orL,if_neg (by simpa using h0)];exact ih (fun j hj=>by simpa using h (j+1) (by simpa using hj))
theorem ints_get' {l:List Int}{i:Nat}(h:i<l.length):(ints l)[i]?=some (.int .i64 (l.getD i 0)):=ints_get (by rw [yD,xD h];rfl)
theorem Jih (l:List Int)(b:Nat)(hl:l.length≤1048576)(w:World)(hb:w.heap[b]?=some (.cells (ints l).toArray 3 (0,0))):Calls Tryz.prog 91 #[.slice (some ⟨b,0,none⟩) l.length l.length] w fun e w'=>e=.returned (.int .i64 (orL l))∧Fr0 w w':=by
 refine Jbi (args:=[.slice (some ⟨b,0,none⟩) l.length l.length]) (fun _=>False) Tryz.func91 rfl Tryz.ntmps91 rfl rfl ?_;refine Csr (Za rfl (Nn (Csr (Za rfl (Nn (Cs (Csr (Zm rfl (Zv (OV.ad rfl T.u32) (Zm rfl (Nn (Cb ?_))))))))))))
 refine WC.bz (fun (i:Nat)=>[(3,.int .i64 0),(6,.slice (some ⟨b,0,none⟩) l.length l.length),(7,.int .i64 (l.length:Int)),(8,.int .i64 (i:Int))])
   (fun i w'=>(i≤l.length∧∀ j,j<i→l.getD j 0=0)∧Sat0 w ([]) w')
   (fun i=>l.length - i) 0 Y4 (fun w' hw=>⟨⟨by omega,by intro j hj;omega⟩,hw⟩) ?_
 intro i;refine WC.pure (fun hi=>?_);obtain ⟨hi,hz⟩:=hi;refine Csr (Zv (OV.cu rfl rfl) (Nn (Cs ?_)));refine Cc rfl (fun c9=>?_) (fun c9=>?_)
 ·refine Ck (Xn (Cs (Cb (Csr ?_))));have hil:i<l.length:=by omega
  refine Zv (OV.da (i:=i) rfl rfl T.u32 T.z3 (by omega)) (Zv (OV.ap (v:=.int .i64 (l.getD i 0)) rfl T.u3 rfl (fun _ hw=>snapL hw ((Jbn hb (o:=i) (by rw [ints_get' hil])).1))) (Za rfl (Nn (Csr (Zm rfl (Zm rfl (Zv (OV.fb rfl rfl) (Nn ?_))))))));refine Cc rfl (fun c14=>?_) (fun c14=>?_)
  ·refine Csr (Zm rfl (Za rfl (Nn (WC.ay ?_))));refine Xq (Xr (Xr (Xq (Xr ?_))));exact WX.ret1 rfl rfl rfl (fun w' hw=>⟨by rw [orL_at hz (by omega) (by simpa using c14)],hw.fr⟩)
  refine Ck (Xb (Xn (Cr (Zv (OV.bh (j:=1) rfl rfl (by omega)) (Zm rfl (Nl ?_))))));have h0:l.getD i 0=0:=by simpa using c14
  exact WX.au (i+1) Y4 (fun w' hw=>⟨⟨by omega,fun j hj=>by rcases Nat.lt_or_ge j i with h | h;exact hz j h;rw [show j=i by omega];exact h0⟩,hw⟩) (by show l.length - (i+1)<l.length - i;omega)
 refine Ce (Xe (Xe (Xh (Xn (Csr (Zm rfl (Za rfl (Nn (WC.ay ?_)))))))));exact WX.ret1 rfl rfl rfl (fun w' hw=>⟨by rw [orL_zero (fun j hj=>hz j (by omega))],hw.fr⟩)
theorem Jgg (t u:Tm)(w:World):Calls Tryz.prog 114 #[tmV t,tmV u] w fun e w'=>e=.returned (.int .i64 (cmpT t u))∧Fr0 w w':=by
 refine Jbi (args:=[tmV t,tmV u]) (fun _=>False) Tryz.func114 rfl Tryz.ntmps114 rfl rfl ?_;refine Csr (WL.box rfl rfl rfl ?_);intro b2;refine WL.box rfl rfl rfl ?_;intro b3;refine Za rfl (Nn (Cs (Hd (fun w'=>w'.heap[b2]?=some (.cells (tmC t).toArray 23 (0,0))∧w'.heap[b3]?=some (.cells (tmC u).toArray 23 (0,0))) [] (fun _ hw=>⟨hw.it (oQ b2 (tmC t) 23) (by simp),hw.it (oQ b3 (tmC u) 23) (by simp)⟩) (m:=18) rfl ?_)));refine Hf 0 rfl (OV.f0 0 rfl T.u23 rfl) (Ht 1 rfl (OV.ap (v:=.int .i64 t.kind) rfl T.u3 rfl (fun _ hw=>(Jbn hw.1 (o:=0) rfl).1)) (Hf 2 rfl (OV.f0 0 rfl T.u23 rfl) (Ht 3 rfl (OV.ap (v:=.int .i64 u.kind) rfl T.u3 rfl (fun _ hw=>(Jbn hw.2 (o:=0) rfl).1)) (Hf 5 rfl (OV.f0 1 rfl T.u23 rfl) (Ht 6 rfl (OV.ap (v:=.int .i64 t.n) rfl T.u3 rfl (fun _ hw=>(Jbn hw.1 (o:=1) rfl).1)) (Hf 7 rfl (OV.f0 1 rfl T.u23 rfl) (Ht 8 rfl (OV.ap (v:=.int .i64 u.n) rfl T.u3 rfl (fun _ hw=>(Jbn hw.2 (o:=1) rfl).1)) (Hf 10 rfl (OV.f0 2 rfl T.u23 rfl) (Ht 11 rfl (OV.ap (v:=.string t.s) rfl T.u9 rfl (fun _ hw=>(Jbn hw.1 (o:=2) rfl).1)) (Hf 12 rfl (OV.f0 2 rfl T.u23 rfl) (Ht 13 rfl (OV.ap (v:=.string u.s) rfl T.u9 rfl (fun _ hw=>(Jbn hw.2 (o:=2) rfl).1)) (Ho 4 rfl (fl':=false) rfl ?_))))))))))));refine WL.aw (v:=.int .i64 (cmpN t.kind u.kind)) (by kernel_rfl) rfl rfl (fun w' hw'=>Jeq _ _ w') ?_;refine Hc (fun _=>(fun _ hw=>⟨hw.it (oQ b2 (tmC t) 23) (by simp),hw.it (oQ b3 (tmC u) 23) (by simp)⟩)) ?_;refine Ho 9 rfl (fl':=false) rfl ?_;refine WL.aw (v:=.int .i64 (cmpN t.n u.n)) (by kernel_rfl) rfl rfl (fun w' hw'=>Jeq _ _ w') ?_;refine Hc (fun _=>(fun _ hw=>⟨hw.it (oQ b2 (tmC t) 23) (by simp),hw.it (oQ b3 (tmC u) 23) (by simp)⟩)) ?_;refine Ho 14 rfl (fl':=false) rfl ?_;refine WL.aw (v:=.int .i64 (cmpS t.s u.s)) (by kernel_rfl) rfl rfl (fun w' hw'=>scmp_calls _ _ w') ?_;refine Hc (fun _=>(fun _ hw=>⟨hw.it (oQ b2 (tmC t) 23) (by simp),hw.it (oQ b3 (tmC u) 23) (by simp)⟩)) ?_;refine Ho 15 rfl (fl':=false) rfl ?_;refine WL.ey (xs:=[.tmp 9,.tmp 14,.tmp 19]) (vs:=ints [cmpN t.kind u.kind,cmpN t.n u.n,cmpS t.s u.s]) rfl T.u32 T.z3 T.zr3 rfl rfl rfl (by decide) rfl ?_;intro b20;refine Hc (fun _=>(fun _ hw=>⟨hw.it (oQ b2 (tmC t) 23) (by simp),hw.it (oQ b3 (tmC u) 23) (by simp)⟩)) ?_;refine Ho 16 rfl (fl':=false) rfl ?_;refine WL.aw (v:=.int .i64 (cmpT t u)) (by kernel_rfl) rfl rfl (fun w' hw'=>Jih [cmpN t.kind u.kind,cmpN t.n u.n,cmpS t.s u.s] b20 (by simp) w' (hw'.it _ yF)) ?_;refine Hc (fun _=>(fun _ hw=>⟨hw.it (oQ b2 (tmC t) 23) (by simp),hw.it (oQ b3 (tmC u) 23) (by simp)⟩)) ?_;refine Hf 17 rfl (OV.assign rfl) (He (Xn (WC.ay ?_)));exact WX.ret1 rfl rfl rfl (fun w' hw=>⟨rfl,hw.fr⟩)
end Go.Proofs.YtdgigbopibdflaaGreatDoor
