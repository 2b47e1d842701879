/- Parts of arrays, slices and texts; copies; literals of structs; bytes. -/
import Derived.Test.YtdgigbopibdflaaGreatDoorHxLoop
import Derived.Laws.MakeOwn
import Derived.Laws.Pointers
namespace Go.Hw
set_option linter.unusedVariables false
set_option linter.unusedSimpArgs false
open Go Go.RowKit Go.Lib
variable {w0 ws w:World} {M I:Nat→Prop} {ow:List Item} {i j:Item}
variable {P:Program} {ops:Array Oper} {Q:Post} {n:Nat} {ds:DS} {e:Env} {rest:List Oper} {c:Code}
variable {dst:Option Tmp} {t lt:TypeId} {p:String} {af:Array Edge} {x y z:Operand} {v u:Value} {d:TypeDesc} {S S':World→Prop} {k:Nat} {g:Option (Nat × Bool)}
section
variable {i j:Nat} {xt yt:TypeId}
theorem OV.bh (hx:ev e x=some (.int .i64 (i:Int)))(hy:ev e y=some (.int .i64 (j:Int)))(h:i+j≤9223372036854775807):OV P n ds e S ⟨dst,.binOp .add xt x y yt,t,p,af,g⟩ (.int .i64 ((i+j:Nat):Int)):=
 (OV.ie hx hy (by omega)).cast (by congr 1)
end
def bnd (e:Env):Option Operand→Option (Option Nat)
 | none=>some none
 | some x=>match ev e x with
  | some (.int .i64 (.ofNat m))=>some (some m)
  | _=>none
theorem bnd_eval {a:Act}(ha:Fits n ds e a){o:Option Operand}{m:Option Nat}(h:bnd e o=some m):∃ vv,o.map a.eval=vv∧((vv=none∧m=none)∨∃ q:Nat,vv=some (.int .i64 (q:Int))∧m=some q):=by
 cases o with
 | none=>simp only [bnd,Option.some.injEq] at h;exact ⟨none,rfl,.inl ⟨rfl,h.symm⟩⟩
 | some x=>
  simp only [bnd] at h
  split at h
  ·rename_i m' hm;simp only [Option.some.injEq] at h;refine ⟨some (.int .i64 (.ofNat m')),by simp [ha.eval hm],.inr ⟨m',rfl,h.symm⟩⟩
  ·cases h
theorem run_bounds (isSlice:Bool){len cap:Nat}{lo hi:Option Value}{l h:Nat}{ml mh:Option Nat} 
  (hlo:(lo=none∧ml=none)∨∃ q:Nat,lo=some (.int .i64 (q:Int))∧ml=some q) (hhi:(hi=none∧mh=none)∨∃ q:Nat,hi=some (.int .i64 (q:Int))∧mh=some q)
  (hl:ml.getD 0=l) (hh:mh.getD len=h) (h1:l≤h) (h2:h≤cap) (w:World) :
  (Instr.sliceBounds isSlice len cap lo hi none).run P w=.ok (l,h,cap) w:=by
 have hb:∀ (q y:Nat) (code:BoundsCode),q≤y→(Instr.sliceBound (.int .i64 (q:Int)) y code).run P w=.ok q w:=by
  intro q y code hq;simp [Instr.sliceBound,asIntOf,hq]
 rcases hlo with ⟨rfl,rfl⟩ | ⟨ql,rfl,rfl⟩ <;> rcases hhi with ⟨rfl,rfl⟩ | ⟨qh,rfl,rfl⟩ <;> simp only [Option.getD_none,Option.getD_some] at hl hh <;> subst hl <;> subst hh <;>
  simp [Instr.sliceBounds,hb,h1,h2]
theorem OV.sliceSl {a:Option Addr}{m cp s l h:Nat}{el:TypeId}{lo hi:Option Operand}{ml mh:Option Nat}(hx:ev e x=some (.slice a m cp))(hu:P.underlying lt=some (.slice el))(hz:P.sz el=some s) 
  (hlo:bnd e lo=some ml) (hhi:bnd e hi=some mh) (hl:ml.getD 0=l) (hh:mh.getD m=h) (h1:l≤h∧h≤cp) :
  OV P n ds e S ⟨dst,.slice lt x lo hi none,t,p,af,g⟩ (.slice (if cp=l then a else a.map (·.add (l*s))) (h - l) (cp - l)):=fun ac w ha _=>by
 obtain ⟨v1,e1,b1⟩:=bnd_eval ha hlo;obtain ⟨v2,e2,b2⟩:=bnd_eval ha hhi;have:=run_bounds (P:=P) true b1 b2 hl hh h1.1 h1.2 w;simp [execOp,ha.eval hx,e1,e2,Instr.sliceAt,Instr.slice,run_underlying hu,this,run_sizeOf hz]
theorem Jg5 (a:Addr):a.add 0=a:=by simp [Addr.add]
theorem OV.e7 {a:Option Addr}{m cp s h:Nat}{el:TypeId}{hi:Operand}(hx:ev e x=some (.slice a m cp))(hu:P.underlying lt=some (.slice el))(hz:P.sz el=some s)(hhi:ev e hi=some (.int .i64 (h:Int)))(h1:h≤cp):
  OV P n ds e S ⟨dst,.slice lt x none (some hi) none,t,p,af,g⟩ (.slice a h cp):=
 (OV.sliceSl (ml:=none) (mh:=some h) (l:=0) (h:=h) hx hu hz rfl (by simp only [bnd,hhi]) rfl rfl (by omega)).cast (by
  have:(if cp=0 then a else a.map (·.add (0*s)))=a:=by
   split
   ·rfl
   ·rw [Nat.zero_mul];cases a with
    | none=>rfl
    | some q=>simp [Jg5]
  rw [this];rfl)
def New (w w':World)(i:Item):Prop:=i.φ w'∧∀ b,i.D b→w.heap.size≤b∧b<w'.heap.size
theorem Sat.new {w0 w:World}(h:Sat w0 M I ws ow w){i:Item}(hi:i∈ow)(hM:∀ b,i.D b→¬ M b):New w0 w i:=
 ⟨h.it i hi,fun b hb=>⟨(h.lt i hi b hb).2.2.elim (fun hm=>absurd hm (hM b hb)) id,(h.lt i hi b hb).1⟩⟩
theorem Sat.apart (h:Sat w0 M I ws (i::ow) w){j:Item}(hj:j∈ow):Disj i j:=(List.pairwise_cons.1 h.disj).1 j hj
theorem run_places {fs:List Field}{pl:List (Nat × Nat)}(h:fs.map (fun f=>(f.offset,P.sz f.type))=pl.map (fun q=>(q.1,some q.2)))(w:World):
  (fs.mapM fun f=>do pure (f.offset,← sizeOf f.type):Sem (List (Nat × Nat))).run P w=.ok pl w:=by
 induction fs generalizing pl with
 | nil=>
  cases pl with
  | nil=>rfl
  | cons q pl=>simp at h
 | cons f fs ih=>
  cases pl with
  | nil=>simp at h
  | cons q pl=>
   simp only [yA,List.cons.injEq,Prod.mk.injEq] at h;obtain ⟨⟨h1,h2⟩,h3⟩:=h;have:=ih h3;simp only [List.mapM_cons,Sem.run_bind,run_sizeOf h2,Result.andThen_ok,Sem.run_pure,this];rw [h1]
theorem OV.bf {fs:Array Field}{pl:List (Nat × Nat)}{zc cs:List Value}{xs:List (Nat × Operand)}{vs:List Value}(hu:P.underlying lt=some (.struct fs))(hzr:P.zr lt=some zc.toArray)(hpl:fs.toList.map (fun f=>(f.offset,P.sz f.type))=pl.map (fun q=>(q.1,some q.2))) 
  (hv:evs e (xs.map (·.2))=some vs) (hf:Instr.fill (fun i=>pl[i]?) zc.toArray ((xs.map (·.1)).zip vs)=some cs.toArray) :
  OV P n ds e S ⟨dst,.build lt xs.toArray,t,p,af,g⟩ (.agg cs.toArray):=fun a w ha _=>by
 obtain ⟨zv,hzv,hc⟩:=Jfl hzr w;have hxs:=Jeh ha hv
 have hmap:xs.map (fun q=>(q.1,a.eval q.2))=(xs.map (·.1)).zip vs:=by
  rw [← hxs,List.map_map,List.zip_map'];rfl
 have hp:=run_places (P:=P) hpl w
 have hpa:(fs.mapM fun f=>do pure (f.offset,← sizeOf f.type):Sem (Array (Nat × Nat))).run P w=.ok pl.toArray w:=by
  have:(fs.mapM fun f=>do pure (f.offset,← sizeOf f.type):Sem (Array (Nat × Nat)))=List.toArray <$> (fs.toList.mapM fun f=>do pure (f.offset,← sizeOf f.type)):=Array.mapM_eq_mapM_toList;rw [this];simp only [map_eq_pure_bind,Sem.run_bind,hp,Result.andThen_ok,Sem.run_pure]
 simp only [execOp,Instr.build];simp only [Sem.run_bind,hzv,Result.andThen_ok,run_underlying hu,hpa,hc]
 have hm2:(List.map (fun x=>match x with | (i,x)=>(i,a.eval x)) xs)=(xs.map (·.1)).zip vs:=by
  rw [← hmap]
 have hg:(fun i:Nat=>pl.toArray[i]?)=fun i:Nat=>pl[i]?:=by funext i;simp
 have hf2:Instr.fill (fun i:Nat=>pl.toArray[i]?) zc.toArray (List.map (fun x=>match x with | (i,x)=>(i,a.eval x)) xs)=some cs.toArray:=by rw [hm2,hg];exact hf
 simp only [List.map_toArray];rw [hf2];rfl
theorem Jax {pl:Nat→Option (Nat × Nat)}{cs us:List Value}{i off:Nat}{v:Value}{r:List (Nat × Value)}{q:Option (Array Value)}(hv:v.cells=us.toArray)(hp:pl i=some (off,us.length))(hl:off+us.length≤cs.length) 
  (h:Instr.fill pl (cs.take off++us++cs.drop (off+us.length)).toArray r=q):Instr.fill pl cs.toArray ((i,v)::r)=q:=by
 unfold Instr.fill
 have hset:∀ (us done:List Value) (k:Nat) (cs:List Value),off+k+us.length≤cs.length→((us.zipIdx k).foldl (fun (cs:Array Value) (x:Value × Nat)=>cs.setIfInBounds (off+x.2) x.1) cs.toArray)=(cs.take (off+k)++us++cs.drop (off+k+us.length)).toArray:=by
  intro us
  induction us with
  | nil=>intro _ k cs _;simp
  | cons u us ih=>
   intro done k cs hl;simp only [List.length_cons] at hl;simp only [List.zipIdx_cons,List.foldl_cons,List.setIfInBounds_toArray];rw [ih done (k+1) (cs.set (off+k) u) (by simp;omega)];congr 1
   have e1:(cs.set (off+k) u).take (off+(k+1))=cs.take (off+k)++[u]:=by
    rw [← yC,List.take_add_one,List.take_set,List.getElem?_set_self (by omega)];rw [List.set_eq_of_length_le (by simp;omega)];rfl
   have e2:(cs.set (off+k) u).drop (off+(k+1)+us.length)=cs.drop (off+k+(us.length+1)):=by
    rw [List.drop_set_of_lt (by omega)];congr 1;omega
   rw [e1,e2];simp
 have h2:(v.cells.zipIdx.foldl (fun cs (x:Value × Nat)=>cs.setIfInBounds (off+x.2) x.1) cs.toArray)=(cs.take off++us++cs.drop (off+us.length)).toArray:=by
  have h3:=hset us [] 0 cs (by omega);simp only [Nat.add_zero] at h3;rw [hv,← h3];simp
 rw [hp];simp only;rw [if_neg (by rw [hv];simp;omega),h2];exact h
end Go.Hw
namespace Go.Hw
set_option linter.unusedVariables false
set_option linter.unusedSimpArgs false
open Go Go.RowKit
def RB (w:World)(a:Option Addr)(m:Nat)(l:List UInt8):Prop:=
 l.length=m∧(a=none→m=0)∧∀ b,a=some b→∀ j,j<m→w.cell? (b.add j)=some (b8 (l.getD j 0))
theorem RB.cell {w:World}{b:Addr}{m:Nat}{l:List UInt8}(h:RB w (some b) m l){j:Nat}(hj:j<m):w.cell? (b.add j)=some (b8 (l.getD j 0)):=h.2.2 b rfl j hj
theorem Jdr (a:Addr)(n:Nat):(a.add n).block=a.block:=by unfold Addr.add;split <;> rfl
theorem RB.block {w:World}{b:Addr}{m:Nat}{l:List UInt8}(h:RB w (some b) m l)(hm:0<m):b.block<w.heap.size:=by
 have:=World.block_lt_of_cell? w _ (h.cell (j:=0) hm);rwa [Jdr] at this
theorem RB.keep {w w':World}{a:Option Addr}{m:Nat}{l:List UInt8}(h:RB w a m l){M:Nat→Prop}(k:Fr M w w')(hM:∀ b,a=some b→0<m→¬ M b.block):RB w' a m l:=by
 refine ⟨h.1,h.2.1,fun b hb j hj=>?_⟩;subst hb;rw [World.cell?_of_block (w:=w) (by rw [Jdr];exact k.keep _ (h.block (by omega)) (hM b rfl (by omega)))];exact h.cell hj
theorem Src.rb {S:World→Prop}{w:World}{a:Option Addr}{m:Nat}{l:List UInt8}(h:Src S a m 1 (u8s l))(hw:S w):RB w a m l:=by
 refine ⟨by have:=h.1;rw [Jfc] at this;omega,h.2.1,fun b hb j hj=>?_⟩;have hl:l.length=m:=by have:=h.1;rw [Jfc] at this;omega
 exact h.2.2 w hw b hb j _ (u8s_getD l (by omega))
theorem RB.srcS {S:World→Prop}{w:World}{a:Option Addr}{m:Nat}{l:List UInt8}(h:RB w a m l)(hS:∀ w',S w'→∀ b,a=some b→0<m→w'.heap[b.block]?=w.heap[b.block]?):Src S a m 1 (u8s l):=by
 refine ⟨by rw [Jfc,h.1,Nat.mul_one],h.2.1,fun w' hw' b hb j u hj=>?_⟩;have hj':j<m:=by have:=(List.getElem?_eq_some_iff.1 hj).1;rw [Jfc,h.1] at this;exact this
 rw [u8s_getD l (by rw [h.1];exact hj')] at hj;simp only [Option.some.injEq] at hj;subst hj;rw [World.cell?_of_block (w:=w) (by rw [Jdr];exact hS w' hw' b hb (by omega))];subst hb;exact h.cell hj'
theorem RB.src {w:World}{M:Nat→Prop}{ow:List Item}{a:Option Addr}{m:Nat}{l:List UInt8}(h:RB w a m l):Src (Sat w M (fun b=>b<w.heap.size) w ow) a m 1 (u8s l):=
 h.srcS (fun w' hw' b hb hm=>(hw'.snap b.block (by subst hb;exact h.block hm)).2)
theorem RB.drop {w:World}{a:Option Addr}{m:Nat}{l:List UInt8}(h:RB w a m l){k:Nat}(hk:k≤m)(c:Nat)(hc:m≤c):
  RB w (if c - 0=k then a else a.map (·.add (k*1))) (m - k) (l.drop k):=by
 refine ⟨by simp [h.1],fun hn=>?_,fun b hb j hj=>?_⟩
 ·split at hn
  ·have:=h.2.1 hn;omega
  ·have:=h.2.1 (by simpa using hn);omega
 ·by_cases hck:c - 0=k
  ·omega
  ·rw [if_neg hck] at hb;obtain ⟨a',rfl,rfl⟩:=Option.map_eq_some_iff.1 hb
   have e:(a'.add (k*1)).add j=a'.add (k+j):=by
    unfold Addr.add
    by_cases h1:k=0 <;> by_cases h2:j=0 <;> simp [h1,h2,yC]
   rw [e,h.cell (by omega)];congr 2;simp [List.getD]
theorem RB.sat {w w':World}{ow:List Item}{a:Option Addr}{m:Nat}{l:List UInt8}(h:RB w a m l)(hw:Sat w (fun _=>False) (fun b=>b<w.heap.size) w ow w'):RB w' a m l:=Src.rb h.src hw
theorem RB.of_row {w0 ws w:World}{M I:Nat→Prop}{ow:List Item}{l:List UInt8}{T:TypeId}{a:Option Addr}{m c:Nat}(hw:Sat w0 M I ws ow w)(hm:row T 1 a m c (u8s l)∈ow):RB w a m l∧m≤c:=by
 refine ⟨Src.rb (row_src hm hw) hw,?_⟩;rcases (Jdl hw hm).2 with h | ⟨_,_,h⟩
 ·omega
 ·exact h
theorem WC.jl {P:Program}{Q:Post}{n:Nat}{ds:DS}{e:Env}{S:World→Prop}{c:Code}{pr:Prop}(h:∀ w,S w→pr)(k:pr→WC P Q n ds e S c):WC P Q n ds e S c:=fun a w ha hw=>k (h w hw) a w ha hw
theorem WL.fj {P:Program}{ops:Array Oper}{Q:Post}{n:Nat}{ds:DS}{e:Env}{S:World→Prop}{l:List Oper}{pr:Prop}(h:∀ w,S w→pr)(k:pr→WL P ops Q n ds e S l):WL P ops Q n ds e S l:=fun a w ha hw=>k (h w hw) a w ha hw
theorem RB.take {w:World}{a:Option Addr}{m:Nat}{l:List UInt8}(h:RB w a m l){k:Nat}(hk:k≤m):RB w a k (l.take k):=by
 refine ⟨by rw [xJ,h.1];omega,fun ha=>by have:=h.2.1 ha;omega,fun b hb j hj=>?_⟩;rw [h.2.2 b hb j (by omega)];congr 2;simp only [yD,List.getElem?_take_of_lt hj]
theorem WX.jk {Q:Post}{n:Nat}{ds:DS}{e:Env}{S:World→Prop}{x:Exit}{pr:Prop}(h:∀ w,S w→pr)(k:pr→WX Q n ds e S x):WX Q n ds e S x:=fun a w ha hw=>k (h w hw) a w ha hw
theorem Sat.part {w0 ws w:World}{M I:Nat→Prop}{ow ow':List Item}(hs:ow'.Sublist ow)(h:Sat w0 M I ws ow w):Sat w0 M I ws ow' w:=
 ⟨h.fr,h.snap,fun i hi=>h.it i (hs.subset hi),fun i hi=>h.lt i (hs.subset hi),h.disj.sublist hs⟩
theorem Sat.first {w0 ws w:World}{M I:Nat→Prop}{ow:List Item}{i:Item}(h:Sat w0 M I ws (i::ow) w):Sat w0 M I ws [i] w:=h.part (List.Sublist.cons_cons _ (List.nil_sublist _))
theorem WL.makeSlice {P:Program}{w0 ws:World}{M I:Nat→Prop}{ow:List Item}{ops:Array Oper}{Q:Post}{n:Nat}{ds:DS}{e:Env}{rest:List Oper}{t lt T:TypeId}{p:String}{af:Array Edge}{k m:Nat}{x y:Operand}{zc:Value}{bytes:Nat} 
  (hx:ev e x=some (.int .i64 (m:Int))) (hy:ev e y=some (.int .i64 (m:Int))) (hu:P.underlying lt=some (.slice T)) (hz:P.sz T=some 1) (hzr:P.zr T=some #[zc]) (hb:(P.info? T).map (·.bytes)=some bytes) (hm:bytes*m≤281474976710656∧m≤9223372036854775807) (hk:Nat.blt k n=true)
  (h:∀ b,WL P ops Q n ds ((k,.slice (some ⟨b,0,none⟩) m m)::e) (Sat w0 M I ws (oQ b (List.replicate m zc) T::ow)) rest) :
  WL P ops Q n ds e (Sat w0 M I ws ow) (⟨some k,.makeSlice lt x y,t,p,af,none⟩::rest):=by
 refine WL.fi (ι:=Nat) (vv:=fun b=>.slice (some ⟨b,0,none⟩) m m) (SS:=fun b=>Sat w0 M I ws (oQ b (List.replicate m zc) T::ow)) ?_ hk h;intro a w ha hw;unfold Program.sz at hz;unfold Program.zr at hzr;obtain ⟨i,hi,hsz⟩:=Option.map_eq_some_iff.1 hz;obtain ⟨i2,hi2,h2⟩:=Option.bind_eq_some_iff.1 hzr;obtain ⟨zv,hzv,hzc⟩:=Option.map_eq_some_iff.1 h2;obtain ⟨i3,hi3,hby⟩:=Option.map_eq_some_iff.1 hb;obtain rfl:=xH (hi.symm.trans hi2);obtain rfl:=xH (hi.symm.trans hi3)
 have hr:=run_make (P:=P) w lt T i zv hu hi hzv .i64 .i64 (m:Int) (m:Int) (by omega) (Int.le_refl _) (by
  have h':((bytes*m:Nat):Int)≤((281474976710656:Nat):Int):=Int.ofNat_le.2 hm.1;rw [Int.natCast_mul] at h';rw [hby];exact h') (by omega)
 have hmc:madeCells zv.cells ((m:Int).toNat*i.size)=(List.replicate m zc).toArray:=by
  rw [hzc,hsz,xN,Nat.mul_one];apply Array.ext
  ·simp [madeCells]
  ·intro i h1 h2;simp [madeCells,Nat.mod_one]
 rw [hmc] at hr;refine ⟨w.heap.size,w.alloc (.cells (List.replicate m zc).toArray T),?_,hw.fresh (Fr.alloc _ _) (Jde _ _) (fun b hb=>by simp only [own] at hb;subst hb;simp)⟩;simp [execOp,ha.eval hx,ha.eval hy,hr]
theorem WL.ey {P:Program}{w0 ws:World}{M I:Nat→Prop}{ow:List Item}{ops:Array Oper}{Q:Post}{n:Nat}{ds:DS}{e:Env}{rest:List Oper}{t lt T:TypeId}{p:String}{af:Array Edge}{k m:Nat}{xs:List Operand}{vs:List Value}{parts:Array (Nat × Operand)}{zc:Value} 
  (hp:parts=(xs.zipIdx.map fun (x,i)=>(i,x)).toArray) (hu:P.underlying lt=some (.slice T)) (hz:P.sz T=some 1) (hzr:P.zr T=some #[zc]) (hv:evs e xs=some vs) (hl:vs.length=m) (h1:vs.all (·.oneCell')=true) (hm:m≤16777216) (hk:Nat.blt k n=true)
  (h:∀ b,WL P ops Q n ds ((k,.slice (some ⟨b,0,none⟩) m m)::e) (Sat w0 M I ws (oQ b vs T::ow)) rest) :
  WL P ops Q n ds e (Sat w0 M I ws ow) (⟨some k,.buildSlice lt m parts,t,p,af,none⟩::rest):=by
 refine WL.fi (ι:=Nat) (vv:=fun b=>.slice (some ⟨b,0,none⟩) m m) (SS:=fun b=>Sat w0 M I ws (oQ b vs T::ow)) ?_ hk h;intro a w ha hw;obtain ⟨zv,hzv,hc⟩:=Jfl hzr w
 have hzrow:(Array.range m).map (fun i=>(#[zc]:Array Value)[i % (#[zc]:Array Value).size]!)=(List.replicate m zc).toArray:=by
  apply Array.ext
  ·simp
  ·intro i h1 h2;simp [Nat.mod_one]
 have key:∀ (us:List Value) (i:Nat) (done cur:List Value),us.all (·.oneCell')=true→done.length=i→cur.length=us.length →
   Instr.fill (fun i=>some (i*1,1)) (done++cur).toArray ((us.zipIdx i).map fun (v,i)=>(i,v))=some (done++us).toArray:=by
  intro us
  induction us with
  | nil=>intro i done cur _ _ hcu;have:cur=[]:=List.eq_nil_of_length_eq_zero hcu;subst this;simp [Instr.fill]
  | cons u us ih=>
   intro i done cur h1 hd hcu
   match cur,hcu with
   | c0::cur,hcu=>
    simp only [List.all_cons,xY] at h1;have ih':=ih (i+1) (done++[u]) cur h1.2 (by simp [hd]) (by simpa using hcu);simp only [List.zipIdx_cons,yA];refine Jax (us:=[u]) (Jgv h1.1) rfl (by simp;omega) ?_;rw [Nat.mul_one,← hd];rw [← hd] at ih'
    simpa using ih'
 have hxs:=Jeh ha hv;have hk2:=key vs 0 [] (List.replicate m zc) h1 rfl (by simp [hl]);simp only [xW] at hk2
 have hmap:List.map ((fun x=>(x.fst,a.eval x.snd)) ∘ fun x=>(x.snd,x.fst)) xs.zipIdx=vs.zipIdx.map fun (v,i)=>(i,v):=by
  rw [← hxs,List.zipIdx_map,List.map_map];rfl
 subst hp;refine ⟨w.heap.size,w.alloc (.cells vs.toArray T),?_,hw.fresh (Fr.alloc _ _) (Jde _ _) (fun b hb=>by simp only [own] at hb;subst hb;simp)⟩;have hm0:¬ 16777216<m*1:=by omega
 have hrow:∀ z:Array Value,(if m=0 then (#[]:Array Value) else z)=z∨m=0:=by
  intro z;by_cases hm0:m=0
  ·exact .inr hm0
  ·exact .inl (if_neg hm0)
 by_cases hm00:m=0
 ·subst hm00;have hvs:vs=[]:=List.eq_nil_of_length_eq_zero hl;subst hvs
  have hxs0:xs=[]:=by cases xs with
   | nil=>rfl
   | cons q r=>simp at hxs
  subst hxs0;have hr0:(Array.range 0).map (fun _:Nat=>(default:Value))=#[]:=by simp
  simp [execOp,Instr.buildSlice,run_underlying hu,run_sizeOf hz,Instr.fill,newRow,newObj,Sem.run,hr0]
 ·simp [execOp,Instr.buildSlice,run_underlying hu,run_sizeOf hz,hm0,hm00,hzv,hc,newRow,newObj]
  have hr2:Array.map (fun x=>([zc]:List Value)[x % 1]?.getD default) (Array.range m)=(List.replicate m zc).toArray:=by
   apply Array.ext
   ·simp
   ·intro i h1 h2;simp [Nat.mod_one]
  have hk3:Instr.fill (fun i=>some (i,1)) (List.replicate m zc).toArray (vs.zipIdx.map fun (v,i)=>(i,v))=some vs.toArray:=by
   have e1:(fun i:Nat=>some (i*1,1))=fun i=>some (i,1):=by funext i;rw [Nat.mul_one]
   rw [← e1];exact hk2
  rw [if_neg (by omega),hmap,hr2,hk3];simp [Sem.run]
theorem WL.skipU {P:Program}{ops:Array Oper}{Q:Post}{n:Nat}{ds:DS}{e:Env}{S:World→Prop}{rest:List Oper}{d:Nat}{op:Op}{t:TypeId}{p:String}{af:Array Edge}{j:Nat}{want:Bool}{dj:Nat} 
  (hj:(ops[j]?).bind (·.dst)=some dj) (hb:look e dj=some undef) (hd:Nat.blt d n=true)
  (h:WL P ops Q n ds ((d,undef)::e) S rest):WL P ops Q n ds e S (⟨some d,op,t,p,af,some (j,want)⟩::rest):=by
 intro a w ha hw;unfold wpListIn
 have hy:yielded ops a.tmps j=none:=by
  simp [yielded,hj,ha.ok _ _ hb,undef]
 have:Region.wanted ⟨some d,op,t,p,af,some (j,want)⟩ (yielded ops a.tmps)=false:=by
  simp [Region.wanted,hy]
 rw [if_neg (by simp [this])];exact ⟨fun f _=>Jfa _ f,h _ _ (ha.put hd undef) hw⟩
theorem WH.skipU {P:Program}{Q:Post}{n:Nat}{ds:DS}{e:Env}{S C:World→Prop}{k:Nat}{t:TypeId}{p:String}{af:Array Edge}{l:List Oper}{op:Op}{bars:List Nat}{fuel:Nat}{fl:Bool}{listed:List Bool}(i:Nat){jj:Nat}{want:Bool}{dj:Nat}(hi:l[i]?=some ⟨some k,op,t,p,af,some (jj,want)⟩) 
  (hs:Region.noSelect l.toArray=true) (hf:Region.free .any l.toArray listed.toArray i=true) (hr:(Region.ready .any l.toArray listed.toArray).contains i=true) (hb:bars.contains i=false)
  (hC:fl=false→∀ w,S w→C w) (hj:(l.toArray[jj]?).bind (·.dst)=some dj) (hb0:look e dj=some undef) (hk:Nat.blt k n=true) {listed':List Bool} (hl':listed.set i true=listed')
  (h:WH P l.toArray (Jdb Q) n ds ((k,undef)::e) S C bars fuel fl listed'):WH P l.toArray (Jdb Q) n ds e S C bars (fuel+1) fl listed:=by
 intro hnd a w ha hw;have hi':=hi;rw [← List.getElem?_toArray] at hi';have hy:yielded l.toArray a.tmps jj=none:=by simp only [yielded,hj,Option.bind_some,ha.ok _ _ hb0,undef]
 refine Jea (Jdm hnd) (Jfa _) hi' (Region.noSelect_spec hs) (fun _ _ _ h=>h) hb fuel fl _ a w (Region.free_spec hi' hf) (by simpa using hr) (Or.inr ⟨by simp [Region.wanted,hy],rfl⟩) (fun hfl=>hC hfl w hw) ?_;have:=h hnd _ w (ha.put hk undef) hw;rw [List.setIfInBounds_toArray,hl'];exact this
section
variable {P:Program} {n:Nat} {ds:DS} {e:Env} {S:World→Prop} {dst:Option Tmp} {t:TypeId} {p:String} {af:Array Edge} {g:Option (Nat × Bool)} {x y:Operand} {xt yt:TypeId}
end
def SH (w:World)(v:Value)(l:List UInt8):Prop:=∃ a m c,v=.slice a m c∧RB w a m l∧m≤c
def RL (w:World)(a:Option Addr)(n:Nat)(ls:List (List UInt8)):Prop:=
 ls.length=n∧(a=none→n=0)∧∀ q,a=some q→∀ i,i<n→∃ v,w.cell? (q.add i)=some v∧SH w v (ls.getD i [])
theorem RL.some {w:World}{a:Option Addr}{n:Nat}{ls:List (List UInt8)}(h:RL w a n ls)(hn:0<n):∃ q,a=Option.some q:=by
 cases a with
 | none=>have:=h.2.1 rfl;omega
 | some q=>exact ⟨q,rfl⟩
theorem RB.some {w:World}{a:Option Addr}{n:Nat}{l:List UInt8}(h:RB w a n l)(hn:0<n):∃ q,a=Option.some q:=by
 cases a with
 | none=>have:=h.2.1 rfl;omega
 | some q=>exact ⟨q,rfl⟩
theorem RL.get {w:World}{q:Addr}{n:Nat}{ls:List (List UInt8)}(h:RL w (Option.some q) n ls){i:Nat}(hi:i<n):
  ∃ a m c,w.cell? (q.add i)=Option.some (.slice a m c)∧RB w a m (ls.getD i [])∧m≤c:=by
 obtain ⟨v,hv,a,m,c,rfl,h1,h2⟩:=h.2.2 q rfl i hi;exact ⟨a,m,c,hv,h1,h2⟩
theorem SH.sat {w w':World}{ow:List Item}{v:Value}{l:List UInt8}(h:SH w v l)(hw:Sat w (fun _=>False) (fun b=>b<w.heap.size) w ow w'):SH w' v l:=by
 obtain ⟨a,m,c,h1,h2,h3⟩:=h;exact ⟨a,m,c,h1,h2.sat hw,h3⟩
theorem RL.sat {w w':World}{ow:List Item}{a:Option Addr}{n:Nat}{ls:List (List UInt8)}(h:RL w a n ls)(hw:Sat w (fun _=>False) (fun b=>b<w.heap.size) w ow w'):RL w' a n ls:=by
 refine ⟨h.1,h.2.1,fun q hq i hi=>?_⟩;obtain ⟨v,h1,h2⟩:=h.2.2 q hq i hi;exact ⟨v,snapL hw h1,h2.sat hw⟩
section
open Go.Lib
end
section
variable {P:Program} {n:Nat} {ds:DS} {e:Env} {S:World→Prop} {dst:Option Tmp} {t:TypeId} {p:String} {af:Array Edge} {g:Option (Nat × Bool)} {x y:Operand} {xt yt el:TypeId}
end
def RLB (B:Nat)(w:World)(a:Option Addr)(n:Nat)(ls:List (List UInt8)):Prop:=
 RL w a n ls∧(∀ q,a=Option.some q→0<n→q.block<B)∧∀ q,a=Option.some q→∀ i,i<n→∀ a' m c,w.cell? (q.add i)=Option.some (.slice (Option.some a') m c)→0<m→a'.block<B
theorem RLB.sat {B:Nat}{w w':World}{ow:List Item}{a:Option Addr}{n:Nat}{ls:List (List UInt8)}(h:RLB B w a n ls)(hw:Sat w (fun _=>False) (fun b=>b<w.heap.size) w ow w'):RLB B w' a n ls:=by
 refine ⟨h.1.sat hw,h.2.1,fun q hq i hi a' m c hc hm=>?_⟩;subst hq;obtain ⟨a2,m2,c2,hc2,_,_⟩:=h.1.get hi;have:=snapL hw hc2;rw [hc] at this;rw [← this] at hc2;exact h.2.2 q rfl i hi a' m c hc2 hm
theorem RLB.get {B:Nat}{w:World}{q:Addr}{n:Nat}{ls:List (List UInt8)}(h:RLB B w (Option.some q) n ls){i:Nat}(hi:i<n):
  ∃ a m c,w.cell? (q.add i)=Option.some (.slice a m c)∧RB w a m (ls.getD i [])∧m≤c∧(q.add i).block<B∧∀ a',a=Option.some a'→0<m→a'.block<B:=by
 obtain ⟨a,m,c,h1,h2,h3⟩:=h.1.get hi;refine ⟨a,m,c,h1,h2,h3,by rw [Jdr];exact h.2.1 q rfl (by omega),fun a' ha hm=>?_⟩;subst ha;exact h.2.2 q rfl i hi a' m c h1 hm
end Go.Hw
