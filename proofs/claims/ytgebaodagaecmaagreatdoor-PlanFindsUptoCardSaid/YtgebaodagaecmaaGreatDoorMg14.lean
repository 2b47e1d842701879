/- The library's sort on a row of the call's own whose elements are structs; the comparison may lay blocks of its own. Contracts of functions of the program: what each returns and leaves in memory. Printed by gen.py and walk.py. -/
import Derived.Test.YtgebaodagaecmaaGreatDoorMg12
import Derived.Test.YtgebaodagaecmaaGreatDoorMg13
import Derived.Lib.Bytealg
import Derived.Test.YtgebaodagaecmaaGreatDoorHxA
namespace Go.Hw
set_option linter.unusedVariables false
set_option linter.unusedSimpArgs false
open Go Go.RowKit Go.Proofs Go.Shelf
variable {P:Program} {ρ:Ren} {w:World} {T:TypeId} {b c:Nat}
theorem Jdf {α:Type}{enc:α→List Value}{k:Nat}(hk:∀ x,(enc x).length=k):∀ xs:List α,(xs.flatMap enc).length=xs.length*k
 | []=>by simp
 | x::xs=>by rw [List.flatMap_cons,xL,hk,Jdf hk xs,List.length_cons,Nat.add_mul,Nat.one_mul,Nat.add_comm]
theorem Jcu {α:Type}{enc:α→List Value}{k:Nat}(hk:∀ x,(enc x).length=k):∀ (xs:List α) (i j:Nat) (x:α),xs[i]?=some x→j<k→(xs.flatMap enc)[i*k+j]?=(enc x)[j]?
 | [],i,j,x,h,_=>by simp at h
 | y::xs,0,j,x,h,hj=>by
  simp only [List.getElem?_cons_zero,Option.some.injEq] at h;subst h;rw [List.flatMap_cons,Nat.zero_mul,xM,List.getElem?_append_left (by rw [hk];exact hj)]
 | y::xs,i+1,j,x,h,hj=>by
  rw [List.flatMap_cons,List.getElem?_append_right (by rw [hk,Nat.add_mul];omega),hk];have:(i+1)*k+j - k=i*k+j:=by rw [Nat.add_mul];omega
  rw [this];exact Jcu hk xs i j x (by simpa using h) hj
theorem Jjj {α:Type}[Inhabited α]{enc:α→List Value}{k:Nat}(hk:∀ x,(enc x).length=k)(d:Array α):(Go.Sort.flatK enc k d).toList=d.toList.flatMap enc:=by
 apply List.ext_getElem?;intro t
 by_cases ht:t<d.size*k
 ·have hk0:0<k:=Nat.pos_of_ne_zero (fun h=>by rw [h] at ht;simp at ht);have h1:t / k<d.size:=Nat.div_lt_of_lt_mul (by rwa [Nat.mul_comm] at ht);have h2:t % k<k:=Nat.mod_lt _ hk0;have h3:=Jcu hk d.toList (t / k) (t % k) d[t / k] (by simp [h1]) h2;have h4:t / k*k+t % k=t:=by rw [Nat.mul_comm];exact Nat.div_add_mod t k
  rw [h4] at h3;rw [h3,Array.getElem?_toList];have h5:=Go.Sort.get_flatK enc k d t ht;rw [getElem!_pos _ t (by simpa using ht),getElem!_pos d (t / k) h1,getElem!_pos _ (t % k) (by rw [hk];exact h2)] at h5;rw [Array.getElem?_eq_getElem (by simpa using ht),h5,xD]
 ·rw [xV (by simp;omega),xV (by rw [Jdf hk];simpa using ht)]
theorem row_blockK {k m:Nat}{xs:List Value}(h:(row T k (some ⟨b,0,none⟩) m c xs).φ w):
  ∃ cur,w.heap[b]?=some (.cells cur T (0,0))∧cur.size=c*k∧m≤c∧c≤maxLen∧cur.toList.take (m*k)=xs∧xs.length=m*k:=by
 have h1:w.ownsRow 0 T k (.slice (some ⟨b,0,none⟩) m c) m xs:=h;rcases h1.2 with ⟨hv,_⟩ | ⟨g,cc,cur,hv,_,hg,hmc,hcm,hcs,htake⟩
 ·cases hv
 ·simp only [Value.slice.injEq,Option.some.injEq,Addr.mk.injEq,and_true] at hv;obtain ⟨rfl,_,rfl⟩:=hv;exact ⟨cur,hg,hcs,hmc,hcm,htake,h1.1⟩
theorem Jko {k m:Nat}{xs:List Value}(h:(row T k (some ⟨b,0,none⟩) m c xs).φ w):Go.Sort.Holds id w b 0 xs.toArray:=by
 obtain ⟨cur,hb,hs,hle,_,ht,hl⟩:=row_blockK h;intro j hj;have hj':j<xs.length:=by simpa using hj
 have hc:cur[j]?=some (xs.toArray[j]!):=by
  have h2:=congrArg (fun l:List Value=>l[j]?) ht;simp only [List.getElem?_take_of_lt (show j<m*k by omega),xD hj'] at h2;rw [← Array.getElem?_toList,h2];simp [hj']
 exact ⟨by simp [World.cell?,hb,hc],by simp [World.frozen?,hb]⟩
theorem sort_turnsK {k m:Nat}{xs:List Value}{F:Array Value}{n:Nat}{os:Array Obj}(hA:Holds [row T k (some ⟨b,0,none⟩) m c xs] w)(hd:F.size=m*k):
  Turns [row T k (some ⟨b,0,none⟩) m c xs] [row T k (some ⟨b,0,none⟩) m c F.toList] w (sortWorld id w b 0 n F os):=by
 have h:=hA.φ _ yH;obtain ⟨cur,hb,hs,hle,hcm,ht,hl⟩:=row_blockK h;have hlt:b<w.heap.size:=(Array.getElem?_eq_some_iff.1 hb).1
 have hsize:w.heap.size≤(sortWorld id w b 0 n F os).heap.size:=by
  show w.heap.size≤((Go.Sort.putRow id (Go.Sort.ahead w n) b 0 F).heap++os).size;rw [Array.size_append,Go.Sort.size_putRow];exact Nat.le_add_right _ _
 have hkeep:∀ i,i<w.heap.size→(sortWorld id w b 0 n F os).heap[i]?=(Go.Sort.putRow id w b 0 F).heap[i]?:=by
  intro i hi;show ((Go.Sort.putRow id (Go.Sort.ahead w n) b 0 F).heap++os)[i]?=_;rw [Array.getElem?_append_left (by rw [Go.Sort.size_putRow];exact hi)];rfl
 have hnew:(sortWorld id w b 0 n F os).heap[b]?=some (.cells (Go.Sort.putCells id 0 F cur) T (0,0)):=by
  rw [hkeep b hlt];show (w.heap.modify b _)[b]?=_;rw [Array.getElem?_modify,if_pos rfl,hb];rfl
 have hmk:m*k≤c*k:=Nat.mul_le_mul_right _ hle;refine ⟨⟨rfl,rfl,rfl,hsize,fun i hi hn=>?_,Nat.le_add_right _ _⟩,fun i hi=>?_,fun i hi q hq=>?_,List.pairwise_singleton _ _⟩
 ·rw [hkeep i hi];show (w.heap.modify b _)[i]?=_;rw [Array.getElem?_modify,if_neg (fun e=>hn ⟨_,.head _,⟨_,rfl,e⟩⟩)]
 ·simp only [xI] at hi;subst hi;refine ⟨by simp [hd],.inr ⟨b,c,Go.Sort.putCells id 0 F cur,rfl,Nat.zero_le _,hnew,hle,hcm,by simp [Go.Sort.putCells,hs],?_⟩⟩;apply List.ext_getElem?;intro j
  by_cases hj:j<F.size
  ·have hjc:j<cur.size:=by omega
   rw [List.getElem?_take_of_lt (by omega),Array.getElem?_toList];simp [Go.Sort.putCells,hjc,hj]
  ·rw [xV (by simp;omega),xV (by simp;omega)]
 ·simp only [xI] at hi;subst hi;obtain ⟨a,ha,rfl⟩:=hq;simp only [Option.some.injEq] at ha;subst ha;exact ⟨Nat.lt_of_lt_of_le hlt hsize,.inl ⟨_,.head _,⟨_,rfl,rfl⟩⟩⟩
theorem sort_frK {F:Array Value}{n:Nat}{os:Array Obj}:Fr (fun i=>i=b) w (sortWorld id w b 0 n F os):=Joi
theorem Fr.grown {w w':World}(h:Fr0 w w'):∃ q os',w'=Go.Sort.grow (w.drewN q) os':=by
 refine ⟨w'.drawn - w.drawn,w'.heap.extract w.heap.size w'.heap.size,?_⟩
 have hh:w'.heap=w.heap++w'.heap.extract w.heap.size w'.heap.size:=by
  apply Array.ext_getElem?;intro i
  by_cases hi:i<w.heap.size
  ·rw [Array.getElem?_append_left hi];exact h.keep i hi (fun f=>f)
  ·rw [Array.getElem?_append_right (by omega),Array.getElem?_extract]
   by_cases hi2:i<w'.heap.size
   ·rw [if_pos (by omega),show w.heap.size+(i - w.heap.size)=i by omega]
   ·rw [if_neg (by omega),Array.getElem?_eq_none (by omega)]
 have h1:=h.os;have h2:=h.tape;have h3:=h.output;have h4:=h.draws;cases w;cases w';simp only [Go.Sort.grow,World.drewN] at *;subst h1;subst h2;subst h3;congr 1;omega
theorem Jfj (L:SlLaysF0.n6 P ρ){α:Type}(k:Nat)(hk0:0<k)(hag:(P.underlying (ρ.t 24)).map aggD=some true)(hz:P.sz (ρ.t 24)=some k)(enc:α→List Value)(hk:∀ x,(enc x).length=k)(h1:∀ x,∀ v∈enc x,v.oneCell'=true)(cf:α→α→Int)(hO:Go.Sort.SWO (ltOf cf))(g:Nat)(hg:bodied P g=true)(a:Option Addr)(xs:List α)(w:World) 
  (hA:Holds [row T k a xs.length c (xs.flatMap enc)] w) (hcmp:∀ q,a=some q→∀ w',Fr (fun i=>i=q.block) w w'→∀ x y,Calls P g #[.agg (enc x).toArray,.agg (enc y).toArray] w' fun e w''=>e=.returned (.int .i64 (cf x y))∧Fr0 w' w'') (hsz:xs.length<4611686018427387904) :
  Calls P (ρ.f 6) #[.slice a xs.length c,.func (.func g) #[] #[]] w fun e w'=>e=.returned (.tuple #[])∧∃ ys:List α,ys.Perm xs∧ys.Pairwise (fun x y=>ltOf cf y x=false) ∧
   Turns [row T k a xs.length c (xs.flatMap enc)] [row T k a ys.length c (ys.flatMap enc)] w w':=by
 cases xs with
 | nil=>
  refine (AnyF.slices_SortFunc_none (P:=P) (ρ:=ρ) L a c (.func (.func g) #[] #[]) w).mono ?_;rintro e w' ⟨rfl,rfl⟩;exact ⟨rfl,[],List.Perm.refl _,List.Pairwise.nil,Turns.refl hA⟩
 | cons x0 xs=>
  haveI:Inhabited α:=⟨x0⟩
  have hφ:=hA.φ _ yH
  have hbase:∃ b,a=some ⟨b,0,none⟩:=by
   have h2:w.ownsRow 0 T k (.slice a (x0::xs).length c) (x0::xs).length ((x0::xs).flatMap enc):=hφ;rcases h2.2 with ⟨hv,h0⟩ | ⟨g,cc,cur,hv,_⟩
   ·simp at h0
   ·simp only [Value.slice.injEq] at hv;exact ⟨g,hv.1⟩
  obtain ⟨b,rfl⟩:=hbase;have hlt:b<w.heap.size:=hA.lt _ yH b ⟨_,rfl,rfl⟩;obtain ⟨d,hu,hd⟩:=Option.map_eq_some_iff.1 hag
  have hflat:Go.Sort.flatK enc k (x0::xs).toArray=((x0::xs).flatMap enc).toArray:=by
   apply Array.toList_inj.1;rw [Jjj hk]
  have hcon:=AnyQ.slices_SortFunc L k (fun w=>by rw [Jc1 hu,hd]) (fun w=>Hw.run_sizeOf hz w) enc hk h1 cf hO g #[] b 0 c (x0::xs).toArray w (fun args w=>Jd6 hg args w)
   (fun m os dk hs x y=>(hcmp _ rfl _ (sort_frK (F:=Go.Sort.flatK enc k dk) (n:=m) (os:=os)) x y).mono fun e w' ⟨he,hw⟩=>⟨he,Fr.grown hw⟩)
   (show Go.Sort.Holds id w b 0 (Go.Sort.flatK enc k (x0::xs).toArray) by rw [hflat];exact Jko hφ) hlt (by simpa using hsz)
  have e0:(x0::xs).toArray.size=(x0::xs).length:=by simp
  rw [e0] at hcon;refine hcon.mono ?_;rintro e w' ⟨rfl,d',n,os,hp,hs,rfl⟩;obtain ⟨hp1,hp2⟩:=Jig (d:=(x0::xs).toArray) (by rw [e0];exact hp);have hl:d'.toList.length=(x0::xs).length:=by rw [Array.length_toList,hp2,e0]
  refine ⟨rfl,d'.toList,by simpa using hp1,Jd1 (by rw [hp2,e0]) hs,?_⟩;have ht:=sort_turnsK (T:=T) (c:=c) (F:=Go.Sort.flatK enc k d') (n:=n) (os:=os) hA (by rw [Go.Sort.size_flatK,hp2,e0]);rw [Jjj hk] at ht;rw [hl];exact ht
end Go.Hw
set_option maxRecDepth 10000
namespace Go.Proofs.YtgebaodagaecmaaGreatDoor
open Go Go.Hw
set_option linter.unusedSimpArgs false
set_option linter.unusedVariables false
theorem _root_.Go.Hw.Holds.fr0 {A:List Hw.Item}{w w':World}(h:Holds A w)(k:Fr0 w w'):Holds A w':=
 ⟨fun i hi=>i.loc w w' (fun b hb=>k.keep b (h.lt i hi b hb) (fun f=>f)) (h.φ i hi),fun i hi b hb=>Nat.lt_of_lt_of_le (h.lt i hi b hb) k.size,h.disj⟩
structure Tm where
 kind:Int
 n:Int
 s:ByteArray
 deriving DecidableEq
instance:Inhabited Tm:=⟨⟨0,0,⟨#[]⟩⟩⟩
structure At where
 b:Tm
 name:ByteArray
 args:List Tm
 deriving DecidableEq
instance:Inhabited At:=⟨⟨default,⟨#[]⟩,[]⟩⟩
structure Pd where
 name:ByteArray
 ar:Nat
 deriving DecidableEq
def tmC (t:Tm):List Value:=[.int .i64 t.kind,.int .i64 t.n,.string t.s]
abbrev tmV (t:Tm):Value:=.agg (tmC t).toArray
def atC (x:At)(a:Option Addr)(c:Nat):List Value:=[.int .i64 x.b.kind,.int .i64 x.b.n,.string x.b.s,.string x.name,.slice a x.args.length c]
abbrev atV (x:At)(a:Option Addr)(c:Nat):Value:=.agg (atC x a c).toArray
def pdC (p:Pd):List Value:=[.string p.name,.int .i64 (p.ar:Int)]
abbrev pdV (p:Pd):Value:=.agg (pdC p).toArray
theorem Jc0 (t:Tm):(tmC t).length=3:=rfl
theorem Jgi (t:Tm):∀ v∈tmC t,v.oneCell'=true:=by simp [tmC,Value.oneCell']
theorem Jj0 (ts:List Tm):∀ u∈ts.flatMap tmC,u.oneCell'=true:=by
 intro u hu;obtain ⟨t,_,h⟩:=List.mem_flatMap.1 hu;exact Jgi t u h
structure RT (w:World) (a:Option Addr) (ts:List Tm):Prop where
 nil:a=none→ts.length=0
 at_:∀ q,a=some q→∀ i t,ts[i]?=some t→∀ j v,(tmC t)[j]?=some v→w.cell? ((q.add (i*3)).add j)=some v
theorem RT.keeps {w w':World}{a:Option Addr}{ts:List Tm}(h:RT w a ts)(k:Keeps w w'):RT w' a ts:=⟨h.nil,fun q hq i t ht j v hv=>k _ _ (h.at_ q hq i t ht j v hv)⟩
theorem RT.nil0 (w:World):RT w none []:=⟨fun _=>rfl,fun q hq=>by cases hq⟩
theorem RT.get {w:World}{a:Option Addr}{ts:List Tm}(h:RT w a ts){i:Nat}(hi:i<ts.length):∃ q t,a=some q∧ts[i]?=some t∧t∈ts∧ts.getD i default=t∧∀ j v,(tmC t)[j]?=some v→w.cell? ((q.add (i*3)).add j)=some v:=by
 cases a with
 | none=>have:=h.nil rfl;omega
 | some q=>exact ⟨q,ts[i],rfl,xD hi,List.getElem_mem hi,by simp [hi],h.at_ q rfl i _ (xD hi)⟩
theorem Jdy (q:Addr)(i j:Nat):q.add (i+j)=(q.add i).add j:=by
 unfold Addr.add
 by_cases hi:i=0
 ·simp [hi]
 ·by_cases hj:j=0
  ·simp [hj]
  ·simp [hi,hj,yE]
theorem RT.of_row {w0 ws w:World}{M I:Nat→Prop}{ow:List Hw.Item}{a:Option Addr}{m c:Nat}{ts:List Tm}(hl:ts.length=m)(hw:Sat w0 M I ws ow w)(hm:row 26 3 a m c (ts.flatMap tmC)∈ow):RT w a ts:=by
 subst hl;refine ⟨fun ha=>?_,fun q hq i t ht j v hv=>?_⟩
 ·rcases (Jd4 hw hm).2 with ⟨_,h,_⟩ | ⟨b,hb,_⟩
  ·exact h
  ·rw [ha] at hb;cases hb
 ·subst hq;have hj:j<3:=(List.getElem?_eq_some_iff.1 hv).1;have h1:=Jdr hw hm (i*3+j) v (by rw [Jcu Jc0 ts i j t ht hj];exact hv);rwa [Jdy] at h1
theorem Src.of_rt {a:Option Addr}{ts:List Tm}{S:World→Prop}(h2:a=none→ts.length=0)(h:∀ w,S w→RT w a ts):Src S a ts.length 3 (ts.flatMap tmC):=by
 refine ⟨Jdf Jc0 ts,h2,fun w hw b hb j u hj=>?_⟩;have hj3:j<ts.length*3:=by rw [← Jdf Jc0 ts];exact (List.getElem?_eq_some_iff.1 hj).1
 have hi:j / 3<ts.length:=Nat.div_lt_of_lt_mul (by omega);have h0:j=j / 3*3+j % 3:=by omega
 rw [h0] at hj;rw [Jcu Jc0 ts (j / 3) (j % 3) _ (xD hi) (by omega)] at hj;have h1:=(h w hw).at_ b hb (j / 3) _ (xD hi) (j % 3) u hj;rwa [← Jdy,← h0] at h1
theorem Jch {w:World}{b:Nat}{cs cs':List Value}{T:TypeId}(h:w.heap[b]?=some (.cells cs.toArray T (0,0))){o:Nat}(hc:(cs.drop o).take cs'.length=cs'):∀ j v,cs'[j]?=some v→w.cell? ⟨b,o+j,none⟩=some v:=by
 intro j v hj;have hl:=(List.getElem?_eq_some_iff.1 hj).1;rw [← hc,List.getElem?_take_of_lt hl,List.getElem?_drop] at hj;exact (Jax h (by simpa using hj)).1
theorem Jbv {w0 ws w:World}{M I:Nat→Prop}{ow:List Hw.Item}(h:Sat w0 M I ws ow w){b:Nat}{cs cs':List Value}{T:TypeId}{f:Nat × Nat}(hm:own b (.cells cs.toArray T f)∈ow){o:Nat}(hc:(cs.drop o).take cs'.length=cs'):∀ j v,cs'[j]?=some v→w.cell? ⟨b,o+j,none⟩=some v:=by
 intro j v hj;refine Jbh h hm (o+j) v ?_;have hl:=(List.getElem?_eq_some_iff.1 hj).1;rw [← hc,List.getElem?_take_of_lt hl,List.getElem?_drop] at hj;exact hj
theorem s_beq (s u:ByteArray):(s.toList == u.toList)=decide (s=u):=Jla s u
set_option maxRecDepth 100000 in
theorem Jm5 (d:Nat)(a b:Tm)(w:World):(Op.equalIn (d+2) 26 (tmV a) (tmV b)).run Tryz.prog w=.ok (decide (a=b)) w:=by
 rw [run_equalIn_struct w (d+1) 26 _ _ (by simp only [Program.fieldsOf,T.u26]) (by kernel_rfl)];obtain ⟨k,n,s⟩:=a;obtain ⟨k',n',s'⟩:=b;simp only [Program.fieldsOf,T.u26];simp [Op.eqFields,part,tmC,Jc1 T.u3,Jc1 T.u9,aggD,run_equalIn_int w _ _ _ _ _ _ T.u3,run_equalIn_string w _ _ _ _ T.u9,s_beq]
 by_cases h1:k=k' <;> by_cases h2:n=n' <;> by_cases h3:s=s' <;> simp [h1,h2,h3]
set_option maxRecDepth 100000 in
theorem pd_equal (d:Nat)(a b:Pd)(w:World):(Op.equalIn (d+2) 107 (pdV a) (pdV b)).run Tryz.prog w=.ok (decide (a=b)) w:=by
 rw [run_equalIn_struct w (d+1) 107 _ _ (by simp only [Program.fieldsOf,T.u107]) (by kernel_rfl)];obtain ⟨s,n⟩:=a;obtain ⟨s',n'⟩:=b;simp only [Program.fieldsOf,T.u107];simp [Op.eqFields,part,pdC,Jc1 T.u3,Jc1 T.u9,aggD,run_equalIn_int w _ _ _ _ _ _ T.u3,run_equalIn_string w _ _ _ _ T.u9,s_beq]
 by_cases h1:s=s' <;> by_cases h2:n=n' <;> simp [h1,h2] <;> omega
theorem findAsking_spot {κ:Type}[DecidableEq κ]{P:Program}{kt:TypeId}{enc:κ→Value}(he:∀ a b w,(Op.equal kt (enc a) (enc b)).run P w=.ok (decide (a=b)) w)(a:κ)(w:World):∀ (l:List (κ × Value)) (i:Nat),(Instr.findAsking kt (enc a) (mapEs enc i l) i).run P w=.ok (spot l a i) w
 | [],i=>by simp [mapEs,Instr.findAsking,spot]
 | q::l,i=>by
  rw [Jkv];have hh:=he a q.1 w;have hh2:=he q.1 a w;unfold Instr.findAsking spot
  by_cases h:a=q.1
  ·simp [Sem.run_bind,hh,hh2,h,he]
  ·have h':¬ q.1=a:=fun e=>h e.symm
   simp [Sem.run_bind,hh,hh2,h,h',he,findAsking_spot he a w l (i+1)]
theorem KeyLaw.wide {κ:Type}[DecidableEq κ]{P:Program}{kt:TypeId}{cs:κ→List Value}(hw:(match P.underlying kt with | some (.array _ _) | some (.struct _)=>true | _=>false)=true)(he:∀ a b w,(Op.equal kt (.agg (cs a).toArray) (.agg (cs b).toArray)).run P w=.ok (decide (a=b)) w) 
  (hc:∀ b a w,(Instr.checkKey b 10000 kt (.agg (cs a).toArray)).run P w=.ok () w) (hs:∀ a,Instr.sameBits 10000 (.agg (cs a).toArray) (.agg (cs a).toArray)=true):KeyLaw P kt (fun a=>.agg (cs a).toArray) where
 check:=hc
 find a l w:=by
  cases hu:P.underlying kt with
  | none=>rw [hu] at hw;cases hw
  | some kd=>
   unfold Instr.findKey;simp only [Sem.run_bind,run_underlying hu,Result.andThen_ok];cases l with
   | nil=>simp [mapEs,Instr.findNow,spot]
   | cons q l=>
    have hn:Instr.findNow kd (.agg (cs a).toArray) (mapEs (fun a=>.agg (cs a).toArray) 0 (q::l)) 0=none:=by
     rw [Jkv];unfold Instr.findNow;rw [hu] at hw;cases kd <;> simp at hw <;> simp [Instr.sameNow]
    rw [hn];exact findAsking_spot (enc:=fun a=>.agg (cs a).toArray) he a w (q::l) 0
 stays:=hs
set_option maxRecDepth 100000 in
theorem chk_int (b:Bool)(d:Nat)(k:Int)(w:World):(Instr.checkKey b (d+1) 3 (.int .i64 k)).run Tryz.prog w=.ok () w:=by
 unfold Instr.checkKey;simp [Sem.run_bind,run_underlying T.u3]
theorem chk_str (b:Bool)(d:Nat)(k:ByteArray)(w:World):(Instr.checkKey b (d+1) 9 (.string k)).run Tryz.prog w=.ok () w:=by
 unfold Instr.checkKey;simp [Sem.run_bind,run_underlying T.u9]
set_option maxRecDepth 100000 in
theorem tm_check (b:Bool)(a:Tm)(w:World):(Instr.checkKey b 10000 26 (tmV a)).run Tryz.prog w=.ok () w:=by
 rw [show (10000:Nat)=9998+1+1 from rfl];unfold Instr.checkKey;simp [Sem.run_bind,run_underlying T.u26,part,tmC,Jc1 T.u3,Jc1 T.u9,aggD,chk_int,chk_str]
set_option maxRecDepth 100000 in
theorem pd_check (b:Bool)(a:Pd)(w:World):(Instr.checkKey b 10000 107 (pdV a)).run Tryz.prog w=.ok () w:=by
 rw [show (10000:Nat)=9998+1+1 from rfl];unfold Instr.checkKey;simp [Sem.run_bind,run_underlying T.u107,part,pdC,Jc1 T.u3,Jc1 T.u9,aggD,chk_int,chk_str]
theorem sb_int (d:Nat)(k:IntKind)(a:Int):Instr.sameBits d (.int k a) (.int k a)=true:=by
 cases d <;> simp [Instr.sameBits]
theorem sb_str (d:Nat)(a:ByteArray):Instr.sameBits d (.string a) (.string a)=true:=by
 cases d <;> simp [Instr.sameBits,Jpq]
theorem tmKey:KeyLaw Tryz.prog 26 tmV:=KeyLaw.wide (cs:=tmC) (by rw [T.u26]) (fun a b w=>Jm5 9998 a b w) tm_check (fun a=>by
 rw [show (10000:Nat)=9999+1 from rfl];unfold Instr.sameBits;simp [tmC,sb_int,sb_str])
theorem pdKey:KeyLaw Tryz.prog 107 pdV:=KeyLaw.wide (cs:=pdC) (by rw [T.u107]) (fun a b w=>pd_equal 9998 a b w) pd_check (fun a=>by
 rw [show (10000:Nat)=9999+1 from rfl];unfold Instr.sameBits;simp [pdC,sb_int,sb_str])
theorem OV.eqlTm {n:Nat}{ds:DS}{e:Env}{S:World→Prop}{dst:Option Tmp}{t:TypeId}{p:String}{af:Array Edge}{g:Option (Nat × Bool)}{x y:Operand}{a b:Tm}(hx:ev e x=some (tmV a))(hy:ev e y=some (tmV b)):OV Tryz.prog n ds e S ⟨dst,.binOp .eql 26 x y 26,t,p,af,g⟩ (.bool (decide (a=b))):=fun _ w ha _=>by
 simp [execOp,ha.eval hx,ha.eval hy,run_eqGuard_agg _ _ _ _ _ _ _ (show Program.eqGuardType Tryz.prog (Program.depth Tryz.prog) 26=false by kernel_rfl),run_eql_struct,Jm5 9998]
theorem OV.li {n:Nat}{ds:DS}{e:Env}{S:World→Prop}{dst:Option Tmp}{t:TypeId}{p:String}{af:Array Edge}{g:Option (Nat × Bool)}{x y:Operand}{a b:Tm}(hx:ev e x=some (tmV a))(hy:ev e y=some (tmV b)):OV Tryz.prog n ds e S ⟨dst,.binOp .neq 26 x y 26,t,p,af,g⟩ (.bool (!decide (a=b))):=fun _ w ha _=>by
 simp [execOp,ha.eval hx,ha.eval hy,run_eqGuard_agg _ _ _ _ _ _ _ (show Program.eqGuardType Tryz.prog (Program.depth Tryz.prog) 26=false by kernel_rfl),run_neq_struct,Jm5 9998]
abbrev E0:ByteArray:=⟨#[]⟩
def Jcy (t:Tm):Bool:=if t.kind=1 then decide (t.s=E0) else if t.kind=2 then decide (t.n=0) && decide (t.s.size≤64) else false
def prinB (t:Tm):Bool:=Jcy t && decide (t.kind=2) && !decide (t.s=E0)
def varB (t:Tm):Bool:=decide (t.kind=3) && decide (0≤t.n) && decide (t.s=E0)
def cmpN (a b:Int):Int:=if a<b then -1 else if b<a then 1 else 0
def cmpS (a b:ByteArray):Int:=Lib.compareBytes a.data.toList b.data.toList
def orL:List Int→Int
 | []=>0
 | a::l=>if a≠0 then a else orL l
def cmpT (a b:Tm):Int:=orL [cmpN a.kind b.kind,cmpN a.n b.n,cmpS a.s b.s]
theorem cmpstring_run (a b:ByteArray)(w:World):(callFunc 153 #[.string a,.string b]).run Tryz.prog w=.ok (.value (.int .i64 (cmpS a b))) w:=by
 rw [run_callFunc_extern Tryz.func153 (by kernel_rfl) (by kernel_rfl) (by kernel_rfl) (e:=Extern.BytealgCompare.compare) (by kernel_rfl),Lib.run_compareString];rfl
theorem Jd7 (t:Tm)(w:World):Calls Tryz.prog 46 #[tmV t] w fun e w'=>e=.returned (.bool (Jcy t))∧Fr0 w w':=by
 refine Jbo (args:=[tmV t]) (fun _=>False) Tryz.func46 rfl Tryz.ntmps46 rfl rfl ?_;refine Csr (WL.box rfl rfl rfl ?_);intro b1;refine Za rfl (Nn (Cs (Csr (Zv (OV.f0 0 rfl T.u26 rfl) (Zv (OV.ah rfl T.u3 rfl (fun _ hw=>Jbn hw yH rfl)) (Nn (Cb (Csr (Zv (OV.eb rfl rfl) (Za rfl (Nn ?_)))))))))));refine Cc rfl (fun c5=>?_) (fun c5=>?_)
 ·refine Csr (Zv (OV.f0 2 rfl T.u26 rfl) (Zv (OV.ah rfl T.u9 rfl (fun _ hw=>Jbn hw yH rfl)) (Zv (OV.mt rfl rfl) (Za rfl (Nn (WC.az ?_))))));refine Xq (Xr ?_);exact WX.ret1 rfl rfl rfl (fun w' hw=>⟨by clear hw;simp_all [Jcy] <;> omega,hw.fr⟩)
 refine Csr (Zv (OV.eb rfl rfl) (Za rfl (Nn ?_)));refine Cc rfl (fun c10=>?_) (fun c10=>?_)
 ·refine Csr (Zv (OV.f0 1 rfl T.u26 rfl) (Zv (OV.ah rfl T.u3 rfl (fun _ hw=>Jbn hw yH rfl)) (Zv (OV.eb rfl rfl) (Zm rfl ?_))));refine Zp (t:=15) rfl (fun g15=>?_) (fun g15=>?_)
  ·refine yY (Zv (OV.f0 2 rfl T.u26 rfl) (yY (Zv (OV.ah rfl T.u9 rfl (fun _ hw=>Jbn hw yH rfl)) (yY (Zv (OV.da rfl T.u9) (yY (Zv (OV.mw rfl rfl) (Zv (OV.am rfl rfl) (Za rfl (Nn (WC.az ?_)))))))))));refine Xq (Xr ?_);exact WX.ret1 rfl rfl rfl (fun w' hw=>⟨by clear hw;simp_all [Jcy] <;> omega,hw.fr⟩)
  refine yX (yX (yX (yX (Zv (OV.aj rfl rfl) (Za rfl (Nn (WC.az ?_)))))));refine Xq (Xr ?_);exact WX.ret1 rfl rfl rfl (fun w' hw=>⟨by clear hw;simp_all [Jcy] <;> omega,hw.fr⟩)
 refine Ck (Xb (Xn (Csr (Za rfl (Nn (WC.az ?_))))));exact WX.ret1 rfl rfl rfl (fun w' hw=>⟨by clear hw;simp_all [Jcy] <;> omega,hw.fr⟩)
theorem Jef (t:Tm)(w:World):Calls Tryz.prog 110 #[tmV t] w fun e w'=>e=.returned (.bool (Jcy t))∧Fr0 w w':=by
 refine Jbo (args:=[tmV t]) (fun _=>False) Tryz.func110 rfl Tryz.ntmps110 rfl rfl ?_;refine Csr (WL.box rfl rfl rfl ?_);intro b1;refine Za rfl (Nn (Csr (Zv (OV.f0 0 rfl T.u26 rfl) (Zv (OV.ah rfl T.u3 rfl (fun _ hw=>Jbn hw yH rfl)) (Zv (OV.eb rfl rfl) (Zm rfl ?_))))));refine Zp (t:=6) rfl (fun g6=>?_) (fun g6=>?_)
 ·refine yY (Zv (OV.f0 2 rfl T.u26 rfl) (yY (Zv (OV.ah rfl T.u9 rfl (fun _ hw=>Jbn hw yH rfl)) (yY (Zv (OV.mt rfl rfl) (Zv (OV.am rfl rfl) (Zm rfl ?_)))))));refine Zp (t:=11) rfl (fun g11=>?_) (fun g11=>?_)
  ·refine yX (yX (yX (yX (Zu rfl rfl (Zu rfl rfl (Zu rfl rfl (yX (yX (Zu rfl rfl (Zu rfl rfl (Zu rfl rfl (Zu rfl rfl (yX (Zv (OV.am rfl rfl) (Za rfl (Nn (WC.az ?_)))))))))))))))));exact WX.ret1 rfl rfl rfl (fun w' hw=>⟨by clear hw;simp_all [Jcy] <;> omega,hw.fr⟩)
  refine yY (Zv (OV.f0 0 rfl T.u26 rfl) (yY (Zv (OV.ah rfl T.u3 rfl (fun _ hw=>Jbn hw yH rfl)) (yY (Zv (OV.eb rfl rfl) (yY (Zm rfl ?_)))))));refine Zp (t:=15) rfl (fun g15=>?_) (fun g15=>?_)
  ·refine yY (Zv (OV.f0 1 rfl T.u26 rfl) (yY (Zv (OV.ah rfl T.u3 rfl (fun _ hw=>Jbn hw yH rfl)) (yY (Zv (OV.eb rfl rfl) (yY (Zv (OV.am rfl rfl) (yY (Zm rfl ?_)))))))));refine Zp (t:=20) rfl (fun g20=>?_) (fun g20=>?_)
   ·refine yY (Zv (OV.f0 2 rfl T.u26 rfl) (yY (Zv (OV.ah rfl T.u9 rfl (fun _ hw=>Jbn hw yH rfl)) (yY (Zv (OV.da rfl T.u9) (yY (Zv (OV.mw rfl rfl) (yY (Zv (OV.am rfl rfl) (Zv (OV.aj rfl rfl) (Za rfl (Nn (WC.az ?_)))))))))))));exact WX.ret1 rfl rfl rfl (fun w' hw=>⟨by clear hw;simp_all [Jcy] <;> omega,hw.fr⟩)
   refine yX (yX (yX (yX (yY (Zv (OV.aj rfl rfl) (Zv (OV.aj rfl rfl) (Za rfl (Nn (WC.az ?_)))))))));exact WX.ret1 rfl rfl rfl (fun w' hw=>⟨by clear hw;simp_all [Jcy] <;> omega,hw.fr⟩)
  refine yX (yX (yX (yY (Zv (OV.aj rfl rfl) (yY (Zm rfl (yX (yX (yX (yX (yY (Zv (OV.aj rfl rfl) (Zv (OV.aj rfl rfl) (Za rfl (Nn (WC.az ?_))))))))))))))));exact WX.ret1 rfl rfl rfl (fun w' hw=>⟨by clear hw;simp_all [Jcy] <;> omega,hw.fr⟩)
 refine yX (yX (yX (Zv (OV.aj rfl rfl) (Zm rfl (yY (Zv (OV.f0 0 rfl T.u26 rfl) (yY (Zv (OV.ah rfl T.u3 rfl (fun _ hw=>Jbn hw yH rfl)) (yY (Zv (OV.eb rfl rfl) (yY (Zm rfl ?_))))))))))));refine Zp (t:=15) rfl (fun g15=>?_) (fun g15=>?_)
 ·refine yY (Zv (OV.f0 1 rfl T.u26 rfl) (yY (Zv (OV.ah rfl T.u3 rfl (fun _ hw=>Jbn hw yH rfl)) (yY (Zv (OV.eb rfl rfl) (yY (Zv (OV.am rfl rfl) (yY (Zm rfl ?_)))))))));refine Zp (t:=20) rfl (fun g20=>?_) (fun g20=>?_)
  ·refine yY (Zv (OV.f0 2 rfl T.u26 rfl) (yY (Zv (OV.ah rfl T.u9 rfl (fun _ hw=>Jbn hw yH rfl)) (yY (Zv (OV.da rfl T.u9) (yY (Zv (OV.mw rfl rfl) (yY (Zv (OV.am rfl rfl) (Zv (OV.aj rfl rfl) (Za rfl (Nn (WC.az ?_)))))))))))));exact WX.ret1 rfl rfl rfl (fun w' hw=>⟨by clear hw;simp_all [Jcy] <;> omega,hw.fr⟩)
  refine yX (yX (yX (yX (yY (Zv (OV.aj rfl rfl) (Zv (OV.aj rfl rfl) (Za rfl (Nn (WC.az ?_)))))))));exact WX.ret1 rfl rfl rfl (fun w' hw=>⟨by clear hw;simp_all [Jcy] <;> omega,hw.fr⟩)
 refine yX (yX (yX (yY (Zv (OV.aj rfl rfl) (yY (Zm rfl (yX (yX (yX (yX (yY (Zv (OV.aj rfl rfl) (Zv (OV.aj rfl rfl) (Za rfl (Nn (WC.az ?_))))))))))))))));exact WX.ret1 rfl rfl rfl (fun w' hw=>⟨by clear hw;simp_all [Jcy] <;> omega,hw.fr⟩)
theorem prin_calls (t:Tm)(w:World):Calls Tryz.prog 149 #[tmV t] w fun e w'=>e=.returned (.bool (prinB t))∧Fr0 w w':=by
 refine Jbo (args:=[tmV t]) (fun _=>False) Tryz.func149 rfl Tryz.ntmps149 rfl rfl ?_;refine Csr (WL.box rfl rfl rfl ?_);intro b1;refine Za rfl (Nn (Csr (Zv (OV.lN (cs:=tmC t) rfl T.u26 rfl T.z26 yH) (WL.au (v:=.bool (Jcy t)) (by kernel_rfl) rfl rfl (fun w' hw'=>Jd7 t w') ?_))));refine Zm rfl ?_;refine Zp (t:=5) rfl (fun g5=>?_) (fun g5=>?_)
 ·refine yY (Zv (OV.f0 0 rfl T.u26 rfl) (yY (Zv (OV.ah rfl T.u3 rfl (fun _ hw=>Jbn hw yH rfl)) (yY (Zv (OV.eb rfl rfl) (Zv (OV.am rfl rfl) (Zm rfl ?_)))))));refine Zp (t:=10) rfl (fun g10=>?_) (fun g10=>?_)
  ·refine yY (Zv (OV.f0 2 rfl T.u26 rfl) (yY (Zv (OV.ah rfl T.u9 rfl (fun _ hw=>Jbn hw yH rfl)) (yY (Zv (OV.oe rfl rfl) (Zv (OV.am rfl rfl) (Za rfl (Nn (WC.az ?_)))))))));exact WX.ret1 rfl rfl rfl (fun w' hw=>⟨by clear hw;simp_all [prinB] <;> omega,hw.fr⟩)
  refine yX (yX (yX (Zv (OV.aj rfl rfl) (Za rfl (Nn (WC.az ?_))))));exact WX.ret1 rfl rfl rfl (fun w' hw=>⟨by clear hw;simp_all [prinB] <;> omega,hw.fr⟩)
 refine yX (yX (yX (Zv (OV.aj rfl rfl) (Zm rfl (yX (yX (yX (Zv (OV.aj rfl rfl) (Za rfl (Nn (WC.az ?_)))))))))));exact WX.ret1 rfl rfl rfl (fun w' hw=>⟨by clear hw;simp_all [prinB] <;> omega,hw.fr⟩)
theorem refPrin_calls (t:Tm)(w:World):Calls Tryz.prog 109 #[tmV t] w fun e w'=>e=.returned (.bool (prinB t))∧Fr0 w w':=by
 refine Jbo (args:=[tmV t]) (fun _=>False) Tryz.func109 rfl Tryz.ntmps109 rfl rfl ?_;refine Csr (WL.box rfl rfl rfl ?_);intro b1;refine Za rfl (Nn (Csr (Zv (OV.lN (cs:=tmC t) rfl T.u26 rfl T.z26 yH) (WL.au (v:=.bool (Jcy t)) (by kernel_rfl) rfl rfl (fun w' hw'=>Jef t w') ?_))));refine Zm rfl ?_;refine Zp (t:=5) rfl (fun g5=>?_) (fun g5=>?_)
 ·refine yY (Zv (OV.f0 0 rfl T.u26 rfl) (yY (Zv (OV.ah rfl T.u3 rfl (fun _ hw=>Jbn hw yH rfl)) (yY (Zv (OV.eb rfl rfl) (Zv (OV.am rfl rfl) (Zm rfl ?_)))))));refine Zp (t:=10) rfl (fun g10=>?_) (fun g10=>?_)
  ·refine yY (Zv (OV.f0 2 rfl T.u26 rfl) (yY (Zv (OV.ah rfl T.u9 rfl (fun _ hw=>Jbn hw yH rfl)) (yY (Zv (OV.oe rfl rfl) (Zv (OV.am rfl rfl) (Za rfl (Nn (WC.az ?_)))))))));exact WX.ret1 rfl rfl rfl (fun w' hw=>⟨by clear hw;simp_all [prinB] <;> omega,hw.fr⟩)
  refine yX (yX (yX (Zv (OV.aj rfl rfl) (Za rfl (Nn (WC.az ?_))))));exact WX.ret1 rfl rfl rfl (fun w' hw=>⟨by clear hw;simp_all [prinB] <;> omega,hw.fr⟩)
 refine yX (yX (yX (Zv (OV.aj rfl rfl) (Zm rfl (yX (yX (yX (Zv (OV.aj rfl rfl) (Za rfl (Nn (WC.az ?_)))))))))));exact WX.ret1 rfl rfl rfl (fun w' hw=>⟨by clear hw;simp_all [prinB] <;> omega,hw.fr⟩)
theorem Jcs (t:Tm)(w:World):Calls Tryz.prog 38 #[tmV t] w fun e w'=>e=.returned (.bool (varB t))∧Fr0 w w':=by
 refine Jbo (args:=[tmV t]) (fun _=>False) Tryz.func38 rfl Tryz.ntmps38 rfl rfl ?_;refine Csr (WL.box rfl rfl rfl ?_);intro b1;refine Za rfl (Nn (Csr (Zv (OV.f0 0 rfl T.u26 rfl) (Zv (OV.ah rfl T.u3 rfl (fun _ hw=>Jbn hw yH rfl)) (Zv (OV.eb rfl rfl) (Zm rfl ?_))))));refine Zp (t:=6) rfl (fun g6=>?_) (fun g6=>?_)
 ·refine yY (Zv (OV.f0 1 rfl T.u26 rfl) (yY (Zv (OV.ah rfl T.u3 rfl (fun _ hw=>Jbn hw yH rfl)) (yY (Zv (OV.jy rfl rfl) (Zv (OV.am rfl rfl) (Zm rfl ?_)))))));refine Zp (t:=11) rfl (fun g11=>?_) (fun g11=>?_)
  ·refine yY (Zv (OV.f0 2 rfl T.u26 rfl) (yY (Zv (OV.ah rfl T.u9 rfl (fun _ hw=>Jbn hw yH rfl)) (yY (Zv (OV.mt rfl rfl) (Zv (OV.am rfl rfl) (Za rfl (Nn (WC.az ?_)))))))));exact WX.ret1 rfl rfl rfl (fun w' hw=>⟨by clear hw;simp_all [varB] <;> omega,hw.fr⟩)
  refine yX (yX (yX (Zv (OV.aj rfl rfl) (Za rfl (Nn (WC.az ?_))))));exact WX.ret1 rfl rfl rfl (fun w' hw=>⟨by clear hw;simp_all [varB] <;> omega,hw.fr⟩)
 refine yX (yX (yX (Zv (OV.aj rfl rfl) (Zm rfl (yX (yX (yX (Zv (OV.aj rfl rfl) (Za rfl (Nn (WC.az ?_)))))))))));exact WX.ret1 rfl rfl rfl (fun w' hw=>⟨by clear hw;simp_all [varB] <;> omega,hw.fr⟩)
theorem Jdi (t:Tm)(w:World):Calls Tryz.prog 73 #[tmV t] w fun e w'=>e=.returned (.bool (varB t))∧Fr0 w w':=by
 refine Jbo (args:=[tmV t]) (fun _=>False) Tryz.func73 rfl Tryz.ntmps73 rfl rfl ?_;refine Csr (WL.box rfl rfl rfl ?_);intro b1;refine Za rfl (Nn (Csr (Zv (OV.f0 0 rfl T.u26 rfl) (Zv (OV.ah rfl T.u3 rfl (fun _ hw=>Jbn hw yH rfl)) (Zv (OV.eb rfl rfl) (Zm rfl ?_))))));refine Zp (t:=6) rfl (fun g6=>?_) (fun g6=>?_)
 ·refine yY (Zv (OV.f0 1 rfl T.u26 rfl) (yY (Zv (OV.ah rfl T.u3 rfl (fun _ hw=>Jbn hw yH rfl)) (yY (Zv (OV.jy rfl rfl) (Zv (OV.am rfl rfl) (Zm rfl ?_)))))));refine Zp (t:=11) rfl (fun g11=>?_) (fun g11=>?_)
  ·refine yY (Zv (OV.f0 2 rfl T.u26 rfl) (yY (Zv (OV.ah rfl T.u9 rfl (fun _ hw=>Jbn hw yH rfl)) (yY (Zv (OV.mt rfl rfl) (Zv (OV.am rfl rfl) (Za rfl (Nn (WC.az ?_)))))))));exact WX.ret1 rfl rfl rfl (fun w' hw=>⟨by clear hw;simp_all [varB] <;> omega,hw.fr⟩)
  refine yX (yX (yX (Zv (OV.aj rfl rfl) (Za rfl (Nn (WC.az ?_))))));exact WX.ret1 rfl rfl rfl (fun w' hw=>⟨by clear hw;simp_all [varB] <;> omega,hw.fr⟩)
 refine yX (yX (yX (Zv (OV.aj rfl rfl) (Zm rfl (yX (yX (yX (Zv (OV.aj rfl rfl) (Za rfl (Nn (WC.az ?_)))))))))));exact WX.ret1 rfl rfl rfl (fun w' hw=>⟨by clear hw;simp_all [varB] <;> omega,hw.fr⟩)
theorem isNaN_calls (a:Int)(w:World):Calls Tryz.prog 107 #[.int .i64 a] w fun e w'=>e=.returned (.bool false)∧Fr0 w w':=by
 refine Jbo (args:=[.int .i64 a]) (fun _=>False) Tryz.func107 rfl Tryz.ntmps107 rfl rfl ?_;refine Csr (Za rfl (Nn (Csr (Zm rfl (Zm rfl (Zv (OV.iu rfl rfl) (Za rfl (Nn (WC.az ?_)))))))));exact WX.ret1 rfl rfl rfl (fun w' hw=>⟨by clear hw;simp_all [] <;> omega,hw.fr⟩)
theorem Jfw (a b:Int)(w:World):Calls Tryz.prog 70 #[.int .i64 a,.int .i64 b] w fun e w'=>e=.returned (.int .i64 (cmpN a b))∧Fr0 w w':=by
 refine Jbo (args:=[.int .i64 a,.int .i64 b]) (fun _=>False) Tryz.func70 rfl Tryz.ntmps70 rfl rfl ?_;refine Csr (Za rfl (Nn (Csr (Zm rfl (WL.au (v:=.bool false) (by kernel_rfl) rfl rfl (fun w' hw'=>isNaN_calls _ w') ?_)))));refine Za rfl (Nn (Csr (Zm rfl (WL.au (v:=.bool false) (by kernel_rfl) rfl rfl (fun w' hw'=>isNaN_calls _ w') ?_))));refine Za rfl (Nn (Cs (Csr (Zm rfl (Nn (WC.bu rfl ?_))))));refine Ck (Xn (Cs (Csr (Zm rfl (Nn (WC.bu rfl ?_))))));refine Ck (Xn (Cs (Csr (Zm rfl (Zm rfl (Zv (OV.cq rfl rfl) (Nn ?_)))))));refine Cc rfl (fun c16=>?_) (fun c16=>?_)
 ·refine Csr (Za rfl (Nn (WC.az ?_)));refine Xr ?_;exact WX.ret1 rfl rfl rfl (fun w' hw=>⟨by clear hw;congr 2;unfold cmpN;split <;> (try split) <;> omega,hw.fr⟩)
 refine Ck (Xn (Cs (Csr (Zm rfl (Zm rfl (Zv (OV.lj rfl rfl) (Nn ?_)))))));refine Cc rfl (fun c19=>?_) (fun c19=>?_)
 ·refine Csr (Za rfl (Nn (WC.az ?_)));refine Xr ?_;exact WX.ret1 rfl rfl rfl (fun w' hw=>⟨by clear hw;congr 2;unfold cmpN;split <;> (try split) <;> omega,hw.fr⟩)
 refine Ck (Xn (Csr (Za rfl (Nn (WC.az ?_)))));exact WX.ret1 rfl rfl rfl (fun w' hw=>⟨by clear hw;congr 2;unfold cmpN;split <;> (try split) <;> omega,hw.fr⟩)
theorem bcmp_calls (a b:ByteArray)(w:World):Calls Tryz.prog 106 #[.string a,.string b] w fun e w'=>e=.returned (.int .i64 (cmpS a b))∧Fr0 w w':=by
 refine Jbo (args:=[.string a,.string b]) (fun _=>False) Tryz.func106 rfl Tryz.ntmps106 rfl rfl ?_;refine Csr (Za rfl (Nn (Csr (Zm rfl (Zm rfl (WL.gg rfl rfl (fun w' _=>cmpstring_run a b w') ?_))))));refine Za rfl (Nn (WC.az ?_));exact WX.ret1 rfl rfl rfl (fun w' hw=>⟨rfl,hw.fr⟩)
theorem scmp_calls (a b:ByteArray)(w:World):Calls Tryz.prog 69 #[.string a,.string b] w fun e w'=>e=.returned (.int .i64 (cmpS a b))∧Fr0 w w':=by
 refine Jbo (args:=[.string a,.string b]) (fun _=>False) Tryz.func69 rfl Tryz.ntmps69 rfl rfl ?_;refine Csr (Za rfl (Nn (Csr (Zm rfl (Zm rfl (WL.au (v:=.int .i64 (cmpS a b)) (by kernel_rfl) rfl rfl (fun w' hw'=>bcmp_calls a b w') ?_))))));refine Za rfl (Nn (WC.az ?_));exact WX.ret1 rfl rfl rfl (fun w' hw=>⟨rfl,hw.fr⟩)
theorem orL_at {l:List Int}{i:Nat}(h:∀ j,j<i→l.getD j 0=0)(hi:i<l.length)(hv:l.getD i 0≠0):orL l=l.getD i 0:=by
 induction l generalizing i with
 | nil=>simp at hi
 | cons a l ih=>
  cases i with
  | zero=>simp only [List.getD_cons_zero] at hv ⊢;simp [orL,hv]
  | succ i=>
   have h0:a=0:=by simpa using h 0 (by omega)
   rw [orL,if_neg (by simpa using h0)];simp only [List.getD_cons_succ] at hv ⊢;exact ih (fun j hj=>by simpa using h (j+1) (by omega)) (by simpa using hi) hv
theorem orL_zero {l:List Int}(h:∀ j,j<l.length→l.getD j 0=0):orL l=0:=by
 induction l with
 | nil=>rfl
 | cons a l ih=>
  have h0:a=0:=by simpa using h 0 (by simp)
  rw [orL,if_neg (by simpa using h0)];exact ih (fun j hj=>by simpa using h (j+1) (by simpa using hj))
theorem ints_get' {l:List Int}{i:Nat}(h:i<l.length):(ints l)[i]?=some (.int .i64 (l.getD i 0)):=Jni (by rw [yF,xD h];rfl)
theorem Jnf (l:List Int)(b:Nat)(hl:l.length≤1048576)(w:World)(hb:w.heap[b]?=some (.cells (ints l).toArray 3 (0,0))):Calls Tryz.prog 68 #[.slice (some ⟨b,0,none⟩) l.length l.length] w fun e w'=>e=.returned (.int .i64 (orL l))∧Fr0 w w':=by
 refine Jbo (args:=[.slice (some ⟨b,0,none⟩) l.length l.length]) (fun _=>False) Tryz.func68 rfl Tryz.ntmps68 rfl rfl ?_;refine Csr (Za rfl (Nn (Csr (Za rfl (Nn (Cs (Csr (Zm rfl (Zv (OV.ae rfl T.u51) (Zm rfl (Nn (Cb ?_))))))))))))
 refine WC.cm (fun (i:Nat)=>[(3,.int .i64 0),(6,.slice (some ⟨b,0,none⟩) l.length l.length),(7,.int .i64 (l.length:Int)),(8,.int .i64 (i:Int))])
   (fun i w'=>(i≤l.length∧∀ j,j<i→l.getD j 0=0)∧Sat0 w ([]) w')
   (fun i=>l.length - i) 0 Y4 (fun w' hw=>⟨⟨by omega,by intro j hj;omega⟩,hw⟩) ?_
 intro i;refine WC.pure (fun hi=>?_);obtain ⟨hi,hz⟩:=hi;refine Csr (Zv (OV.cq rfl rfl) (Nn (Cs ?_)));refine Cc rfl (fun c9=>?_) (fun c9=>?_)
 ·refine Ck (Xn (Cs (Cb (Csr ?_))));have hil:i<l.length:=by omega
  refine Zv (OV.dp (i:=i) rfl rfl T.u51 T.z3 (by omega)) (Zv (OV.ah (v:=.int .i64 (l.getD i 0)) rfl T.u3 rfl (fun _ hw=>snapL hw ((Jax hb (o:=i) (by rw [ints_get' hil])).1))) (Za rfl (Nn (Csr (Zm rfl (Zm rfl (Zv (OV.iu rfl rfl) (Nn ?_))))))));refine Cc rfl (fun c14=>?_) (fun c14=>?_)
  ·refine Csr (Zm rfl (Za rfl (Nn (WC.az ?_))));refine Xq (Xr (Xr (Xq (Xr ?_))));exact WX.ret1 rfl rfl rfl (fun w' hw=>⟨by rw [orL_at hz (by omega) (by simpa using c14)],hw.fr⟩)
  refine Ck (Xb (Xn (Cr (Zv (OV.bm (j:=1) rfl rfl (by omega)) (Zm rfl (Nl ?_))))));have h0:l.getD i 0=0:=by simpa using c14
  exact WX.bk (i+1) Y4 (fun w' hw=>⟨⟨by omega,fun j hj=>by rcases Nat.lt_or_ge j i with h | h;exact hz j h;rw [show j=i by omega];exact h0⟩,hw⟩) (by show l.length - (i+1)<l.length - i;omega)
 refine Ce (Xe (Xe (Xh (Xn (Csr (Zm rfl (Za rfl (Nn (WC.az ?_)))))))));exact WX.ret1 rfl rfl rfl (fun w' hw=>⟨by rw [orL_zero (fun j hj=>hz j (by omega))],hw.fr⟩)
theorem Jjl (t u:Tm)(w:World):Calls Tryz.prog 57 #[tmV t,tmV u] w fun e w'=>e=.returned (.int .i64 (cmpT t u))∧Fr0 w w':=by
 refine Jbo (args:=[tmV t,tmV u]) (fun _=>False) Tryz.func57 rfl Tryz.ntmps57 rfl rfl ?_;refine Csr (WL.box rfl rfl rfl ?_);intro b2;refine WL.box rfl rfl rfl ?_;intro b3;refine Za rfl (Nn (Cs (Hd (fun w'=>w'.heap[b2]?=some (.cells (tmC t).toArray 26 (0,0))∧w'.heap[b3]?=some (.cells (tmC u).toArray 26 (0,0))) [] (fun _ hw=>⟨hw.it (oQ b2 (tmC t) 26) (by simp),hw.it (oQ b3 (tmC u) 26) (by simp)⟩) (m:=18) rfl ?_)));refine Hf 0 rfl (OV.f0 0 rfl T.u26 rfl) (Ht 1 rfl (OV.ah (v:=.int .i64 t.kind) rfl T.u3 rfl (fun _ hw=>(Jax hw.1 (o:=0) rfl).1)) (Hf 2 rfl (OV.f0 0 rfl T.u26 rfl) (Ht 3 rfl (OV.ah (v:=.int .i64 u.kind) rfl T.u3 rfl (fun _ hw=>(Jax hw.2 (o:=0) rfl).1)) (Hf 5 rfl (OV.f0 1 rfl T.u26 rfl) (Ht 6 rfl (OV.ah (v:=.int .i64 t.n) rfl T.u3 rfl (fun _ hw=>(Jax hw.1 (o:=1) rfl).1)) (Hf 7 rfl (OV.f0 1 rfl T.u26 rfl) (Ht 8 rfl (OV.ah (v:=.int .i64 u.n) rfl T.u3 rfl (fun _ hw=>(Jax hw.2 (o:=1) rfl).1)) (Hf 10 rfl (OV.f0 2 rfl T.u26 rfl) (Ht 11 rfl (OV.ah (v:=.string t.s) rfl T.u9 rfl (fun _ hw=>(Jax hw.1 (o:=2) rfl).1)) (Hf 12 rfl (OV.f0 2 rfl T.u26 rfl) (Ht 13 rfl (OV.ah (v:=.string u.s) rfl T.u9 rfl (fun _ hw=>(Jax hw.2 (o:=2) rfl).1)) (Ho 4 rfl (fl':=false) rfl ?_))))))))))));refine WL.au (v:=.int .i64 (cmpN t.kind u.kind)) (by kernel_rfl) rfl rfl (fun w' hw'=>Jfw _ _ w') ?_;refine Hc (fun _=>(fun _ hw=>⟨hw.it (oQ b2 (tmC t) 26) (by simp),hw.it (oQ b3 (tmC u) 26) (by simp)⟩)) ?_;refine Ho 9 rfl (fl':=false) rfl ?_;refine WL.au (v:=.int .i64 (cmpN t.n u.n)) (by kernel_rfl) rfl rfl (fun w' hw'=>Jfw _ _ w') ?_;refine Hc (fun _=>(fun _ hw=>⟨hw.it (oQ b2 (tmC t) 26) (by simp),hw.it (oQ b3 (tmC u) 26) (by simp)⟩)) ?_;refine Ho 14 rfl (fl':=false) rfl ?_;refine WL.au (v:=.int .i64 (cmpS t.s u.s)) (by kernel_rfl) rfl rfl (fun w' hw'=>scmp_calls _ _ w') ?_;refine Hc (fun _=>(fun _ hw=>⟨hw.it (oQ b2 (tmC t) 26) (by simp),hw.it (oQ b3 (tmC u) 26) (by simp)⟩)) ?_;refine Ho 15 rfl (fl':=false) rfl ?_;refine WL.gy (xs:=[.tmp 9,.tmp 14,.tmp 19]) (vs:=ints [cmpN t.kind u.kind,cmpN t.n u.n,cmpS t.s u.s]) rfl T.u51 T.z3 T.zr3 rfl rfl rfl (by decide) rfl ?_;intro b20;refine Hc (fun _=>(fun _ hw=>⟨hw.it (oQ b2 (tmC t) 26) (by simp),hw.it (oQ b3 (tmC u) 26) (by simp)⟩)) ?_;refine Ho 16 rfl (fl':=false) rfl ?_;refine WL.au (v:=.int .i64 (cmpT t u)) (by kernel_rfl) rfl rfl (fun w' hw'=>Jnf [cmpN t.kind u.kind,cmpN t.n u.n,cmpS t.s u.s] b20 (by simp) w' (hw'.it _ yH)) ?_;refine Hc (fun _=>(fun _ hw=>⟨hw.it (oQ b2 (tmC t) 26) (by simp),hw.it (oQ b3 (tmC u) 26) (by simp)⟩)) ?_;refine Hf 17 rfl (OV.assign rfl) (He (Xn (WC.az ?_)));exact WX.ret1 rfl rfl rfl (fun w' hw=>⟨rfl,hw.fr⟩)
abbrev SAYS:ByteArray:=⟨#[115,97,121,115]⟩
def letB (c:UInt8):Bool:=decide (((97:Int)≤c.toNat∧(c.toNat:Int)≤122)∨((65:Int)≤c.toNat∧(c.toNat:Int)≤90)∨((48:Int)≤c.toNat∧(c.toNat:Int)≤57)∨(c.toNat:Int)=95)
def bAt (s:ByteArray)(i:Nat):UInt8:=s.data.toList.getD i 0
def nameB (s:ByteArray):Bool:=decide (s≠E0∧s.size≤32∧s≠SAYS∧(97:Int)≤(bAt s 0).toNat∧((bAt s 0).toNat:Int)≤122∧∀ i,i<s.size→letB (bAt s i)=true)
def T0:Tm:=⟨0,0,E0⟩
def badB (t:Tm):Bool:=!Jcy t && !varB t
def chkA (x:At):Int:=if nameB x.name=false then 21 else if 8<x.args.length then 22 else if x.b≠T0∧prinB x.b=false∧varB x.b=false then 23 else if x.args.any badB then 24 else 0
def factB (x:At):Bool:=decide (chkA x=0) && !varB x.b && !x.args.any varB
theorem bget {s:ByteArray}{i:Nat}(h:i<s.size):s[i]?=some (bAt s i):=by
 have h2:i<s.data.toList.length:=by simpa using h
 unfold bAt;rw [yF,xD h2,Option.getD_some];rw [getElem?_pos s i h];rfl
theorem size_pos {s:ByteArray}(h:¬ s=E0):0<s.size:=by
 rcases Nat.eq_zero_or_pos s.size with h0 | h0
 ·exfalso;apply h;obtain ⟨⟨l⟩⟩:=s;have:l.length=0:=h0;rw [List.length_eq_zero_iff.1 this]
 ·exact h0
def Jdb (w:World):Prop:=∀ j v,(tmC T0)[j]?=some v→w.cell? ⟨0,j,none⟩=some v
theorem Jdb.keeps {w w':World}(h:Jdb w)(k:Keeps w w'):Jdb w':=fun j v hj=>k _ _ (h j v hj)
theorem Jf9 {s:ByteArray}{i:Nat}(h:i<s.size)(hl:¬ letB (bAt s i)=true):nameB s=false:=by
 unfold nameB;rw [decide_eq_false_iff_not];exact fun hh=>hl (hh.2.2.2.2.2 i h)
theorem name_calls (s:ByteArray)(hs:s.size≤1099511627776)(w:World):Calls Tryz.prog 148 #[.string s] w fun e w'=>e=.returned (.bool (nameB s))∧Fr0 w w':=by
 refine Jbo (args:=[.string s]) (fun _=>False) Tryz.func148 rfl Tryz.ntmps148 rfl rfl ?_;refine Csr (Za rfl (Nn (Cs (Csr (Zm rfl (Zv (OV.mt rfl rfl) (Zm rfl ?_)))))));refine Zp (t:=7) rfl (fun g7=>?_) (fun g7=>?_)
 ·refine yX (yX (yX (Zv (OV.am rfl rfl) (Zm rfl (yX (yX (Zv (OV.am rfl rfl) (Zm rfl (yX (yX (yX (Zv (OV.am rfl rfl) (Zm rfl (yX (yX (yX (Zv (OV.am rfl rfl) (Nn (WC.co rfl ?_)))))))))))))))))));refine Csr (Za rfl (Nn (WC.az ?_)));refine Xr ?_;exact WX.ret1 rfl rfl rfl (fun w' hw=>⟨by clear hw;rw [show nameB s=false from by unfold nameB;rw [decide_eq_false_iff_not];rintro ⟨h1,h2,h3,h4,h5,h6⟩;first | exact h1 (by assumption) | exact h3 (by assumption) | omega],hw.fr⟩)
 refine yY (Zm rfl (yY (Zv (OV.da rfl T.u9) (yY (Zv (OV.lj rfl rfl) (Zv (OV.aj rfl rfl) (Zm rfl ?_)))))));refine Zp (t:=12) rfl (fun g12=>?_) (fun g12=>?_)
 ·refine yX (yX (Zv (OV.am rfl rfl) (Zm rfl (yX (yX (yX (Zv (OV.am rfl rfl) (Zm rfl (yX (yX (yX (Zv (OV.am rfl rfl) (Nn (WC.co rfl ?_))))))))))))));refine Csr (Za rfl (Nn (WC.az ?_)));refine Xr ?_;exact WX.ret1 rfl rfl rfl (fun w' hw=>⟨by clear hw;rw [show nameB s=false from by unfold nameB;rw [decide_eq_false_iff_not];rintro ⟨h1,h2,h3,h4,h5,h6⟩;first | exact h1 (by assumption) | exact h3 (by assumption) | omega],hw.fr⟩)
 refine yY (Zm rfl (yY (Zv (OV.mt rfl rfl) (Zv (OV.aj rfl rfl) (Zm rfl ?_)))));refine Zp (t:=16) rfl (fun g16=>?_) (fun g16=>?_)
 ·refine yX (yX (yX (Zv (OV.am rfl rfl) (Zm rfl (yX (yX (yX (Zv (OV.am rfl rfl) (Nn (WC.co rfl ?_))))))))));refine Csr (Za rfl (Nn (WC.az ?_)));refine Xr ?_;exact WX.ret1 rfl rfl rfl (fun w' hw=>⟨by clear hw;rw [show nameB s=false from by unfold nameB;rw [decide_eq_false_iff_not];rintro ⟨h1,h2,h3,h4,h5,h6⟩;first | exact h1 (by assumption) | exact h3 (by assumption) | omega],hw.fr⟩)
 refine yY (Zm rfl (yY ?_));have hsz:=size_pos g7;refine Zv (OV.e6 (r:=bAt s 0) rfl rfl T.u9 ⟨by omega,bget hsz⟩) (yY (Zv (OV.cq rfl rfl) (Zv (OV.aj rfl rfl) (Zm rfl ?_))));refine Zp (t:=21) rfl (fun g21=>?_) (fun g21=>?_)
 ·refine yX (yX (yX (Zv (OV.am rfl rfl) (Nn (WC.co rfl ?_)))));refine Csr (Za rfl (Nn (WC.az ?_)));refine Xr ?_;exact WX.ret1 rfl rfl rfl (fun w' hw=>⟨by clear hw;rw [show nameB s=false from by unfold nameB;rw [decide_eq_false_iff_not];rintro ⟨h1,h2,h3,h4,h5,h6⟩;first | exact h1 (by assumption) | exact h3 (by assumption) | omega],hw.fr⟩)
 refine yY (Zm rfl (yY (Zv (OV.e6 (r:=bAt s 0) rfl rfl T.u9 ⟨by omega,bget hsz⟩) (yY (Zv (OV.lj rfl rfl) (Zv (OV.aj rfl rfl) (Nn ?_)))))));refine Cc rfl (fun c25=>?_) (fun c25=>?_)
 ·refine Csr (Za rfl (Nn (WC.az ?_)));refine Xr ?_;exact WX.ret1 rfl rfl rfl (fun w' hw=>⟨by clear hw;rw [show nameB s=false from by unfold nameB;rw [decide_eq_false_iff_not];rintro ⟨h1,h2,h3,h4,h5,h6⟩;first | exact h1 (by assumption) | exact h3 (by assumption) | omega],hw.fr⟩)
 refine Ck (Xn (Cs (Csr (Zm rfl (Zv (OV.da rfl T.u9) (Zm rfl (Nn (Cb ?_))))))))
 refine WC.cm (fun (i:Nat)=>[(0,.string s),(27,.int .i64 (s.size:Int)),(28,.int .i64 (i:Int))])
   (fun i w'=>(i≤s.size∧∀ j,j<i→letB (bAt s j)=true)∧Sat0 w ([]) w')
   (fun i=>s.size - i) 0 Y3 (fun w' hw=>⟨⟨by omega,by intro j hj;omega⟩,hw⟩) ?_
 intro i;refine WC.pure (fun hi=>?_);obtain ⟨hi,hz⟩:=hi;refine Csr (Zv (OV.cq rfl rfl) (Nn (Cs ?_)));refine Cc rfl (fun c29=>?_) (fun c29=>?_)
 ·refine Ck (Xn (Cs (Cb (Csr (Zm rfl (Za rfl (Nn (Csr (Zm rfl (Zm rfl ?_))))))))));obtain ⟨cb,hcb⟩:∃ cb,cb=bAt s i:=⟨_,rfl⟩
  refine Zv (OV.e6 (r:=cb) rfl rfl T.u9 ⟨by omega,by rw [hcb];exact bget (by omega)⟩) (Za rfl (Nn (Csr (Zm rfl (Zv (OV.jy rfl rfl) (Zm rfl ?_))))));refine Zp (t:=36) rfl (fun g36=>?_) (fun g36=>?_)
  ·refine yY (Zm rfl (yY (Zv (OV.mw rfl rfl) (Zv (OV.am rfl rfl) (Zm rfl ?_)))));refine Zp (t:=40) rfl (fun g40=>?_) (fun g40=>?_)
   ·refine yX (yX (yX (Zu rfl rfl (Zu rfl rfl (yX (Zv (OV.am rfl rfl) (Zm rfl (yX (yX (yX (Zu rfl rfl (Zu rfl rfl (yX (Zv (OV.am rfl rfl) (Zm rfl (yX (yX (Zv (OV.am rfl rfl) (Zv (OV.not rfl) (Nn (WC.bu rfl ?_)))))))))))))))))))));refine Ck (Xb (Xn (Cr (Zv (OV.bm (j:=1) rfl rfl (by omega)) (Zm rfl (Nl ?_))))));exact WX.bk (i+1) Y3 (fun w' hw=>⟨⟨by omega,fun j hj=>by rcases Nat.lt_or_ge j i with h | h;exact hz j h;rw [show j=i by omega];rw [← hcb];unfold letB;rw [decide_eq_true_eq];omega⟩,hw⟩) (by show s.size - (i+1)<s.size - i;omega)
   refine yY (Zm rfl (yY (Zv (OV.jy rfl rfl) (yY (Zm rfl ?_)))));refine Zp (t:=43) rfl (fun g43=>?_) (fun g43=>?_)
   ·refine yY (Zm rfl (yY (Zv (OV.mw rfl rfl) (yY (Zv (OV.am rfl rfl) (Zv (OV.aj rfl rfl) (Zm rfl ?_)))))));refine Zp (t:=48) rfl (fun g48=>?_) (fun g48=>?_)
    ·refine yX (yX (yX (Zu rfl rfl (Zu rfl rfl (yX (Zv (OV.am rfl rfl) (Zm rfl (yX (yX (Zv (OV.am rfl rfl) (Zv (OV.not rfl) (Nn (WC.bu rfl ?_)))))))))))));refine Ck (Xb (Xn (Cr (Zv (OV.bm (j:=1) rfl rfl (by omega)) (Zm rfl (Nl ?_))))));exact WX.bk (i+1) Y3 (fun w' hw=>⟨⟨by omega,fun j hj=>by rcases Nat.lt_or_ge j i with h | h;exact hz j h;rw [show j=i by omega];rw [← hcb];unfold letB;rw [decide_eq_true_eq];omega⟩,hw⟩) (by show s.size - (i+1)<s.size - i;omega)
    refine yY (Zm rfl (yY (Zv (OV.jy rfl rfl) (yY (Zm rfl ?_)))));refine Zp (t:=51) rfl (fun g51=>?_) (fun g51=>?_)
    ·refine yY (Zm rfl (yY (Zv (OV.mw rfl rfl) (yY (Zv (OV.am rfl rfl) (Zv (OV.aj rfl rfl) (Zm rfl ?_)))))));refine Zp (t:=56) rfl (fun g56=>?_) (fun g56=>?_)
     ·refine yX (yX (Zv (OV.am rfl rfl) (Zv (OV.not rfl) (Nn (WC.bu rfl ?_)))));refine Ck (Xb (Xn (Cr (Zv (OV.bm (j:=1) rfl rfl (by omega)) (Zm rfl (Nl ?_))))));exact WX.bk (i+1) Y3 (fun w' hw=>⟨⟨by omega,fun j hj=>by rcases Nat.lt_or_ge j i with h | h;exact hz j h;rw [show j=i by omega];rw [← hcb];unfold letB;rw [decide_eq_true_eq];omega⟩,hw⟩) (by show s.size - (i+1)<s.size - i;omega)
     refine yY (Zm rfl (yY (Zv (OV.eb rfl rfl) (Zv (OV.aj rfl rfl) (Zv (OV.not rfl) (Nn ?_))))));refine Cc rfl (fun c60=>?_) (fun c60=>?_)
     ·refine Csr (Za rfl (Nn (WC.az ?_)));refine Xq (Xr (Xr (Xq (Xr ?_))));exact WX.ret1 rfl rfl rfl (fun w' hw=>⟨by clear hw;rw [Jf9 (i:=i) (by omega) (by rw [← hcb];unfold letB;rw [decide_eq_true_eq];omega)],hw.fr⟩)
     refine Ck (Xb (Xn (Cr (Zv (OV.bm (j:=1) rfl rfl (by omega)) (Zm rfl (Nl ?_))))));exact WX.bk (i+1) Y3 (fun w' hw=>⟨⟨by omega,fun j hj=>by rcases Nat.lt_or_ge j i with h | h;exact hz j h;rw [show j=i by omega];rw [← hcb];unfold letB;rw [decide_eq_true_eq];omega⟩,hw⟩) (by show s.size - (i+1)<s.size - i;omega)
    refine yX (yX (yY (Zv (OV.aj rfl rfl) (Zv (OV.aj rfl rfl) (Zm rfl (yY (Zm rfl (yY (Zv (OV.eb rfl rfl) (Zv (OV.aj rfl rfl) (Zv (OV.not rfl) (Nn ?_))))))))))));refine Cc rfl (fun c60=>?_) (fun c60=>?_)
    ·refine Csr (Za rfl (Nn (WC.az ?_)));refine Xq (Xr (Xr (Xq (Xr ?_))));exact WX.ret1 rfl rfl rfl (fun w' hw=>⟨by clear hw;rw [Jf9 (i:=i) (by omega) (by rw [← hcb];unfold letB;rw [decide_eq_true_eq];omega)],hw.fr⟩)
    refine Ck (Xb (Xn (Cr (Zv (OV.bm (j:=1) rfl rfl (by omega)) (Zm rfl (Nl ?_))))));exact WX.bk (i+1) Y3 (fun w' hw=>⟨⟨by omega,fun j hj=>by rcases Nat.lt_or_ge j i with h | h;exact hz j h;rw [show j=i by omega];rw [← hcb];unfold letB;rw [decide_eq_true_eq];omega⟩,hw⟩) (by show s.size - (i+1)<s.size - i;omega)
   refine yX (yX (yY (Zv (OV.aj rfl rfl) (Zv (OV.aj rfl rfl) (Zm rfl (yY (Zm rfl (yY (Zv (OV.jy rfl rfl) (yY (Zm rfl ?_)))))))))));refine Zp (t:=51) rfl (fun g51=>?_) (fun g51=>?_)
   ·refine yY (Zm rfl (yY (Zv (OV.mw rfl rfl) (yY (Zv (OV.am rfl rfl) (Zv (OV.aj rfl rfl) (Zm rfl ?_)))))));refine Zp (t:=56) rfl (fun g56=>?_) (fun g56=>?_)
    ·refine yX (yX (Zv (OV.am rfl rfl) (Zv (OV.not rfl) (Nn (WC.bu rfl ?_)))));refine Ck (Xb (Xn (Cr (Zv (OV.bm (j:=1) rfl rfl (by omega)) (Zm rfl (Nl ?_))))));exact WX.bk (i+1) Y3 (fun w' hw=>⟨⟨by omega,fun j hj=>by rcases Nat.lt_or_ge j i with h | h;exact hz j h;rw [show j=i by omega];rw [← hcb];unfold letB;rw [decide_eq_true_eq];omega⟩,hw⟩) (by show s.size - (i+1)<s.size - i;omega)
    refine yY (Zm rfl (yY (Zv (OV.eb rfl rfl) (Zv (OV.aj rfl rfl) (Zv (OV.not rfl) (Nn ?_))))));refine Cc rfl (fun c60=>?_) (fun c60=>?_)
    ·refine Csr (Za rfl (Nn (WC.az ?_)));refine Xq (Xr (Xr (Xq (Xr ?_))));exact WX.ret1 rfl rfl rfl (fun w' hw=>⟨by clear hw;rw [Jf9 (i:=i) (by omega) (by rw [← hcb];unfold letB;rw [decide_eq_true_eq];omega)],hw.fr⟩)
    refine Ck (Xb (Xn (Cr (Zv (OV.bm (j:=1) rfl rfl (by omega)) (Zm rfl (Nl ?_))))));exact WX.bk (i+1) Y3 (fun w' hw=>⟨⟨by omega,fun j hj=>by rcases Nat.lt_or_ge j i with h | h;exact hz j h;rw [show j=i by omega];rw [← hcb];unfold letB;rw [decide_eq_true_eq];omega⟩,hw⟩) (by show s.size - (i+1)<s.size - i;omega)
   refine yX (yX (yY (Zv (OV.aj rfl rfl) (Zv (OV.aj rfl rfl) (Zm rfl (yY (Zm rfl (yY (Zv (OV.eb rfl rfl) (Zv (OV.aj rfl rfl) (Zv (OV.not rfl) (Nn ?_))))))))))));refine Cc rfl (fun c60=>?_) (fun c60=>?_)
   ·refine Csr (Za rfl (Nn (WC.az ?_)));refine Xq (Xr (Xr (Xq (Xr ?_))));exact WX.ret1 rfl rfl rfl (fun w' hw=>⟨by clear hw;rw [Jf9 (i:=i) (by omega) (by rw [← hcb];unfold letB;rw [decide_eq_true_eq];omega)],hw.fr⟩)
   refine Ck (Xb (Xn (Cr (Zv (OV.bm (j:=1) rfl rfl (by omega)) (Zm rfl (Nl ?_))))));exact WX.bk (i+1) Y3 (fun w' hw=>⟨⟨by omega,fun j hj=>by rcases Nat.lt_or_ge j i with h | h;exact hz j h;rw [show j=i by omega];rw [← hcb];unfold letB;rw [decide_eq_true_eq];omega⟩,hw⟩) (by show s.size - (i+1)<s.size - i;omega)
  refine yX (yX (Zv (OV.aj rfl rfl) (Zm rfl (yY (Zm rfl (yY (Zv (OV.jy rfl rfl) (yY (Zm rfl ?_)))))))));refine Zp (t:=43) rfl (fun g43=>?_) (fun g43=>?_)
  ·refine yY (Zm rfl (yY (Zv (OV.mw rfl rfl) (yY (Zv (OV.am rfl rfl) (Zv (OV.aj rfl rfl) (Zm rfl ?_)))))));refine Zp (t:=48) rfl (fun g48=>?_) (fun g48=>?_)
   ·refine yX (yX (yX (Zu rfl rfl (Zu rfl rfl (yX (Zv (OV.am rfl rfl) (Zm rfl (yX (yX (Zv (OV.am rfl rfl) (Zv (OV.not rfl) (Nn (WC.bu rfl ?_)))))))))))));refine Ck (Xb (Xn (Cr (Zv (OV.bm (j:=1) rfl rfl (by omega)) (Zm rfl (Nl ?_))))));exact WX.bk (i+1) Y3 (fun w' hw=>⟨⟨by omega,fun j hj=>by rcases Nat.lt_or_ge j i with h | h;exact hz j h;rw [show j=i by omega];rw [← hcb];unfold letB;rw [decide_eq_true_eq];omega⟩,hw⟩) (by show s.size - (i+1)<s.size - i;omega)
   refine yY (Zm rfl (yY (Zv (OV.jy rfl rfl) (yY (Zm rfl ?_)))));refine Zp (t:=51) rfl (fun g51=>?_) (fun g51=>?_)
   ·refine yY (Zm rfl (yY (Zv (OV.mw rfl rfl) (yY (Zv (OV.am rfl rfl) (Zv (OV.aj rfl rfl) (Zm rfl ?_)))))));refine Zp (t:=56) rfl (fun g56=>?_) (fun g56=>?_)
    ·refine yX (yX (Zv (OV.am rfl rfl) (Zv (OV.not rfl) (Nn (WC.bu rfl ?_)))));refine Ck (Xb (Xn (Cr (Zv (OV.bm (j:=1) rfl rfl (by omega)) (Zm rfl (Nl ?_))))));exact WX.bk (i+1) Y3 (fun w' hw=>⟨⟨by omega,fun j hj=>by rcases Nat.lt_or_ge j i with h | h;exact hz j h;rw [show j=i by omega];rw [← hcb];unfold letB;rw [decide_eq_true_eq];omega⟩,hw⟩) (by show s.size - (i+1)<s.size - i;omega)
    refine yY (Zm rfl (yY (Zv (OV.eb rfl rfl) (Zv (OV.aj rfl rfl) (Zv (OV.not rfl) (Nn ?_))))));refine Cc rfl (fun c60=>?_) (fun c60=>?_)
    ·refine Csr (Za rfl (Nn (WC.az ?_)));refine Xq (Xr (Xr (Xq (Xr ?_))));exact WX.ret1 rfl rfl rfl (fun w' hw=>⟨by clear hw;rw [Jf9 (i:=i) (by omega) (by rw [← hcb];unfold letB;rw [decide_eq_true_eq];omega)],hw.fr⟩)
    refine Ck (Xb (Xn (Cr (Zv (OV.bm (j:=1) rfl rfl (by omega)) (Zm rfl (Nl ?_))))));exact WX.bk (i+1) Y3 (fun w' hw=>⟨⟨by omega,fun j hj=>by rcases Nat.lt_or_ge j i with h | h;exact hz j h;rw [show j=i by omega];rw [← hcb];unfold letB;rw [decide_eq_true_eq];omega⟩,hw⟩) (by show s.size - (i+1)<s.size - i;omega)
   refine yX (yX (yY (Zv (OV.aj rfl rfl) (Zv (OV.aj rfl rfl) (Zm rfl (yY (Zm rfl (yY (Zv (OV.eb rfl rfl) (Zv (OV.aj rfl rfl) (Zv (OV.not rfl) (Nn ?_))))))))))));refine Cc rfl (fun c60=>?_) (fun c60=>?_)
   ·refine Csr (Za rfl (Nn (WC.az ?_)));refine Xq (Xr (Xr (Xq (Xr ?_))));exact WX.ret1 rfl rfl rfl (fun w' hw=>⟨by clear hw;rw [Jf9 (i:=i) (by omega) (by rw [← hcb];unfold letB;rw [decide_eq_true_eq];omega)],hw.fr⟩)
   refine Ck (Xb (Xn (Cr (Zv (OV.bm (j:=1) rfl rfl (by omega)) (Zm rfl (Nl ?_))))));exact WX.bk (i+1) Y3 (fun w' hw=>⟨⟨by omega,fun j hj=>by rcases Nat.lt_or_ge j i with h | h;exact hz j h;rw [show j=i by omega];rw [← hcb];unfold letB;rw [decide_eq_true_eq];omega⟩,hw⟩) (by show s.size - (i+1)<s.size - i;omega)
  refine yX (yX (yY (Zv (OV.aj rfl rfl) (Zv (OV.aj rfl rfl) (Zm rfl (yY (Zm rfl (yY (Zv (OV.jy rfl rfl) (yY (Zm rfl ?_)))))))))));refine Zp (t:=51) rfl (fun g51=>?_) (fun g51=>?_)
  ·refine yY (Zm rfl (yY (Zv (OV.mw rfl rfl) (yY (Zv (OV.am rfl rfl) (Zv (OV.aj rfl rfl) (Zm rfl ?_)))))));refine Zp (t:=56) rfl (fun g56=>?_) (fun g56=>?_)
   ·refine yX (yX (Zv (OV.am rfl rfl) (Zv (OV.not rfl) (Nn (WC.bu rfl ?_)))));refine Ck (Xb (Xn (Cr (Zv (OV.bm (j:=1) rfl rfl (by omega)) (Zm rfl (Nl ?_))))));exact WX.bk (i+1) Y3 (fun w' hw=>⟨⟨by omega,fun j hj=>by rcases Nat.lt_or_ge j i with h | h;exact hz j h;rw [show j=i by omega];rw [← hcb];unfold letB;rw [decide_eq_true_eq];omega⟩,hw⟩) (by show s.size - (i+1)<s.size - i;omega)
   refine yY (Zm rfl (yY (Zv (OV.eb rfl rfl) (Zv (OV.aj rfl rfl) (Zv (OV.not rfl) (Nn ?_))))));refine Cc rfl (fun c60=>?_) (fun c60=>?_)
   ·refine Csr (Za rfl (Nn (WC.az ?_)));refine Xq (Xr (Xr (Xq (Xr ?_))));exact WX.ret1 rfl rfl rfl (fun w' hw=>⟨by clear hw;rw [Jf9 (i:=i) (by omega) (by rw [← hcb];unfold letB;rw [decide_eq_true_eq];omega)],hw.fr⟩)
   refine Ck (Xb (Xn (Cr (Zv (OV.bm (j:=1) rfl rfl (by omega)) (Zm rfl (Nl ?_))))));exact WX.bk (i+1) Y3 (fun w' hw=>⟨⟨by omega,fun j hj=>by rcases Nat.lt_or_ge j i with h | h;exact hz j h;rw [show j=i by omega];rw [← hcb];unfold letB;rw [decide_eq_true_eq];omega⟩,hw⟩) (by show s.size - (i+1)<s.size - i;omega)
  refine yX (yX (yY (Zv (OV.aj rfl rfl) (Zv (OV.aj rfl rfl) (Zm rfl (yY (Zm rfl (yY (Zv (OV.eb rfl rfl) (Zv (OV.aj rfl rfl) (Zv (OV.not rfl) (Nn ?_))))))))))));refine Cc rfl (fun c60=>?_) (fun c60=>?_)
  ·refine Csr (Za rfl (Nn (WC.az ?_)));refine Xq (Xr (Xr (Xq (Xr ?_))));exact WX.ret1 rfl rfl rfl (fun w' hw=>⟨by clear hw;rw [Jf9 (i:=i) (by omega) (by rw [← hcb];unfold letB;rw [decide_eq_true_eq];omega)],hw.fr⟩)
  refine Ck (Xb (Xn (Cr (Zv (OV.bm (j:=1) rfl rfl (by omega)) (Zm rfl (Nl ?_))))));exact WX.bk (i+1) Y3 (fun w' hw=>⟨⟨by omega,fun j hj=>by rcases Nat.lt_or_ge j i with h | h;exact hz j h;rw [show j=i by omega];rw [← hcb];unfold letB;rw [decide_eq_true_eq];omega⟩,hw⟩) (by show s.size - (i+1)<s.size - i;omega)
 refine Ce (Xe (Xe (Xh (Xn (Csr (Za rfl (Nn (WC.az ?_))))))));exact WX.ret1 rfl rfl rfl (fun w' hw=>⟨by clear hw;rw [show nameB s=true from by unfold nameB;rw [decide_eq_true_eq];exact ⟨by assumption,by omega,by assumption,by omega,by omega,fun j hj=>hz j (by omega)⟩],hw.fr⟩)
theorem Jmh (t:Tm)(w:World):Calls Tryz.prog 150 #[tmV t] w fun e w'=>e=.returned (.bool (badB t))∧Fr0 w w':=by
 refine Jbo (args:=[tmV t]) (fun _=>False) Tryz.func150 rfl Tryz.ntmps150 rfl rfl ?_;refine Csr (WL.box rfl rfl rfl ?_);intro b1;refine Za rfl (Nn (Csr (Zv (OV.lN (cs:=tmC t) rfl T.u26 rfl T.z26 yH) (WL.au (v:=.bool (Jcy t)) (by kernel_rfl) rfl rfl (fun w' hw'=>Jd7 t w') ?_))));refine Zv (OV.not rfl) (Zm rfl ?_);refine Zp (t:=6) rfl (fun g6=>?_) (fun g6=>?_)
 ·refine yY (Zv (OV.lN (cs:=tmC t) rfl T.u26 rfl T.z26 yH) (yY (WL.au (v:=.bool (varB t)) (by kernel_rfl) rfl rfl (fun w' hw'=>Jcs t w') ?_)));refine yY (Zv (OV.not rfl) (Zv (OV.am rfl rfl) (Za rfl (Nn (WC.az ?_)))));exact WX.ret1 rfl rfl rfl (fun w' hw=>⟨by clear hw;simp_all [badB],hw.fr⟩)
 refine yX (yX (yX (Zv (OV.aj rfl rfl) (Za rfl (Nn (WC.az ?_))))));exact WX.ret1 rfl rfl rfl (fun w' hw=>⟨by clear hw;simp_all [badB],hw.fr⟩)
theorem indexF_calls (p:Tm→Bool)(g:Nat)(hg:bodied Tryz.prog g=true)(ts:List Tm)(a:Option Addr)(c:Nat)(hl:ts.length≤1099511627776)(w:World)(hr:RT w a ts)(hp:∀ t w',Keeps w w'→Calls Tryz.prog g #[tmV t] w' fun e w''=>e=.returned (.bool (p t))∧Fr0 w' w''):Calls Tryz.prog 151 #[.slice a ts.length c,.func (.func g) #[] #[]] w fun e w'=>∃ k:Int,e=.returned (.int .i64 k)∧(0≤k↔ts.any p=true)∧Fr0 w w':=by
 refine Jbo (args:=[.slice a ts.length c,.func (.func g) #[] #[]]) (fun _=>False) Tryz.func151 rfl Tryz.ntmps151 rfl rfl ?_;refine Csr (Za rfl (Nn (Cs (Csr (Zm rfl (Zv (OV.ae rfl T.u27) (Zm rfl (Nn (Cb ?_)))))))))
 refine WC.cm (fun (i:Nat)=>[(0,.slice a ts.length c),(1,.func (.func g) #[] #[]),(7,.int .i64 (ts.length:Int)),(8,.int .i64 (i:Int))])
   (fun i w'=>(i≤ts.length∧∀ (j:Nat) u,j<i→ts[j]?=some u→p u=false)∧Sat0 w ([]) w')
   (fun i=>ts.length - i) 0 Y4 (fun w' hw=>⟨⟨by omega,by intro j u hj;omega⟩,hw⟩) ?_
 intro i;refine WC.pure (fun hi=>?_);obtain ⟨hi,hz⟩:=hi;refine Csr (Zv (OV.cq rfl rfl) (Nn (Cs ?_)));refine Cc rfl (fun c9=>?_) (fun c9=>?_)
 ·refine Ck (Xn (Cs (Cb (Csr (Zm rfl (Za rfl (Nn (Csr (Zm rfl (Zm rfl (Zm rfl ?_)))))))))));obtain ⟨q1,t,rfl,ht,htm,htd,hcell⟩:=hr.get (i:=i) (by omega);refine Zv ((OV.ad rfl rfl T.u27 T.z26 (by omega)).cast (u:=.pointer (some (q1.add (i*3)))) (by rw [xN])) (Zv (OV.ai (cs:=tmC t) rfl T.u26 rfl T.z26 (fun _ hw j v hj=>hw.keeps _ _ (hcell j v hj))) (WL.gx (ι:=Unit) (f:=g) (caps:=[]) (vs:=[tmV t]) (vv:=fun _=>.bool (p t)) (SS:=fun _=>Sat0 w ([])) hg rfl rfl rfl (fun w' hw'=>(hp t w' hw'.keeps).mono (fun en w'' ⟨h1,h2⟩=>⟨(),h1,hw'.keep h2⟩)) ?_));intro _;refine Nn ?_;refine Cc rfl (fun c16=>?_) (fun c16=>?_)
  ·refine Csr (Zm rfl (Za rfl (Nn (WC.az ?_))));refine Xq (Xr (Xr (Xq (Xr ?_))));exact WX.ret1 rfl rfl rfl (fun w' hw=>⟨(i:Int),rfl,⟨fun _=>List.any_eq_true.2 ⟨t,htm,c16⟩,fun _=>by omega⟩,hw.fr⟩)
  refine Ck (Xb (Xn (Cr (Zv (OV.bm (j:=1) rfl rfl (by omega)) (Zm rfl (Nl ?_))))))
  exact WX.bk (i+1) Y4 (fun w' hw=>⟨⟨by omega,fun j u hj hu=>by
   rcases Nat.lt_or_ge j i with h | h
   ·exact hz j u h hu
   ·rw [show j=i by omega] at hu;rw [← xH (ht.symm.trans hu)]
    simpa using c16⟩,hw⟩) (by show ts.length - (i+1)<ts.length - i;omega)
 refine Ce (Xe (Xe (Xh (Xn (Csr (Za rfl (Nn (WC.az ?_))))))))
 exact WX.ret1 rfl rfl rfl (fun w' hw=>⟨-1,rfl,⟨fun h=>absurd h (by omega),fun h=>by
  obtain ⟨u,hu,hpu⟩:=List.any_eq_true.1 h;obtain ⟨j,hj⟩:=List.mem_iff_getElem?.1 hu;rw [hz j u (by have:=(List.getElem?_eq_some_iff.1 hj).1;omega) hj] at hpu;cases hpu⟩,hw.fr⟩)
theorem Jij (p:Tm→Bool)(g:Nat)(hg:bodied Tryz.prog g=true)(ts:List Tm)(a:Option Addr)(c:Nat)(hl:ts.length≤1099511627776)(w:World)(hr:RT w a ts)(hp:∀ t w',Keeps w w'→Calls Tryz.prog g #[tmV t] w' fun e w''=>e=.returned (.bool (p t))∧Fr0 w' w''):Calls Tryz.prog 103 #[.slice a ts.length c,.func (.func g) #[] #[]] w fun e w'=>e=.returned (.bool (ts.any p))∧Fr0 w w':=by
 refine Jbo (args:=[.slice a ts.length c,.func (.func g) #[] #[]]) (fun _=>False) Tryz.func103 rfl Tryz.ntmps103 rfl rfl ?_;refine Csr (Za rfl (Nn (Csr (Zm rfl (Zm rfl (WL.mp (ι:=Int) (vs:=[.slice a ts.length c,.func (.func g) #[] #[]]) (vv:=fun k=>.int .i64 k) (SS:=fun k w'=>(0≤k↔ts.any p=true)∧Sat0 w ([]) w') (by kernel_rfl) rfl rfl (fun w' hw'=>(indexF_calls p g hg ts a c hl w' (hr.keeps hw'.keeps) (fun t w'' hk=>hp t w'' (hw'.keeps.trans hk))).mono (fun en w'' ⟨k,h1,h2,h3⟩=>⟨k,h1,h2,hw'.keep h3⟩)) ?_))))));intro k;refine WL.pure (fun hk=>?_);refine Zv (OV.jy rfl rfl) (Za rfl (Nn (WC.az ?_)));exact WX.ret1 rfl rfl rfl (fun w' hw=>⟨by congr 2;rw [Bool.eq_iff_iff,decide_eq_true_eq];exact hk,hw.fr⟩)
theorem Jk8 (x:At)(a:Option Addr)(c:Nat)(hl:x.args.length≤1099511627776)(hs:x.name.size≤1099511627776)(w:World)(hN:Jdb w)(hr:RT w a x.args):Calls Tryz.prog 102 #[atV x a c] w fun e w'=>e=.returned (.int .i64 (chkA x))∧Fr0 w w':=by
 refine Jbo (args:=[atV x a c]) (fun _=>False) Tryz.func102 rfl Tryz.ntmps102 rfl rfl ?_;refine Csr (WL.box rfl rfl rfl ?_);intro b1;refine Za rfl (Nn (Cs (Cb (Csr (Zv (OV.f0 3 rfl T.u29 rfl) (Zv (OV.ah rfl T.u9 rfl (fun _ hw=>Jbn hw yH rfl)) (WL.au (v:=.bool (nameB x.name)) (by kernel_rfl) rfl rfl (fun w' hw'=>name_calls x.name hs w') ?_)))))));refine Zv (OV.not rfl) (Za rfl (Nn ?_));refine Cc rfl (fun c3=>?_) (fun c3=>?_)
 ·refine Csr (Za rfl (Nn (WC.az ?_)));refine Xq (Xr ?_);exact WX.ret1 rfl rfl rfl (fun w' hw=>⟨by clear hw;congr 2;simp_all [chkA] <;> (repeat' split) <;> first | omega | (exfalso;omega) | (rename_i hh;obtain ⟨y,h1,h2⟩:=hh;rw [c30 y h1] at h2;cases h2) | simp_all,hw.fr⟩)
 refine Csr (Zv (OV.f0 4 rfl T.u29 rfl) (Zv (OV.ah rfl T.u27 rfl (fun _ hw=>Jbn hw yH rfl)) (Zv (OV.ae rfl T.u27) (Zv (OV.lj rfl rfl) (Za rfl (Nn ?_))))));refine Cc rfl (fun c8=>?_) (fun c8=>?_)
 ·refine Csr (Za rfl (Nn (WC.az ?_)));refine Xq (Xr ?_);exact WX.ret1 rfl rfl rfl (fun w' hw=>⟨by clear hw;congr 2;simp_all [chkA] <;> (repeat' split) <;> first | omega | (exfalso;omega) | (rename_i hh;obtain ⟨y,h1,h2⟩:=hh;rw [c30 y h1] at h2;cases h2) | simp_all,hw.fr⟩)
 refine Csr (Zv (OV.f0 0 rfl T.u29 rfl) (Zv (OV.ai (cs:=tmC x.b) rfl T.u26 rfl T.z26 (fun _ hw j v hj=>by rw [Jap];exact Jbv hw yH (o:=0) (cs':=tmC x.b) rfl j v hj)) (Zv (OV.ai (cs:=tmC T0) rfl T.u26 rfl T.z26 (fun _ hw j v hj=>by rw [Jap,xM];exact hw.keeps _ _ (hN j v hj))) (Zv (OV.li (a:=x.b) (b:=T0) rfl rfl) (Zm rfl ?_)))));refine Zp (t:=18) rfl (fun g18=>?_) (fun g18=>?_)
 ·refine yY (Zv (OV.f0 0 rfl T.u29 rfl) (yY (Zv (OV.ai (cs:=tmC x.b) rfl T.u26 rfl T.z26 (fun _ hw j v hj=>by rw [Jap];exact Jbv hw yH (o:=0) (cs':=tmC x.b) rfl j v hj)) (yY (WL.au (v:=.bool (prinB x.b)) (by kernel_rfl) rfl rfl (fun w' hw'=>prin_calls x.b w') ?_)))));refine yY (Zv (OV.not rfl) (Zv (OV.am rfl rfl) (Zm rfl ?_)));refine Zp (t:=24) rfl (fun g24=>?_) (fun g24=>?_)
  ·refine yY (Zv (OV.f0 0 rfl T.u29 rfl) (yY (Zv (OV.ai (cs:=tmC x.b) rfl T.u26 rfl T.z26 (fun _ hw j v hj=>by rw [Jap];exact Jbv hw yH (o:=0) (cs':=tmC x.b) rfl j v hj)) (yY (WL.au (v:=.bool (varB x.b)) (by kernel_rfl) rfl rfl (fun w' hw'=>Jcs x.b w') ?_)))));refine yY (Zv (OV.not rfl) (Zv (OV.am rfl rfl) (Za rfl (Nn ?_))));refine Cc rfl (fun c13=>?_) (fun c13=>?_)
   ·refine Csr (Za rfl (Nn (WC.az ?_)));refine Xq (Xr ?_);exact WX.ret1 rfl rfl rfl (fun w' hw=>⟨by clear hw;congr 2;simp_all [chkA] <;> (repeat' split) <;> first | omega | (exfalso;omega) | (rename_i hh;obtain ⟨y,h1,h2⟩:=hh;rw [c30 y h1] at h2;cases h2) | simp_all,hw.fr⟩)
   refine Csr (Zv (OV.f0 4 rfl T.u29 rfl) (Zv (OV.ah rfl T.u27 rfl (fun _ hw=>Jbn hw yH rfl)) (WL.c0 (v:=.bool (x.args.any badB)) (vs:=[.slice a x.args.length c,.func (.func 150) #[] #[]]) (fun w' hw'=>Jij badB 150 (by kernel_rfl) x.args a c hl w' (hr.keeps hw'.keeps) (fun t w'' _=>Jmh t w'')) ?_)));refine Za rfl (Nn ?_);refine Cc rfl (fun c30=>?_) (fun c30=>?_)
   ·refine Csr (Za rfl (Nn (WC.az ?_)));refine Xq (Xr ?_);exact WX.ret1 rfl rfl rfl (fun w' hw=>⟨by clear hw;congr 2;simp_all [chkA] <;> (repeat' split) <;> first | omega | (exfalso;omega) | (rename_i hh;obtain ⟨y,h1,h2⟩:=hh;rw [c30 y h1] at h2;cases h2) | simp_all,hw.fr⟩)
   refine Ck (Xb (Xn (Csr (Za rfl (Nn (WC.az ?_))))));exact WX.ret1 rfl rfl rfl (fun w' hw=>⟨by clear hw;congr 2;simp_all [chkA] <;> (repeat' split) <;> first | omega | (exfalso;omega) | (rename_i hh;obtain ⟨y,h1,h2⟩:=hh;rw [c30 y h1] at h2;cases h2) | simp_all,hw.fr⟩)
  refine yX (yX (yX (yX (Zv (OV.aj rfl rfl) (Za rfl (Nn (WC.bu rfl ?_)))))));refine Csr (Zv (OV.f0 4 rfl T.u29 rfl) (Zv (OV.ah rfl T.u27 rfl (fun _ hw=>Jbn hw yH rfl)) (WL.c0 (v:=.bool (x.args.any badB)) (vs:=[.slice a x.args.length c,.func (.func 150) #[] #[]]) (fun w' hw'=>Jij badB 150 (by kernel_rfl) x.args a c hl w' (hr.keeps hw'.keeps) (fun t w'' _=>Jmh t w'')) ?_)));refine Za rfl (Nn ?_);refine Cc rfl (fun c30=>?_) (fun c30=>?_)
  ·refine Csr (Za rfl (Nn (WC.az ?_)));refine Xq (Xr ?_);exact WX.ret1 rfl rfl rfl (fun w' hw=>⟨by clear hw;congr 2;simp_all [chkA] <;> (repeat' split) <;> first | omega | (exfalso;omega) | (rename_i hh;obtain ⟨y,h1,h2⟩:=hh;rw [c30 y h1] at h2;cases h2) | simp_all,hw.fr⟩)
  refine Ck (Xb (Xn (Csr (Za rfl (Nn (WC.az ?_))))));exact WX.ret1 rfl rfl rfl (fun w' hw=>⟨by clear hw;congr 2;simp_all [chkA] <;> (repeat' split) <;> first | omega | (exfalso;omega) | (rename_i hh;obtain ⟨y,h1,h2⟩:=hh;rw [c30 y h1] at h2;cases h2) | simp_all,hw.fr⟩)
 refine yX (yX (yX (yX (Zv (OV.aj rfl rfl) (Zm rfl (yX (yX (yX (yX (Zv (OV.aj rfl rfl) (Za rfl (Nn (WC.bu rfl ?_)))))))))))));refine Csr (Zv (OV.f0 4 rfl T.u29 rfl) (Zv (OV.ah rfl T.u27 rfl (fun _ hw=>Jbn hw yH rfl)) (WL.c0 (v:=.bool (x.args.any badB)) (vs:=[.slice a x.args.length c,.func (.func 150) #[] #[]]) (fun w' hw'=>Jij badB 150 (by kernel_rfl) x.args a c hl w' (hr.keeps hw'.keeps) (fun t w'' _=>Jmh t w'')) ?_)));refine Za rfl (Nn ?_);refine Cc rfl (fun c30=>?_) (fun c30=>?_)
 ·refine Csr (Za rfl (Nn (WC.az ?_)));refine Xq (Xr ?_);exact WX.ret1 rfl rfl rfl (fun w' hw=>⟨by clear hw;congr 2;simp_all [chkA] <;> (repeat' split) <;> first | omega | (exfalso;omega) | (rename_i hh;obtain ⟨y,h1,h2⟩:=hh;rw [c30 y h1] at h2;cases h2) | simp_all,hw.fr⟩)
 refine Ck (Xb (Xn (Csr (Za rfl (Nn (WC.az ?_))))));exact WX.ret1 rfl rfl rfl (fun w' hw=>⟨by clear hw;congr 2;simp_all [chkA] <;> (repeat' split) <;> first | omega | (exfalso;omega) | (rename_i hh;obtain ⟨y,h1,h2⟩:=hh;rw [c30 y h1] at h2;cases h2) | simp_all,hw.fr⟩)
theorem fact_calls (x:At)(a:Option Addr)(c:Nat)(hl:x.args.length≤1099511627776)(hs:x.name.size≤1099511627776)(w:World)(hN:Jdb w)(hr:RT w a x.args):Calls Tryz.prog 64 #[atV x a c] w fun e w'=>e=.returned (.bool (factB x))∧Fr0 w w':=by
 refine Jbo (args:=[atV x a c]) (fun _=>False) Tryz.func64 rfl Tryz.ntmps64 rfl rfl ?_;refine Csr (WL.box rfl rfl rfl ?_);intro b1;refine Za rfl (Nn (Csr (Zv (OV.lN (cs:=atC x a c) rfl T.u29 rfl T.z29 yH) (WL.au (v:=.int .i64 (chkA x)) (by kernel_rfl) rfl rfl (fun w' hw'=>Jk8 x a c hl hs w' (hN.keeps hw'.keeps) (hr.keeps hw'.keeps)) ?_))));refine Zv (OV.eb rfl rfl) (Zm rfl ?_);refine Zp (t:=6) rfl (fun g6=>?_) (fun g6=>?_)
 ·refine yY (Zv (OV.f0 0 rfl T.u29 rfl) (yY (Zv (OV.ai (cs:=tmC x.b) rfl T.u26 rfl T.z26 (fun _ hw j v hj=>by rw [Jap];exact Jbv hw yH (o:=0) (cs':=tmC x.b) rfl j v hj)) (yY (WL.au (v:=.bool (varB x.b)) (by kernel_rfl) rfl rfl (fun w' hw'=>Jcs x.b w') ?_)))));refine yY (Zv (OV.not rfl) (Zv (OV.am rfl rfl) (Zm rfl ?_)));refine Zp (t:=12) rfl (fun g12=>?_) (fun g12=>?_)
  ·refine yY (Zv (OV.f0 4 rfl T.u29 rfl) (yY (Zv (OV.ah rfl T.u27 rfl (fun _ hw=>Jbn hw yH rfl)) (yY (WL.c0 (v:=.bool (x.args.any varB)) (vs:=[.slice a x.args.length c,.func (.func 38) #[] #[]]) (fun w' hw'=>Jij varB 38 (by kernel_rfl) x.args a c hl w' (hr.keeps hw'.keeps) (fun t w'' _=>Jcs t w'')) ?_)))));refine yY (Zv (OV.not rfl) (Zv (OV.am rfl rfl) (Za rfl (Nn (WC.az ?_)))));exact WX.ret1 rfl rfl rfl (fun w' hw=>⟨by clear hw;congr 2;simp_all [factB],hw.fr⟩)
  refine yX (yX (yX (yX (Zv (OV.aj rfl rfl) (Za rfl (Nn (WC.az ?_)))))));exact WX.ret1 rfl rfl rfl (fun w' hw=>⟨by clear hw;congr 2;simp_all [factB],hw.fr⟩)
 refine yX (yX (yX (yX (Zv (OV.aj rfl rfl) (Zm rfl (yX (yX (yX (yX (Zv (OV.aj rfl rfl) (Za rfl (Nn (WC.az ?_)))))))))))));exact WX.ret1 rfl rfl rfl (fun w' hw=>⟨by clear hw;congr 2;simp_all [factB],hw.fr⟩)
structure CmpOK {α:Type} (f:α→α→Int):Prop where
 refl:∀ a,f a a=0
 anti:∀ a b,f b a=- f a b
 tr:∀ a b c,f a b<0→f b c<0→f a c<0
 eq:∀ a b,f a b=0→a=b
theorem cmpN_ok:CmpOK cmpN where
 refl a:=by unfold cmpN;omega
 anti a b:=by unfold cmpN;split <;> split <;> omega
 tr a b c:=by unfold cmpN;intro h1 h2;split at h1 <;> split at h2 <;> (try split) <;> (try split at h1) <;> (try split at h2) <;> (try split) <;> omega
 eq a b:=by unfold cmpN;intro h;split at h <;> (try split at h) <;> omega
theorem CmpOK.lex {α β:Type}{f:α→α→Int}{g:β→β→Int}(hf:CmpOK f)(hg:CmpOK g):CmpOK (fun a b:α × β=>if f a.1 b.1≠0 then f a.1 b.1 else g a.2 b.2) where
 refl a:=by simp [hf.refl,hg.refl]
 anti a b:=by
  (try simp only)
  by_cases h:f a.1 b.1=0
  ·rw [if_neg (by rw [hf.anti,h];simp),if_neg (by simp [h]),hg.anti]
  ·rw [if_pos (by rw [hf.anti];omega),if_pos h,hf.anti]
 tr a b c:=by
  (try simp only)
  intro h1 h2
  by_cases e1:f a.1 b.1=0
  ·rw [if_neg (by simp [e1])] at h1;have:=hf.eq _ _ e1;rw [this]
   by_cases e2:f b.1 c.1=0
   ·rw [if_neg (by simp [e2])] at h2 ⊢;exact hg.tr _ _ _ h1 h2
   ·rw [if_pos e2] at h2 ⊢;exact h2
  ·rw [if_pos e1] at h1
   by_cases e2:f b.1 c.1=0
   ·have:=hf.eq _ _ e2;rw [← this,if_pos e1];exact h1
   ·rw [if_pos e2] at h2;have h3:=hf.tr _ _ _ h1 h2;rw [if_pos (by omega)];exact h3
 eq a b:=by
  (try simp only)
  intro h
  by_cases e1:f a.1 b.1=0
  ·rw [if_neg (by simp [e1])] at h;exact Prod.ext (hf.eq _ _ e1) (hg.eq _ _ h)
  ·rw [if_pos e1] at h;exact absurd h e1
theorem CmpOK.pull {α β:Type}{f:β→β→Int}(hf:CmpOK f)(m:α→β)(hm:∀ a b,m a=m b→a=b):CmpOK (fun a b=>f (m a) (m b)):=
 ⟨fun a=>hf.refl _,fun a b=>hf.anti _ _,fun a b c h1 h2=>hf.tr _ _ _ h1 h2,fun a b h=>hm _ _ (hf.eq _ _ h)⟩
theorem CmpOK.swo {α:Type}{f:α→α→Int}(hf:CmpOK f):Go.Sort.SWO (Go.Proofs.ltOf f) where
 irrefl a:=by simp [Go.Proofs.ltOf,hf.refl]
 trans a b c h1 h2:=by simp only [Go.Proofs.ltOf,decide_eq_true_eq] at *;exact hf.tr _ _ _ h1 h2
 ntrans a b c h1 h2:=by
  simp only [Go.Proofs.ltOf,decide_eq_false_iff_not] at *;intro h;have e1:=hf.anti a c;rcases Int.lt_trichotomy (f a b) 0 with h3 | h3 | h3
  ·exact h1 h3
  ·have:=hf.eq _ _ h3;rw [this] at h;exact h2 h
  ·have h4:f b a<0:=by rw [hf.anti];omega
   have h5:=hf.tr _ _ _ h4 h;exact h2 h5
def Jb0 {α:Type}(f:α→α→Int):List α→List α→Int
 | [],[]=>0
 | [],_::_=>-1
 | _::_,[]=>1
 | a::ls,b::ms=>if f a b≠0 then f a b else Jb0 f ls ms
theorem cmpList_refl {α:Type}{f:α→α→Int}(hf:CmpOK f):∀ a,Jb0 f a a=0
 | []=>rfl
 | a::ls=>by rw [Jb0,hf.refl];simpa using cmpList_refl hf ls
theorem cmpList_anti {α:Type}{f:α→α→Int}(hf:CmpOK f):∀ a b,Jb0 f b a=- Jb0 f a b
 | [],[]=>rfl
 | [],_::_=>rfl
 | _::_,[]=>rfl
 | a::ls,b::ms=>by
  rw [Jb0,Jb0,hf.anti a b]
  by_cases h:f a b=0
  ·rw [if_neg (by simp [h]),if_neg (by simp [h])];exact cmpList_anti hf ls ms
  ·rw [if_pos (by omega),if_pos h]
theorem cmpList_eq {α:Type}{f:α→α→Int}(hf:CmpOK f):∀ a b,Jb0 f a b=0→a=b
 | [],[],_=>rfl
 | [],_::_,h=>by simp [Jb0] at h
 | _::_,[],h=>by simp [Jb0] at h
 | a::ls,b::ms,h=>by
  rw [Jb0] at h
  by_cases h1:f a b=0
  ·rw [if_neg (by simp [h1])] at h;rw [hf.eq _ _ h1,cmpList_eq hf ls ms h]
  ·rw [if_pos h1] at h;exact absurd h h1
theorem cmpList_tr {α:Type}{f:α→α→Int}(hf:CmpOK f):∀ a b c,Jb0 f a b<0→Jb0 f b c<0→Jb0 f a c<0
 | [],[],_,h,_=>by simp [Jb0] at h
 | [],_::_,[],_,h=>by simp [Jb0] at h
 | [],_::_,_::_,_,_=>by simp [Jb0]
 | _::_,[],_,h,_=>by simp [Jb0] at h
 | _::_,_::_,[],_,h=>by simp [Jb0] at h
 | a::ls,b::ms,c::ns,h1,h2=>by
  rw [Jb0] at *
  by_cases e1:f a b=0
  ·rw [if_neg (by simp [e1])] at h1;have:=hf.eq _ _ e1;subst this
   by_cases e2:f a c=0
   ·rw [if_neg (by simp [e2])] at h2 ⊢;exact cmpList_tr hf ls ms ns h1 h2
   ·rw [if_pos e2] at h2 ⊢;exact h2
  ·rw [if_pos e1] at h1
   by_cases e2:f b c=0
   ·have:=hf.eq _ _ e2;subst this;rw [if_pos e1];exact h1
   ·rw [if_pos e2] at h2;have h3:=hf.tr _ _ _ h1 h2;rw [if_pos (by omega)];exact h3
theorem Jgw {α:Type}{f:α→α→Int}(hf:CmpOK f):CmpOK (Jb0 f):=⟨cmpList_refl hf,cmpList_anti hf,cmpList_tr hf,cmpList_eq hf⟩
theorem u8_ok:CmpOK (fun a b:UInt8=>cmpN a.toNat b.toNat):=cmpN_ok.pull (fun a:UInt8=>(a.toNat:Int)) (fun a b h=>UInt8.toNat_inj.1 (Int.ofNat.inj h))
theorem cmp_step (m n:Nat)(c d:Int)(h:c=d):(if m<n then (-1:Int) else if n<m then 1 else c)=if cmpN m n≠0 then cmpN m n else d:=by
 subst h;unfold cmpN
 by_cases h1:m<n
 ·have h1':(m:Int)<n:=by omega
  simp [h1,h1']
 ·have h1':¬ (m:Int)<n:=by omega
  by_cases h2:n<m
  ·have h2':(n:Int)<m:=by omega
   simp [h1,h2,h1',h2']
  ·have h2':¬ (n:Int)<m:=by omega
   simp [h1,h2,h1',h2']
theorem compareBytes_eq:∀ a b:List UInt8,Lib.compareBytes a b=Jb0 (fun a b:UInt8=>cmpN a.toNat b.toNat) a b
 | [],[]=>rfl
 | [],_::_=>rfl
 | _::_,[]=>rfl
 | a::l,b::m=>by
  rw [Lib.compareBytes,Jb0];exact cmp_step a.toNat b.toNat _ _ (compareBytes_eq l m)
theorem ba_ext {a b:ByteArray}(h:a.data.toList=b.data.toList):a=b:=by
 obtain ⟨⟨a⟩⟩:=a;obtain ⟨⟨b⟩⟩:=b;simp at h;rw [h]
theorem cmpS_ok:CmpOK cmpS:=by
 have h:=(Jgw u8_ok).pull (fun s:ByteArray=>s.data.toList) (fun a b h=>ba_ext h)
 have e:cmpS=fun a b:ByteArray=>Jb0 (fun a b:UInt8=>cmpN a.toNat b.toNat) a.data.toList b.data.toList:=by
  funext a b;exact compareBytes_eq _ _
 rw [e];exact h
theorem Jn1:CmpOK cmpT:=by
 have h:=(cmpN_ok.lex (cmpN_ok.lex cmpS_ok)).pull (fun t:Tm=>(t.kind,t.n,t.s)) (fun a b h=>by cases a;cases b;simp at h;simp [h])
 have e:cmpT=fun a b:Tm=>if cmpN a.kind b.kind≠0 then cmpN a.kind b.kind else if cmpN a.n b.n≠0 then cmpN a.n b.n else cmpS a.s b.s:=by
  funext a b;simp only [cmpT,orL];split <;> (try rfl);split <;> (try rfl);split <;> omega
 rw [e];exact h
def cmpA (x y:At):Int:=if orL [cmpS x.name y.name,cmpN x.args.length y.args.length,cmpT x.b y.b]≠0 then orL [cmpS x.name y.name,cmpN x.args.length y.args.length,cmpT x.b y.b] else Jb0 cmpT x.args y.args
theorem or3 (a b c d:Int):(if orL [a,b,c]≠0 then orL [a,b,c] else d)=if a≠0 then a else if b≠0 then b else if c≠0 then c else d:=by
 simp only [orL]
 by_cases h1:a=0
 ·by_cases h2:b=0
  ·by_cases h3:c=0 <;> simp [h1,h2,h3]
  ·simp [h1,h2]
 ·simp [h1]
theorem cmpA_eq (x y:At):cmpA x y=if cmpS x.name y.name≠0 then cmpS x.name y.name else if cmpN x.args.length y.args.length≠0 then cmpN x.args.length y.args.length else if cmpT x.b y.b≠0 then cmpT x.b y.b else Jb0 cmpT x.args y.args:=or3 _ _ _ _
theorem cmpA_ok:CmpOK cmpA:=by
 have hl:CmpOK (fun a b:List Tm=>if cmpN a.length b.length≠0 then cmpN a.length b.length else Jb0 cmpT a b):=by
  have hh:=Jgw Jn1;refine ⟨fun a=>by simp [cmpN_ok.refl,hh.refl],fun a b=>?_,fun a b c h1 h2=>?_,fun a b h=>?_⟩
  ·(try simp only)
   by_cases h:cmpN (a.length:Int) b.length=0
   ·rw [if_neg (by rw [cmpN_ok.anti,h];simp),if_neg (by simp [h]),hh.anti]
   ·rw [if_pos (by rw [cmpN_ok.anti];omega),if_pos h,cmpN_ok.anti]
  ·(try simp only at *)
   by_cases e1:cmpN (a.length:Int) b.length=0
   ·rw [if_neg (by simp [e1])] at h1;have hl:=cmpN_ok.eq _ _ e1;rw [hl]
    by_cases e2:cmpN (b.length:Int) c.length=0
    ·rw [if_neg (by simp [e2])] at h2 ⊢;exact hh.tr _ _ _ h1 h2
    ·rw [if_pos e2] at h2 ⊢;exact h2
   ·rw [if_pos e1] at h1
    by_cases e2:cmpN (b.length:Int) c.length=0
    ·have hl:=cmpN_ok.eq _ _ e2;rw [← hl,if_pos e1];exact h1
    ·rw [if_pos e2] at h2;have h3:=cmpN_ok.tr _ _ _ h1 h2;rw [if_pos (by omega)];exact h3
  ·(try simp only at h)
   by_cases e1:cmpN (a.length:Int) b.length=0
   ·rw [if_neg (by simp [e1])] at h;exact hh.eq _ _ h
   ·rw [if_pos e1] at h;exact absurd h e1
 have hb:=cmpN_ok.lex (Jn1.lex (Jgw Jn1));have h:=(cmpS_ok.lex hb).pull (fun x:At=>(x.name,(x.args.length:Int),x.b,x.args)) (fun a b h=>by cases a;cases b;simp at h;simp [h])
 have e:cmpA=fun x y:At=>if cmpS x.name y.name≠0 then cmpS x.name y.name else if cmpN x.args.length y.args.length≠0 then cmpN x.args.length y.args.length else if cmpT x.b y.b≠0 then cmpT x.b y.b else Jb0 cmpT x.args y.args:=by
  funext x y;exact cmpA_eq x y
 rw [e];exact h
theorem cmpList_drop {l m:List Tm}{i:Nat}{x y:Tm}(hx:l[i]?=some x)(hy:m[i]?=some y)(h:cmpT x y=0):Jb0 cmpT (l.drop i) (m.drop i)=Jb0 cmpT (l.drop (i+1)) (m.drop (i+1)):=by
 obtain ⟨h1,rfl⟩:=List.getElem?_eq_some_iff.1 hx;obtain ⟨h2,rfl⟩:=List.getElem?_eq_some_iff.1 hy;rw [List.drop_eq_getElem_cons h1,List.drop_eq_getElem_cons h2,Jb0,if_neg (by simp [h])]
theorem cmpList_hit {l m:List Tm}{i:Nat}{x y:Tm}(hx:l[i]?=some x)(hy:m[i]?=some y)(h:cmpT x y≠0):Jb0 cmpT (l.drop i) (m.drop i)=cmpT x y:=by
 obtain ⟨h1,rfl⟩:=List.getElem?_eq_some_iff.1 hx;obtain ⟨h2,rfl⟩:=List.getElem?_eq_some_iff.1 hy;rw [List.drop_eq_getElem_cons h1,List.drop_eq_getElem_cons h2,Jb0,if_pos h]
theorem cmpF_calls (ls ms:List Tm)(a1 a2:Option Addr)(c1 c2:Nat)(h1:ls.length≤1099511627776)(h2:ms.length≤1099511627776)(w:World)(hr1:RT w a1 ls)(hr2:RT w a2 ms):Calls Tryz.prog 71 #[.slice a1 ls.length c1,.slice a2 ms.length c2,.func (.func 57) #[] #[]] w fun e w'=>e=.returned (.int .i64 (Jb0 cmpT ls ms))∧Fr0 w w':=by
 refine Jbo (args:=[.slice a1 ls.length c1,.slice a2 ms.length c2,.func (.func 57) #[] #[]]) (fun _=>False) Tryz.func71 rfl Tryz.ntmps71 rfl rfl ?_;refine Csr (Za rfl (Nn (Cs (Csr (Zm rfl (Zv (OV.ae rfl T.u27) (Zm rfl (Nn (Cb ?_)))))))))
 refine WC.cm (fun (i:Nat)=>[(0,.slice a1 ls.length c1),(1,.slice a2 ms.length c2),(2,.func (.func 57) #[] #[]),(11,.slice a1 ls.length c1),(12,.int .i64 (ls.length:Int)),(13,.int .i64 (i:Int))])
   (fun i w'=>(i≤ls.length∧Jb0 cmpT ls ms=Jb0 cmpT (ls.drop i) (ms.drop i))∧Sat0 w ([]) w')
   (fun i=>ls.length - i) 0 Y6 (fun w' hw=>⟨⟨by omega,rfl⟩,hw⟩) ?_
 intro i;refine WC.pure (fun hi=>?_);obtain ⟨hi,hz⟩:=hi;refine Csr (Zv (OV.cq rfl rfl) (Nn (Cs ?_)));refine Cc rfl (fun c14=>?_) (fun c14=>?_)
 ·refine Ck (Xn (Cs (Cb (Csr (Zm rfl ?_)))));obtain ⟨q1,t1,rfl,ht1,_,_,hc1⟩:=hr1.get (i:=i) (by omega);refine Zv ((OV.ad rfl rfl T.u27 T.z26 (by omega)).cast (u:=.pointer (some (q1.add (i*3)))) (by rw [xN])) (Zv (OV.ai (cs:=tmC t1) rfl T.u26 rfl T.z26 (fun _ hw j v hj=>hw.keeps _ _ (hc1 j v hj))) (WL.alloc T.zr26 rfl ?_));intro bb8;refine Za rfl (WL.ag (vs:=tmC t1) rfl rfl rfl T.z26 rfl ?_);refine Nn (Cs (Csr (Zm rfl (Zm rfl (Zv (OV.ae rfl T.u27) (Zv (OV.jy rfl rfl) (Nn ?_)))))));refine Cc rfl (fun c21=>?_) (fun c21=>?_)
  ·refine Csr (Za rfl (Nn (WC.az ?_)));refine Xr (Xq (Xr (Xr (Xq (Xr ?_)))));exact WX.ret1 rfl rfl rfl (fun w' hw=>⟨by congr 2;rw [hz,(show ms.drop i=[] from xW (by omega)),List.drop_eq_getElem_cons (by omega:i<ls.length)];rfl,hw.fr⟩)
  refine Ck (Xn (Csr (Zm rfl (Zm rfl ?_))));obtain ⟨q2,t2,rfl,ht2,_,_,hc2⟩:=hr2.get (i:=i) (by omega);refine Zv ((OV.ad rfl rfl T.u27 T.z26 (by omega)).cast (u:=.pointer (some (q2.add (i*3)))) (by rw [xN])) (Zv (OV.ai (cs:=tmC t2) rfl T.u26 rfl T.z26 (fun _ hw j v hj=>hw.keeps _ _ (hc2 j v hj))) (WL.alloc T.zr26 rfl ?_));intro b9;refine WL.ag (vs:=tmC t2) rfl rfl rfl T.z26 rfl ?_;refine Nn (Csr (Zm rfl (Zv (OV.lN (cs:=tmC t1) rfl T.u26 rfl T.z26 yI) (Zv (OV.lN (cs:=tmC t2) rfl T.u26 rfl T.z26 yH) (WL.gx (ι:=Unit) (f:=57) (caps:=[]) (vs:=[tmV t1,tmV t2]) (vv:=fun _=>.int .i64 (cmpT t1 t2)) (SS:=fun _=>Sat0 w (oQ b9 (tmC t2) 26::oQ bb8 (tmC t1) 26::[])) (by kernel_rfl) rfl rfl rfl (fun w' hw'=>(Jjl t1 t2 w').mono (fun en w'' ⟨h1,h2⟩=>⟨(),h1,hw'.keep h2⟩)) ?_)))));intro _;refine Za rfl (Nn (Csr (Zm rfl (Zv (OV.iu rfl rfl) (Nn ?_)))));refine Cc rfl (fun c31=>?_) (fun c31=>?_)
  ·refine Csr (Zm rfl (Za rfl (Nn (WC.az ?_))));refine Xq (Xr (Xr (Xq (Xr ?_))));exact WX.ret1 rfl rfl rfl (fun w' hw=>⟨by congr 2;rw [hz,cmpList_hit ht1 ht2 (by simpa using c31)],hw.fr⟩)
  refine Ck (Xb (Xn (Cr (Zv (OV.bm (j:=1) rfl rfl (by omega)) (Zm rfl (Nl ?_))))));have h0:cmpT t1 t2=0:=by simpa using c31
  exact WX.bk (i+1) Y6 (fun w' hw=>⟨⟨by omega,by rw [hz,cmpList_drop ht1 ht2 h0]⟩,hw.drop.drop⟩) (by show ls.length - (i+1)<ls.length - i;omega)
 refine Ce (Xe (Xe (Xh (Xn (Cs (Csr (Zm rfl (Zv (OV.ae rfl T.u27) (Zm rfl (Zv (OV.ae rfl T.u27) (Zv (OV.cq rfl rfl) (Nn ?_))))))))))));refine Cc rfl (fun c38=>?_) (fun c38=>?_)
 ·refine Csr (Za rfl (Nn (WC.az ?_)));refine Xr ?_;exact WX.ret1 rfl rfl rfl (fun w' hw=>⟨by congr 2;rw [hz,(show ls.drop i=[] from xW (by omega)),List.drop_eq_getElem_cons (by omega:i<ms.length)];rfl,hw.fr⟩)
 refine Ck (Xn (Csr (Za rfl (Nn (WC.az ?_)))));exact WX.ret1 rfl rfl rfl (fun w' hw=>⟨by congr 2;rw [hz,(show ls.drop i=[] from xW (by omega)),(show ms.drop i=[] from xW (by omega))];rfl,hw.fr⟩)
theorem Jk5 (x y:At)(a1 a2:Option Addr)(c1 c2:Nat)(h1:x.args.length≤1099511627776)(h2:y.args.length≤1099511627776)(w:World)(hr1:RT w a1 x.args)(hr2:RT w a2 y.args):Calls Tryz.prog 29 #[atV x a1 c1,atV y a2 c2] w fun e w'=>e=.returned (.int .i64 (cmpA x y))∧Fr0 w w':=by
 refine Jbo (args:=[atV x a1 c1,atV y a2 c2]) (fun _=>False) Tryz.func29 rfl Tryz.ntmps29 rfl rfl ?_;refine Csr (WL.box rfl rfl rfl ?_);intro b2;refine WL.box rfl rfl rfl ?_;intro b3;refine Za rfl (Nn (Cs (Cs (Hd (fun w'=>w'.heap[b2]?=some (.cells (atC x a1 c1).toArray 29 (0,0))∧w'.heap[b3]?=some (.cells (atC y a2 c2).toArray 29 (0,0))) [] (fun _ hw=>⟨hw.it (oQ b2 (atC x a1 c1) 29) (by simp),hw.it (oQ b3 (atC y a2 c2) 29) (by simp)⟩) (m:=20) rfl ?_))));refine Hf 0 rfl (OV.f0 3 rfl T.u29 rfl) (Ht 1 rfl (OV.ah (v:=.string x.name) rfl T.u9 rfl (fun _ hw=>(Jax hw.1 (o:=3) rfl).1)) (Hf 2 rfl (OV.f0 3 rfl T.u29 rfl) (Ht 3 rfl (OV.ah (v:=.string y.name) rfl T.u9 rfl (fun _ hw=>(Jax hw.2 (o:=3) rfl).1)) (Hf 5 rfl (OV.f0 4 rfl T.u29 rfl) (Ht 6 rfl (OV.ah (v:=.slice a1 x.args.length c1) rfl T.u27 rfl (fun _ hw=>(Jax hw.1 (o:=4) rfl).1)) (Hf 7 rfl (OV.ae rfl T.u27) (Hf 8 rfl (OV.f0 4 rfl T.u29 rfl) (Ht 9 rfl (OV.ah (v:=.slice a2 y.args.length c2) rfl T.u27 rfl (fun _ hw=>(Jax hw.2 (o:=4) rfl).1)) (Hf 10 rfl (OV.ae rfl T.u27) (Hf 12 rfl (OV.f0 0 rfl T.u29 rfl) (Ht 13 rfl (OV.ai (cs:=tmC x.b) rfl T.u26 rfl T.z26 (fun _ hw j v hj=>by rw [Jap];exact Jch hw.1 (o:=0) (cs':=tmC x.b) rfl j v hj)) (Hf 14 rfl (OV.f0 0 rfl T.u29 rfl) (Ht 15 rfl (OV.ai (cs:=tmC y.b) rfl T.u26 rfl T.z26 (fun _ hw j v hj=>by rw [Jap];exact Jch hw.2 (o:=0) (cs':=tmC y.b) rfl j v hj)) (Ho 4 rfl (fl':=false) rfl ?_))))))))))))));refine WL.au (v:=.int .i64 (cmpS x.name y.name)) (by kernel_rfl) rfl rfl (fun w' hw'=>scmp_calls _ _ w') ?_;refine Hc (fun _=>(fun _ hw=>⟨hw.it (oQ b2 (atC x a1 c1) 29) (by simp),hw.it (oQ b3 (atC y a2 c2) 29) (by simp)⟩)) ?_;refine Ho 11 rfl (fl':=false) rfl ?_;refine WL.au (v:=.int .i64 (cmpN x.args.length y.args.length)) (by kernel_rfl) rfl rfl (fun w' hw'=>Jfw _ _ w') ?_;refine Hc (fun _=>(fun _ hw=>⟨hw.it (oQ b2 (atC x a1 c1) 29) (by simp),hw.it (oQ b3 (atC y a2 c2) 29) (by simp)⟩)) ?_;refine Ho 16 rfl (fl':=false) rfl ?_;refine WL.au (v:=.int .i64 (cmpT x.b y.b)) (by kernel_rfl) rfl rfl (fun w' hw'=>Jjl _ _ w') ?_;refine Hc (fun _=>(fun _ hw=>⟨hw.it (oQ b2 (atC x a1 c1) 29) (by simp),hw.it (oQ b3 (atC y a2 c2) 29) (by simp)⟩)) ?_;refine Ho 17 rfl (fl':=false) rfl ?_;refine WL.gy (xs:=[.tmp 10,.tmp 17,.tmp 22]) (vs:=ints [cmpS x.name y.name,cmpN x.args.length y.args.length,cmpT x.b y.b]) rfl T.u51 T.z3 T.zr3 rfl rfl rfl (by decide) rfl ?_;intro b23;refine Hc (fun _=>(fun _ hw=>⟨hw.it (oQ b2 (atC x a1 c1) 29) (by simp),hw.it (oQ b3 (atC y a2 c2) 29) (by simp)⟩)) ?_;refine Ho 18 rfl (fl':=false) rfl ?_;refine WL.au (v:=.int .i64 (orL [cmpS x.name y.name,cmpN x.args.length y.args.length,cmpT x.b y.b])) (by kernel_rfl) rfl rfl (fun w' hw'=>Jnf [cmpS x.name y.name,cmpN x.args.length y.args.length,cmpT x.b y.b] b23 (by simp) w' (hw'.it _ yH)) ?_;refine Hc (fun _=>(fun _ hw=>⟨hw.it (oQ b2 (atC x a1 c1) 29) (by simp),hw.it (oQ b3 (atC y a2 c2) 29) (by simp)⟩)) ?_;refine Hf 19 rfl (OV.assign rfl) (He (Xn (Csr (Zm rfl (Zv (OV.iu rfl rfl) (Nn ?_))))));refine Cc rfl (fun c26=>?_) (fun c26=>?_)
 ·refine Csr (Zm rfl (Za rfl (Nn (WC.az ?_))));refine Xr ?_;exact WX.ret1 rfl rfl rfl (fun w' hw=>⟨by congr 2;unfold cmpA;rw [if_pos (by simpa using c26)],hw.fr⟩)
 refine Ck (Xn (Csr (Zv (OV.f0 4 rfl T.u29 rfl) (Zv (OV.ah rfl T.u27 rfl (fun _ hw=>Jbn hw yJ rfl)) (Zv (OV.f0 4 rfl T.u29 rfl) (Zv (OV.ah rfl T.u27 rfl (fun _ hw=>Jbn hw yI rfl)) (WL.c0 (v:=.int .i64 (Jb0 cmpT x.args y.args)) (vs:=[.slice a1 x.args.length c1,.slice a2 y.args.length c2,.func (.func 57) #[] #[]]) (fun w' hw'=>cmpF_calls x.args y.args a1 a2 c1 c2 h1 h2 w' (hr1.keeps hw'.keeps) (hr2.keeps hw'.keeps)) ?_)))))));refine Za rfl (Nn (WC.az ?_));exact WX.ret1 rfl rfl rfl (fun w' hw=>⟨by congr 2;unfold cmpA;rw [if_neg (by simpa using c26)],hw.fr⟩)
structure BaseG where
 p:Nat
 nb:Option Nat
 va:Option Addr
 vc:Nat
 vs:List Tm
 rb:Nat
 rs:List (Pd × RelG)
def baseC (g:BaseG):List Value:=[.map g.nb,.slice g.va g.vs.length g.vc,.map (some g.rb)]
def numKV (vs:List Tm):List (Tm × Value):=vs.zipIdx.map fun q=>(q.1,.int .i64 (q.2:Int))
def relKV (rs:List (Pd × RelG)):List (Pd × Value):=rs.map fun q=>(q.1,ptr q.2.r)
def nbA (g:BaseG):List Hw.Item:=match g.nb with | none=>[] | some b=>[own b (mapK tmV (numKV g.vs))]
abbrev hdB (g:BaseG):Hw.Item:=oQ g.p (baseC g) 105
abbrev rowT (a:Option Addr)(c:Nat)(ts:List Tm):Hw.Item:=row 26 3 a ts.length c (ts.flatMap tmC)
def tabA (g:BaseG):List Hw.Item:=hdB g::rowT g.va g.vc g.vs::nbA g
def relsA (rs:List (Pd × RelG)):List Hw.Item:=rs.flatMap fun q=>relA q.2
abbrev rbA (g:BaseG):Hw.Item:=own g.rb (mapK pdV (relKV g.rs))
def baseA (g:BaseG):List Hw.Item:=tabA g++(rbA g::relsA g.rs)
def numOf (vs:List Tm)(t:Tm):Option Nat:=vs.findIdx? fun u=>decide (t=u)
theorem numKV_spot (t:Tm):∀ (vs:List Tm) (k i:Nat),spot (vs.zipIdx k |>.map fun q=>(q.1,(Value.int .i64 (q.2:Int)))) t i=(numOf vs t).map fun n=>(i+n,.int .i64 ((k+n:Nat):Int))
 | [],k,i=>rfl
 | u::vs,k,i=>by
  rw [List.zipIdx_cons,yC,spot,numOf,List.findIdx?_cons]
  by_cases h:t=u
  ·simp [h]
  ·simp only [h,if_false,decide_false,Bool.false_eq_true];rw [numKV_spot t vs (k+1) (i+1),numOf];cases List.findIdx? (fun u=>decide (t=u)) vs with
   | none=>rfl
   | some n=>simp only [Option.map_some,Option.some.injEq,Prod.mk.injEq,Value.int.injEq,true_and];omega
theorem numKV_got (vs:List Tm)(t:Tm):got (numKV vs) t=(numOf vs t).map fun n=>.int .i64 (n:Int):=by
 rw [got,numKV,numKV_spot t vs 0 0];cases numOf vs t <;> simp
theorem Jje {vs:List Tm}{t:Tm}{n:Nat}(h:numOf vs t=some n):vs[n]?=some t:=by
 unfold numOf at h;obtain ⟨hl,h1,_⟩:=List.findIdx?_eq_some_iff_getElem.1 h;rw [xD hl];simp only [decide_eq_true_eq] at h1;rw [h1]
theorem numOf_none {vs:List Tm}{t:Tm}:numOf vs t=none↔t∉vs:=by
 unfold numOf;rw [List.findIdx?_eq_none_iff];constructor
 ·intro h hm;have:=h t hm;simp at this
 ·intro h u hu;simp only [decide_eq_false_iff_not];intro e;exact h (e ▸ hu)
theorem Jih {vs:List Tm}(hn:vs.Nodup){t:Tm}{n:Nat}(h:vs[n]?=some t):numOf vs t=some n:=by
 cases hc:numOf vs t with
 | none=>exact absurd (xC h) (numOf_none.1 hc)
 | some m=>
  have h2:=Jje hc;rw [(List.getElem?_inj (List.getElem?_eq_some_iff.1 h).1 hn).1 (h.trans h2.symm)]
theorem numOf_lt {vs:List Tm}{t:Tm}{n:Nat}(h:numOf vs t=some n):n<vs.length:=(List.getElem?_eq_some_iff.1 (Jje h)).1
structure BaseOK (g:BaseG):Prop where
 nb:g.nb=none→g.vs=[]
 vn:g.vs.Nodup
 rn:(g.rs.map (·.1)).Nodup
 ok:∀ x∈g.rs,RelOK x.2
 wd:∀ x∈g.rs,x.2.width=x.1.ar+1
 ar:∀ x∈g.rs,x.1.ar≤8
 inr:∀ x∈g.rs,∀ r∈(rp x.2).map (·.1),∀ k:Int,k∈r→0≤k∧k<(g.vs.length:Int)
 vl:g.vs.length≤1099511627776
 rl:g.rs.length≤1099511627776
 fl:(g.rs.map fun x=>x.2.es.length).sum≤1099511627776
theorem OV.lookupNum {n:Nat}{ds:DS}{e:Env}{S:World→Prop}{dst:Option Tmp}{t:TypeId}{p:String}{af:Array Edge}{g:Option (Nat × Bool)}{x y:Operand}{nb:Option Nat}{vs:List Tm}{u:Tm}(hx:ev e x=some (.map nb))(hy:ev e y=some (tmV u))(h0:nb=none→vs=[])(hc:∀ w,S w→∀ b,nb=some b→w.heap[b]?=some (mapK tmV (numKV vs))):
  OV Tryz.prog n ds e S ⟨dst,.lookup 100 x y true,t,p,af,g⟩ (.tuple #[.int .i64 (((numOf vs u).getD 0:Nat):Int),.bool (numOf vs u).isSome]):=by
 cases nb with
 | some b=>
  have h:=OV.f3 (P:=Tryz.prog) (n:=n) (ds:=ds) (e:=e) (S:=S) (dst:=dst) (t:=t) (p:=p) (af:=af) (g:=g) (kv:=numKV vs) tmKey T.u100 (show Program.zv Tryz.prog 3=some (.int .i64 0) by kernel_rfl) hx hy (fun w hw=>hc w hw b rfl);refine h.cast ?_;rw [numKV_got];cases numOf vs u <;> rfl
 | none=>
  intro a w ha hw
  have e0:(Instr.lookup 100 (.map none) (tmV u) true).run Tryz.prog w=.ok (.tuple #[.int .i64 0,.bool false]) w:=by
   unfold Instr.lookup;simp only [Sem.run_bind,run_underlying T.u100,Result.andThen_ok,Sem.run_pure,tm_check];have h1:=tmKey.find u [] w;simp only [mapEs,List.zipIdx_nil,yD] at h1;simp [h1,spot,run_zv (show Program.zv Tryz.prog 3=some (.int .i64 0) by kernel_rfl)]
  have hv:vs=[]:=h0 rfl;subst hv;simp [execOp,ha.eval hx,ha.eval hy,e0,numOf]
theorem bnew_calls (w:World):Calls Tryz.prog 35 #[] w fun e w'=>∃ p rb,e=.returned (ptr p)∧Turns [] (baseA ⟨p,none,none,0,[],rb,[]⟩) w w':=by
 refine Jbo (args:=[]) (fun _=>False) Tryz.func35 rfl Tryz.ntmps35 rfl rfl ?_;refine Csr (Za rfl (Nn (Csr (WL.makeMap (pdV) rfl ?_))));intro m1;refine Zv (OV.ao (xs:=[(1,.tmp 1)]) (pl:=[(0,2),(2,1)]) (cs:=[.map none,.slice none 0 0,.map (some m1)]) T.u105 T.zr105 (by kernel_rfl) rfl (Jal (us:=[_]) rfl rfl (by first | decide | simp) rfl)) (WL.box rfl rfl rfl ?_);intro b3;refine Za rfl (Nn (WC.az ?_));refine WX.ret1 rfl rfl rfl (fun w' hw=>⟨b3,m1,rfl,?_⟩);exact ((hw.rowNil 26 3).perm (pmP [_,_,_] [1,0,2])).turned0
theorem Jkq (x:At)(a:Option Addr)(c:Nat)(w:World):Calls Tryz.prog 63 #[atV x a c] w fun e w'=>e=.returned (pdV ⟨x.name,x.args.length⟩)∧Fr0 w w':=by
 refine Jbo (args:=[atV x a c]) (fun _=>False) Tryz.func63 rfl Tryz.ntmps63 rfl rfl ?_;refine Csr (WL.box rfl rfl rfl ?_);intro b1;refine WL.alloc T.zr107 rfl ?_;intro b2;refine Nn (Csr (Zv (OV.f0 3 rfl T.u29 rfl) (Zv (OV.l1 (v:=.string x.name) rfl T.u9 rfl yI rfl) (Zv (OV.f0 4 rfl T.u29 rfl) (Zv (OV.l1 (v:=.slice a x.args.length c) rfl T.u27 rfl yI rfl) (Zv (OV.ae rfl T.u27) (Zv (OV.ao (xs:=[(0,.tmp 4),(1,.tmp 7)]) (pl:=[(0,1),(1,1)]) (cs:=pdC ⟨x.name,x.args.length⟩) T.u107 T.zr107 (by kernel_rfl) rfl (Jal (us:=[_]) rfl rfl (by first | decide | simp) (Jal (us:=[_]) rfl rfl (by first | decide | simp) rfl))) (WL.ag (vs:=pdC ⟨x.name,x.args.length⟩) rfl rfl rfl T.z107 rfl ?_))))))));refine Nn (WC.az ?_);exact WX.retC (cs:=pdC ⟨x.name,x.args.length⟩) rfl rfl rfl T.u107 rfl T.z107 (fun w' hw j v hj=>Jbh hw yH j v hj) (fun w' hw=>⟨rfl,hw.fr⟩)
theorem nb_get {w0 ws w:World}{M I:Nat→Prop}{ow:List Hw.Item}{g:BaseG}(h:Sat w0 M I ws ow w)(hm:∀ i∈nbA g,i∈ow):∀ b,g.nb=some b→w.heap[b]?=some (mapK tmV (numKV g.vs)):=by
 intro b hb;exact h.it (own b (mapK tmV (numKV g.vs))) (hm _ (by rw [nbA,hb];exact .head _))
theorem nb_holds {w:World}{g:BaseG}(h:Holds (tabA g) w):∀ b,g.nb=some b→w.heap[b]?=some (mapK tmV (numKV g.vs)):=by
 intro b hb;exact h.φ (own b (mapK tmV (numKV g.vs))) (yV (.tail _ (by rw [nbA,hb];exact .head _)))
theorem known_calls (g:BaseG)(ok:BaseOK g)(t:Tm)(w:World)(hA:Holds (tabA g) w):Calls Tryz.prog 104 #[ptr g.p,tmV t] w fun e w'=>e=.returned (.tuple #[.int .i64 (((numOf g.vs t).getD 0:Nat):Int),.bool (numOf g.vs t).isSome])∧Fr0 w w':=by
 refine Jbo (args:=[ptr g.p,tmV t]) (fun _=>False) Tryz.func104 rfl Tryz.ntmps104 rfl rfl ?_;refine Csr (WL.box rfl rfl rfl ?_);intro b3;refine Za rfl (Za rfl (Nn (Cs (Hq [] (m:=11) rfl ?_))));refine Hf 0 rfl (OV.aw rfl) (Hf 1 rfl (OV.ak rfl) (Hf 2 rfl (OV.f0 0 rfl T.u102 rfl) (Ht 3 rfl (OV.ah (v:=.map g.nb) rfl T.u100 rfl (fun _ hw=>hw.keeps _ _ (Jax (hA.φ _ yH) (o:=0) rfl).1)) (Ht 4 rfl (OV.lN (cs:=tmC t) rfl T.u26 rfl T.z26 yH) ?_))));refine Ht 5 rfl (OV.lookupNum rfl rfl ok.nb (fun _ hw b hb=>(hw.snap b (Array.getElem?_eq_some_iff.1 (nb_holds hA b hb)).1).2.trans (nb_holds hA b hb))) ?_;refine Hf 6 rfl (OV.aw rfl) (Hf 7 rfl (OV.extract rfl rfl) (Hf 8 rfl (OV.extract rfl rfl) (Hf 9 rfl (OV.assign rfl) (Hf 10 rfl (OV.assign rfl) (He (Xn (Csr (Zm rfl (Zm rfl (Za rfl (Za rfl (Nn (WC.az ?_)))))))))))));exact WX.ret2 rfl rfl rfl rfl (fun w' hw=>⟨rfl,hw.fr⟩)
theorem Jid (g:BaseG)(ok:BaseOK g)(i:Nat)(t:Tm)(ht:g.vs[i]?=some t)(w:World)(hA:Holds (tabA g) w):Calls Tryz.prog 97 #[ptr g.p,.int .i64 (i:Int)] w fun e w'=>e=.returned (tmV t)∧Fr0 w w':=by
 refine Jbo (args:=[ptr g.p,.int .i64 (i:Int)]) (fun _=>False) Tryz.func97 rfl Tryz.ntmps97 rfl rfl ?_;refine Csr (WL.alloc T.zr26 rfl ?_);intro b4;refine Nn (Csr (Zm rfl (Zv (OV.ak rfl) (Zv (OV.f0 1 rfl T.u102 rfl) (Zv (OV.ah (v:=.slice g.va g.vs.length g.vc) rfl T.u27 rfl (fun _ hw=>hw.keeps _ _ (Jax (hA.φ _ yH) (o:=1) rfl).1)) (Zm rfl ?_))))));have hil:=(List.getElem?_eq_some_iff.1 ht).1;have hS:Sat w (DD (tabA g)) (fun b=>b<w.heap.size∧¬ DD (tabA g) b) w (tabA g) w:=Sat.startA hA;obtain ⟨q1,t1,hq1,ht1,_,_,hcell⟩:=(RT.of_row (c:=g.vc) rfl hS yI).get hil;obtain rfl:t1=t:=xH (ht1.symm.trans ht);refine Zv ((OV.ad (a:=q1) (show _=some (Value.slice (some q1) g.vs.length g.vc) by rw [← hq1];rfl) rfl T.u27 T.z26 (by omega)).cast (u:=.pointer (some (q1.add (i*3)))) (by rw [xN])) (Zv (OV.ai (cs:=tmC t1) rfl T.u26 rfl T.z26 (fun _ hw j v hj=>hw.keeps _ _ (hcell j v hj))) (WL.ag (vs:=tmC t1) rfl rfl rfl T.z26 rfl ?_));refine Nn (WC.az ?_);exact WX.retC (cs:=tmC t1) rfl rfl rfl T.u26 rfl T.z26 (fun w' hw j v hj=>Jbh hw yH j v hj) (fun w' hw=>⟨rfl,hw.fr⟩)
end Go.Proofs.YtgebaodagaecmaaGreatDoor
