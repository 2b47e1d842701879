/- The text of numbers at base 36: it tells them. Contracts of functions of the program: what each returns and leaves in memory. Printed by gen.py and walk.py. The library's sorts, on a row of the call's own. What a lock does where one goroutine runs. A relation as it lies in memory. -/
import Derived.Test.YtgebaodagaecmaaGreatDoorTy
import Derived.Test.YtgebaodagaecmaaGreatDoorHxFunc
import Derived.Test.YtgebaodagaecmaaGreatDoorHxA
import Derived.Shelf.SlSortCmp.NoneTotal
import Derived.Shelf.SortM.Plain
import Derived.Shelf.SortM.SortNone
import Derived.Laws.LoneSync
set_option maxRecDepth 10000
namespace Go.Proofs.YtgebaodagaecmaaGreatDoor
open Go Go.Hw
set_option linter.unusedSimpArgs false
set_option linter.unusedVariables false
def dig36 (u:Nat):UInt8:=if u<10 then UInt8.ofNat (48+u) else UInt8.ofNat (87+u)
def fmt36 (u:Nat):List UInt8:=if u<36 then [dig36 u] else fmt36 (u / 36)++[dig36 (u % 36)]
decreasing_by omega
def itoa36 (n:Int):List UInt8:=if n<0 then 45::fmt36 n.natAbs else fmt36 n.natAbs
def keyL (l:List Int):List UInt8:=l.flatMap fun n=>itoa36 n++[32]
def keyB (l:List Int):ByteArray:=⟨(keyL l).toArray⟩
theorem Jgc {u:Nat}(h:u<36):fmt36 u=[dig36 u]:=by rw [fmt36,if_pos h]
theorem Jgr {u:Nat}(h:36≤u):fmt36 u=fmt36 (u / 36)++[dig36 (u % 36)]:=by rw [fmt36,if_neg (by omega)]
theorem fmt36_len:∀ (k u:Nat),u<36 ^ (k+1)→(fmt36 u).length≤k+1
 | 0,u,h=>by rw [Jgc (by omega)];simp
 | k+1,u,h=>by
  by_cases hu:u<36
  ·rw [Jgc hu];simp
  ·rw [Jgr (by omega)];have h2:u / 36<36 ^ (k+1):=Nat.div_lt_of_lt_mul (by rw [Nat.pow_succ 36 (k+1),Nat.mul_comm] at h;exact h);have:=fmt36_len k (u / 36) h2;simp only [xL,xQ];omega
theorem itoa36_len {n:Int}(h:-9223372036854775808≤n∧n≤9223372036854775807):(itoa36 n).length≤14:=by
 have h2:n.natAbs<36 ^ (12+1):=by
                      have:(36:Nat) ^ (12+1)=170581728179578208256:=by decide
                      omega
 have:=fmt36_len 12 n.natAbs h2;unfold itoa36
 split
 ·simp only [List.length_cons];omega
 ·omega
def i64s (l:List Int):Prop:=∀ n∈l,-9223372036854775808≤n∧n≤9223372036854775807
theorem keyL_len {l:List Int}(h:i64s l):(keyL l).length≤15*l.length:=by
 induction l with
 | nil=>simp [keyL]
 | cons n l ih=>
  have h1:=itoa36_len (h n yH);have h2:=ih (fun m hm=>h m (.tail _ hm));simp only [keyL,List.flatMap_cons,xL,List.length_cons,List.length_nil] at h2 ⊢;omega
theorem keyL_snoc (l:List Int)(n:Int):keyL (l++[n])=keyL l++itoa36 n++[32]:=by simp [keyL]
theorem dig36_inj:∀ a b:Nat,a<36→b<36→dig36 a=dig36 b→a=b:=by
 intro a b ha hb h;have h1:=congrArg UInt8.toNat h;unfold dig36 at h1
 split at h1 <;> split at h1 <;> simp only [UInt8.toNat_ofNat'] at h1 <;> omega
theorem dig36_ne {a:Nat}(ha:a<36):dig36 a≠32∧dig36 a≠45:=by
 unfold dig36
 split
 ·constructor <;> (intro h;have h1:=congrArg UInt8.toNat h;simp only [UInt8.toNat_ofNat'] at h1;have:(32:UInt8).toNat=32:=rfl;have:(45:UInt8).toNat=45:=rfl;omega)
 ·constructor <;> (intro h;have h1:=congrArg UInt8.toNat h;simp only [UInt8.toNat_ofNat'] at h1;have:(32:UInt8).toNat=32:=rfl;have:(45:UInt8).toNat=45:=rfl;omega)
theorem fmt36_mem (u:Nat):∀ c∈fmt36 u,∃ a,a<36∧c=dig36 a:=by
 induction u using Nat.strongRecOn with
 | _ u ih=>
  intro c hc
  by_cases hu:u<36
  ·rw [Jgc hu] at hc;simp only [xI] at hc;exact ⟨u,hu,hc⟩
  ·rw [Jgr (by omega)] at hc;rcases List.mem_append.1 hc with hc | hc
   ·exact ih (u / 36) (by omega) c hc
   ·simp only [xI] at hc;exact ⟨u % 36,by omega,hc⟩
theorem fmt36_ne (u:Nat):fmt36 u≠[]:=by
 by_cases hu:u<36
 ·rw [Jgc hu];simp
 ·rw [Jgr (by omega)];simp
theorem fmt36_inj:∀ u v:Nat,fmt36 u=fmt36 v→u=v:=by
 intro u
 induction u using Nat.strongRecOn with
 | _ u ih=>
  intro v h
  by_cases hu:u<36 <;> by_cases hv:v<36
  ·rw [Jgc hu,Jgc hv] at h;exact dig36_inj u v hu hv (by simpa using h)
  ·rw [Jgc hu,Jgr (by omega)] at h;have:=congrArg List.length h;have h2:=List.length_pos_iff.2 (fmt36_ne (v / 36));simp only [xL,xQ] at this;omega
  ·rw [Jgc hv,Jgr (by omega)] at h;have:=congrArg List.length h;have h2:=List.length_pos_iff.2 (fmt36_ne (u / 36));simp only [xL,xQ] at this;omega
  ·rw [Jgr (by omega),Jgr (u:=v) (by omega)] at h;have h1:=List.append_inj' h rfl;have h2:=ih (u / 36) (by omega) (v / 36) h1.1;have h3:=dig36_inj (u % 36) (v % 36) (by omega) (by omega) (by simpa using h1.2);omega
theorem itoa36_inj {m n:Int}(h:itoa36 m=itoa36 n):m=n:=by
 have hd:∀ u,(fmt36 u).head?≠some 45:=by
  intro u hh;obtain ⟨c,hc⟩:=List.head?_eq_some_iff.1 hh;obtain ⟨a,ha,he⟩:=fmt36_mem u 45 (by rw [hc];exact .head _);exact (dig36_ne ha).2 he.symm
 unfold itoa36 at h
 split at h <;> split at h
 ·have:=fmt36_inj _ _ (List.tail_eq_of_cons_eq h);omega
 ·exact absurd (by rw [← h];rfl) (hd n.natAbs)
 ·exact absurd (by rw [h];rfl) (hd m.natAbs)
 ·have:=fmt36_inj _ _ h;omega
theorem itoa36_sp (n:Int):∀ c∈itoa36 n,c≠32:=by
 intro c hc;unfold itoa36 at hc
 have key:∀ u,∀ c∈fmt36 u,c≠32:=fun u c hc=>by
  obtain ⟨a,ha,rfl⟩:=fmt36_mem u c hc;exact (dig36_ne ha).1
 split at hc
 ·rcases List.mem_cons.1 hc with rfl | hc
  ·decide
  ·exact key _ c hc
 ·exact key _ c hc
theorem split_sp:∀ {a b x y:List UInt8},(∀ c∈a,c≠32)→(∀ c∈b,c≠32)→a++32::x=b++32::y→a=b∧x=y
 | [],[],x,y,_,_,h=>⟨rfl,by simpa using h⟩
 | [],d::b,x,y,_,hb,h=>by
  simp only [xY,xX,List.cons.injEq] at h;exact absurd h.1.symm (hb d yH)
 | c::a,[],x,y,ha,_,h=>by
  simp only [xY,xX,List.cons.injEq] at h;exact absurd h.1 (ha c yH)
 | c::a,d::b,x,y,ha,hb,h=>by
  simp only [xX,List.cons.injEq] at h;obtain ⟨h1,h2⟩:=split_sp (fun c hc=>ha c (.tail _ hc)) (fun c hc=>hb c (.tail _ hc)) h.2;exact ⟨by rw [h.1,h1],h2⟩
theorem Jka (n:Int)(l:List Int):keyL (n::l)=itoa36 n++32::keyL l:=by simp [keyL]
theorem keyL_inj:∀ {l m:List Int},keyL l=keyL m→l=m
 | [],[],_=>rfl
 | [],n::m,h=>by rw [Jka] at h;simp [keyL] at h
 | n::l,[],h=>by rw [Jka] at h;simp [keyL] at h
 | n::l,k::m,h=>by
  rw [Jka,Jka] at h;obtain ⟨h1,h2⟩:=split_sp (itoa36_sp n) (itoa36_sp k) h;rw [itoa36_inj h1,keyL_inj h2]
theorem Jj4 {l:List Int}{i:Nat}(h:i<l.length):l.take (i+1)=l.take i++[l.getD i 0]:=by
 rw [List.take_add_one,xD h,yF,xD h];rfl
theorem i64s_take {l:List Int}(h:i64s l)(i:Nat):i64s (l.take i):=fun n hn=>h n (List.mem_of_mem_take hn)
theorem getD_mem {l:List Int}{i:Nat}(h:i<l.length):l.getD i 0∈l:=by
 rw [yF,xD h];exact List.getElem_mem h
theorem i64s_getD {l:List Int}(h:i64s l){i:Nat}(hi:i<l.length):-9223372036854775808≤l.getD i 0∧l.getD i 0≤9223372036854775807:=h _ (getD_mem hi)
def pickL (l:List Int)(cs:List Int):List Int:=cs.map fun c=>l.getD c.toNat 0
theorem pickL_i64s {l cs:List Int}(h:i64s l)(hc:∀ k∈cs,0≤k∧k<l.length):i64s (pickL l cs):=by
 intro n hn;simp only [pickL,xS] at hn;obtain ⟨k,hk,rfl⟩:=hn;have:=hc k hk;exact i64s_getD h (by omega)
theorem pickL_length (l cs:List Int):(pickL l cs).length=cs.length:=by simp [pickL]
theorem Jky {l m:List Int}(h:keyB l=keyB m):l=m:=by
 unfold keyB at h;simp only [ByteArray.mk.injEq] at h;exact keyL_inj (by simpa using congrArg Array.toList h)
theorem T.apB:appB Tryz.prog 227 5 1 1=true:=by kernel_rfl
theorem T.apI:appB Tryz.prog 51 3 1 8=true:=by kernel_rfl
def DIGS:ByteArray:=⟨#[48,49,50,51,52,53,54,55,56,57,97,98,99,100,101,102,103,104,105,106,107,108,109,110,111,112,113,114,115,116,117,118,119,120,121,122]⟩
theorem digs_get {i:Nat}(h:i<36):DIGS[(i:Int).toNat]?=some (dig36 i):=by
 have key:∀ i:Fin 36,DIGS[(i.val:Int).toNat]?=some (dig36 i.val):=by decide
 exact key ⟨i,h⟩
def ints (l:List Int):List Value:=l.map (Value.int .i64)
theorem Jds (l:List Int):(ints l).length=l.length:=by simp [ints]
theorem Jes (l:List Int):∀ u∈ints l,u.oneCell'=true:=by
 intro u hu;simp only [ints,xS] at hu;obtain ⟨c,_,rfl⟩:=hu;rfl
theorem Jni {l:List Int}{i:Nat}{n:Int}(h:l[i]?=some n):(ints l)[i]?=some (.int .i64 n):=by simp [ints,h]
theorem ints_append (l m:List Int):ints (l++m)=ints l++ints m:=by simp [ints]
def RI (w:World)(a:Option Addr)(m:Nat)(l:List Int):Prop:=
 l.length=m∧(a=none→m=0)∧∀ b,a=some b→∀ j n,l[j]?=some n→w.cell? (b.add j)=some (.int .i64 n)
theorem RI.mono {w w':World}{a:Option Addr}{m:Nat}{l:List Int}(h:RI w a m l)(hc:∀ q v,(∃ b,a=some b∧q.block=b.block)→w.cell? q=some v→w'.cell? q=some v):RI w' a m l:=
 ⟨h.1,h.2.1,fun b hb j n hj=>hc _ _ ⟨b,hb,by rw [Jcv]⟩ (h.2.2 b hb j n hj)⟩
theorem RI.sat {w w':World}{M:Nat→Prop}{ow:List Hw.Item}{a:Option Addr}{m:Nat}{l:List Int}(h:RI w a m l)(hw:Sat w M (fun b=>b<w.heap.size) w ow w'):RI w' a m l:=
 h.mono fun _ _ _ hc=>snapL hw hc
theorem RI.fr {w w':World}{M:Nat→Prop}{a:Option Addr}{m:Nat}{l:List Int}(h:RI w a m l)(hM:∀ b,a=some b→0<m→¬ M b.block)(hf:Fr M w w'):RI w' a m l:=
 ⟨h.1,h.2.1,fun b hb j n hj=>by
  have hc:=h.2.2 b hb j n hj;have hm:0<m:=by have:=(List.getElem?_eq_some_iff.1 hj).1;have:=h.1;omega
  rw [World.cell?_of_block (hf.keep _ (World.block_lt_of_cell? w _ hc) (by rw [Jcv];exact hM b hb hm))];exact hc⟩
theorem RI.cell {w:World}{q:Addr}{m:Nat}{l:List Int}(h:RI w (some q) m l){j:Nat}(hj:j<l.length):w.cell? (q.add j)=some (.int .i64 (l.getD j 0)):=by
 refine h.2.2 q rfl j _ ?_;rw [yF,xD hj];rfl
theorem RI.of_row {w0 ws w:World}{M I:Nat→Prop}{ow:List Hw.Item}{a:Option Addr}{c:Nat}{l:List Int}(hw:Sat w0 M I ws ow w)(hm:row 3 1 a l.length c (ints l)∈ow):RI w a l.length l:=
 ⟨rfl,fun ha=>((Jd4 hw hm).2.elim (fun h=>h.2.1) (fun ⟨b,hb,_⟩=>(by rw [ha] at hb;cases hb))),fun b hb j n hj=>by subst hb;exact Jdr hw hm j _ (Jni hj)⟩
theorem Src.of_ri {a:Option Addr}{m:Nat}{l:List Int}{S:World→Prop}(h1:l.length=m)(h2:a=none→m=0)(h:∀ w,S w→RI w a m l):Src S a m 1 (ints l):=by
 refine ⟨by rw [Jds,h1,Nat.mul_one],h2,fun w hw b hb j u hj=>?_⟩;simp only [ints,xG,Option.map_eq_some_iff] at hj;obtain ⟨n,hn,rfl⟩:=hj;exact (h w hw).2.2 b hb j n hn
theorem Holds.one {w:World}{i:Hw.Item}(h:i.φ w)(hlt:∀ b,i.D b→b<w.heap.size):Holds [i] w:=
 ⟨fun j hj=>by simp only [xI] at hj;subst hj;exact h,fun j hj b hb=>by simp only [xI] at hj;subst hj;exact hlt b hb,List.pairwise_singleton _ _⟩
theorem pow2_calls (w:World):Calls Tryz.prog 237 #[.int .i64 36] w fun e w'=>e=.returned (.bool false)∧Fr0 w w':=by
 refine Jbo (args:=[.int .i64 36]) (fun _=>False) Tryz.func237 rfl Tryz.ntmps237 rfl rfl ?_;refine Csr (Za rfl (Nn (Csr (Zm rfl (Zm rfl (Zv (OV.m3 rfl rfl (by omega)) (Zv (OV.and rfl rfl) (Zv (OV.eb rfl rfl) (Za rfl (Nn (WC.az ?_)))))))))));exact WX.ret1 rfl rfl rfl (fun w hw=>⟨rfl,hw.fr⟩)
theorem buf_set {i:Nat}(hi:0<i)(suf:List UInt8)(d:UInt8):(u8s (List.replicate i 0++suf)).set (i - 1) (b8 d)=u8s (List.replicate (i - 1) 0++d::suf):=by
 obtain ⟨k,rfl⟩:∃ k,i=k+1:=⟨i - 1,by omega⟩
 rw [u8s_set,Nat.add_sub_cancel];congr 1;rw [List.replicate_succ',xF,List.set_append_right _ _ (by simp)];simp
theorem p36:(36:Nat) ^ 13=170581728179578208256:=by decide
theorem buf_len (i:Nat)(suf:List UInt8):(u8s (List.replicate i 0++suf)).length=i+suf.length:=by rw [Jdw];simp
theorem buf_src {w0 ws:World}{M I:Nat→Prop}{ow:List Hw.Item}{b i:Nat}{T:TypeId}{l:List UInt8}(hm:oQ b (u8s (List.replicate i 0++l)) T∈ow):Src (Sat w0 M I ws ow) (some ⟨b,i,none⟩) l.length 1 (u8s l):=by
 refine ⟨by rw [Jdw,Nat.mul_one],fun h=>(by cases h),fun w hw q hq j v hj=>?_⟩;simp only [Option.some.injEq] at hq;subst hq;rw [Jap];refine Jbh hw hm _ v ?_;rw [Ji9,List.getElem?_append_right (by rw [Jdw];simp),Jdw]
 simpa using hj
theorem formatBits_calls (u:Nat)(hu:u<18446744073709551616)(a:Option Addr)(m c:Nat)(xs:List UInt8)(hm:m+20≤140737488355328)(w:World)(hA:Holds [row 5 1 a m c (u8s xs)] w):
 Calls Tryz.prog 222 #[.slice a m c,.int .u64 (u:Int),.int .i64 36,.bool false,.bool true] w fun e w'=>∃ a' c',e=.returned (.tuple #[.slice a' (m+(fmt36 u).length) c',.string ⟨#[]⟩])∧Turns [row 5 1 a m c (u8s xs)] [row 5 1 a' (m+(fmt36 u).length) c' (u8s (xs++fmt36 u))] w w':=by
 refine Jdt hA (args:=[.slice a m c,.int .u64 (u:Int),.int .i64 36,.bool false,.bool true]) Tryz.func222 rfl Tryz.ntmps222 rfl rfl ?_;refine Csr (Za rfl (Za rfl (Nn (Cs (Csr (Zm rfl (Zv (OV.cq rfl rfl) (Zm rfl (WL.known (t:=21) (b:=false) rfl (by rfl) ?_)))))))));refine yY (Zm rfl (yY (Zv (OV.eb rfl rfl) (Zv (OV.aj rfl rfl) (Zm rfl (WL.known (t:=25) (b:=false) rfl (by rfl) ?_))))));refine yY (Zm rfl (yY (Zv (OV.lj rfl rfl) (Zv (OV.aj rfl rfl) (Nn (WC.bu rfl ?_))))));refine Ck (Xn (Csr (WL.alloc T.zr296 rfl ?_)));intro b12;refine Nn (Csr (Za rfl (Nn (Cs (Csr (Zm rfl (Nn (WC.bu rfl ?_))))))));refine Ck (Xn (Cs (Csr (Zm rfl (WL.au (by kernel_rfl) rfl rfl (fun w' _=>pow2_calls w') ?_)))));refine Nn (WC.bu rfl ?_);refine Csr (Zm rfl (Zv (OV.convU64 T.u3 T.u205 rfl (by omega)) (Za rfl (Nn (Cs (Cb ?_))))))
 refine WC.ic (fun (i v:Nat) (suf:List UInt8)=>[(0,.slice a m c),(1,.int .u64 (v:Int)),(4,.bool true),(3,.bool false),(2,.int .i64 36),(11,.string ⟨#[]⟩),(12,yZ b12),(13,.int .i64 (i:Int)),(17,.int .u64 36)])
   (fun i v suf w'=>(i≤65∧53≤i∧v<36 ^ (i - 52)∧v≤u∧fmt36 u=fmt36 v++suf∧suf.length=65 - i)∧Sat w (DD [row 5 1 a m c (u8s xs)]) (fun b=>b<w.heap.size∧¬ DD [row 5 1 a m c (u8s xs)] b) w [oQ b12 (u8s (List.replicate i 0++suf)) 296,row 5 1 a m c (u8s xs)] w')
   (fun i v suf=>v) 65 u [] Y9 (fun w' hw=>⟨⟨by omega,by omega,(by show u<36 ^ 13;rw [p36];omega),by omega,by simp,rfl⟩,by simpa using hw⟩) ?_
 intro i v suf;refine WC.pure (fun hi=>?_);obtain ⟨hi1,hi2,hi3,hi4,hsuf,hsl⟩:=hi;refine Cs (Csr (Zm rfl (Zm rfl (Zv (OV.jy rfl rfl) (Nn ?_)))));refine Cc rfl (fun c68=>?_) (fun c68=>?_)
 ·refine Ck (Xn (Cb (Csr (Zm rfl (Zv (OV.pd (j:=1) rfl rfl (Jf4 (by omega)) (by omega)) (Za rfl (Nn (Csr (Zm rfl (Zm rfl (Zv ((OV.quo rfl rfl rfl).cast (u:=.int .u64 ((v / 36:Nat):Int)) (by rw [Int.tdiv_eq_ediv_of_nonneg (by omega),Jlq (by omega)];congr 1)) (Za rfl (Nn (Csr (Zm rfl (Zm rfl (Zm rfl (Zm rfl (Zv ((OV.mul rfl rfl).cast (u:=.int .u64 ((v / 36*36:Nat):Int)) (by rw [Jlq (by omega)];congr 1)) (Zv ((OV.sub rfl rfl).cast (u:=.int .u64 ((v % 36:Nat):Int)) (by rw [Jlq (by omega)];congr 1;omega)) (Zv (OV.e6 (s:=DIGS) rfl rfl T.u9 ⟨by omega,digs_get (i:=v % 36) (by omega)⟩) (Zv (OV.jx rfl rfl T.u296 T.z5 (by omega)) (WL.bw rfl rfl rfl T.z5 (by rw [buf_len];omega) ?_)))))))))))))))))))))));refine Nn (Cr (Zm rfl (Za rfl (Nl (Xb ?_)))))
  have hi54:54≤i:=by
   rcases Nat.lt_or_ge i 54 with h | h
   ·have:i=53:=by omega
    subst this;simp at hi3;omega
   ·exact h
  exact WX.eo (i - 1) (v / 36) (dig36 (v % 36)::suf) Y9 (fun w' hw=>⟨⟨by omega,by omega,by
    refine Nat.div_lt_of_lt_mul ?_;rw [← Nat.pow_succ',show (i - 1 - 52).succ=i - 52 by omega];exact hi3,by omega,by rw [hsuf,Jgr (by omega)];simp,by simp only [List.length_cons];omega⟩,by
    have hset:=buf_set (by omega:0<i) suf (dig36 (v % 36));unfold b8 at hset;rw [hset] at hw;exact hw⟩) (by show v / 36<v;omega)
 refine Ce (Xe (Xe (Xh (Xn (Csr (Zm rfl (Zv (OV.pd (j:=1) rfl rfl (Jf4 (by omega)) (by omega)) (Za rfl (Nn (Cr (Zm rfl (Zm rfl (Zv (OV.e6 (s:=DIGS) rfl rfl T.u9 ⟨by omega,digs_get (i:=v) (by omega)⟩) (Zv (OV.jx rfl rfl T.u296 T.z5 (by omega)) (WL.bw rfl rfl rfl T.z5 (by rw [buf_len];omega) ?_)))))))))))))));have hset:=buf_set (by omega:0<i) suf (dig36 v);unfold b8 at hset;rw [hset];have hfu:dig36 v::suf=fmt36 u:=by rw [hsuf,Jgc (by omega)];rfl
 rw [hfu];have hlen:(fmt36 u).length=66 - i:=by rw [← hfu];simp only [List.length_cons];omega
 refine Nn (Cs (Csr (Zm rfl (Nn (WC.bu rfl ?_)))));refine Ck (Xn (Cs (Csr (Zm rfl (Nn (WC.co rfl ?_))))));refine Csr (Zm rfl (Zm rfl (Zv ((OV.sliceArrFrom (l:=i - 1) rfl T.u296 T.z5 rfl (by omega)).cast (u:=.slice (some ⟨b12,i - 1,none⟩) (fmt36 u).length (65 - (i - 1))) (by rw [xM];congr 1;omega)) ?_)));refine WL.focus perm1 (WL.append (news:=u8s (fmt36 u)) rfl rfl T.apB (fun _ _=>buf_src yI) (Jof _) ⟨by omega,by unfold maxLen;omega⟩ rfl ?_);intro a98 c98;refine Za rfl (Nn (WC.az ?_));refine Xr ?_;exact WX.ret2 rfl rfl rfl rfl (fun w hw=>⟨_,_,rfl,by rw [Ji9];exact (hw.perm perm1).drop.turned⟩)
theorem AppendUint_calls (u:Nat)(hu:u<18446744073709551616)(a:Option Addr)(m c:Nat)(xs:List UInt8)(hm:m+22≤140737488355328)(w:World)(hA:Holds [row 5 1 a m c (u8s xs)] w):
 Calls Tryz.prog 195 #[.slice a m c,.int .u64 (u:Int),.int .i64 36] w fun e w'=>∃ a' c',e=.returned (.slice a' (m+(fmt36 u).length) c')∧Turns [row 5 1 a m c (u8s xs)] [row 5 1 a' (m+(fmt36 u).length) c' (u8s (xs++fmt36 u))] w w':=by
 refine Jdt hA (args:=[.slice a m c,.int .u64 (u:Int),.int .i64 36]) Tryz.func195 rfl Tryz.ntmps195 rfl rfl ?_;refine Csr (Za rfl (Nn (Cs (Csr (Zm rfl (Zv (OV.eb rfl rfl) (Nn (WC.bu rfl ?_))))))));refine Ck (Xn (Csr (Zm rfl (Zm rfl (Zm rfl (WL.fo (ι:=Option Addr × Nat) (vv:=fun x=>.tuple #[.slice x.1 (m+(fmt36 u).length) x.2,.string ⟨#[]⟩]) (pp:=fun _=>True) (jj:=fun x=>row 5 1 x.1 (m+(fmt36 u).length) x.2 (u8s (xs++fmt36 u))) (by kernel_rfl) rfl rfl (fun w' hw' hH=>(formatBits_calls u hu a m c xs (by omega) w' hH).mono (fun e w' ⟨a',c',h1,h2⟩=>⟨(a',c'),h1,trivial,h2⟩)) ?_))))));rintro ⟨a1,c1⟩ _;refine Zm rfl (Zv (OV.extract rfl rfl) (Zv (OV.extract rfl rfl) (Za rfl (Nn (Csr (Zm rfl (Za rfl (Nn (WC.az ?_)))))))));exact WX.ret1 rfl rfl rfl (fun w hw=>⟨_,_,rfl,hw.turned⟩)
theorem AppendInt_in_calls (n:Int)(hn:-9223372036854775808≤n∧n≤9223372036854775807)(a:Option Addr)(m c:Nat)(xs:List UInt8)(hm:m+24≤140737488355328)(w:World)(hA:Holds [row 5 1 a m c (u8s xs)] w):
 Calls Tryz.prog 173 #[.slice a m c,.int .i64 n,.int .i64 36] w fun e w'=>∃ a' c',e=.returned (.slice a' (m+(itoa36 n).length) c')∧Turns [row 5 1 a m c (u8s xs)] [row 5 1 a' (m+(itoa36 n).length) c' (u8s (xs++itoa36 n))] w w':=by
 refine Jdt hA (args:=[.slice a m c,.int .i64 n,.int .i64 36]) Tryz.func173 rfl Tryz.ntmps173 rfl rfl ?_;refine Csr (Za rfl (Nn (Csr (Zm rfl (Zv ((OV.conv T.u2 T.u205 rfl).cast (u:=.int .u64 ((if n<0 then 18446744073709551616 - n.natAbs else n.natAbs:Nat):Int)) (by congr 1;unfold IntKind.wrap;simp only [IntKind.bits,IntKind.signed,Bool.false_and,Bool.false_eq_true,if_false];by_cases hn0:n<0 <;> simp only [hn0,if_true,if_false] <;> omega)) (Za rfl (Nn (Cs (Csr (Zm rfl (Zv (OV.cq rfl rfl) (Nn ?_))))))))))));refine WC.od rfl (fun c11=>?_) (fun c11=>?_)
 ·simp only [decide_eq_true_eq,decide_eq_false_iff_not] at c11;refine Csr (Zm rfl (WL.br T.u227 T.z5 T.zr5 rfl rfl rfl ?_));intro b13;refine WL.focus perm1 (WL.append (news:=u8s [45]) rfl rfl T.apB (fun _ _=>Jeg yI rfl) (Jof _) ⟨by omega,by unfold maxLen;omega⟩ rfl ?_);intro a14 c14;refine Za rfl (Nn (Cr (Zm rfl (Zv ((OV.neg rfl).cast (u:=.int .u64 (n.natAbs:Int)) (by congr 1;rw [if_pos c11];unfold IntKind.wrap;simp only [IntKind.bits,IntKind.signed,Bool.false_and,Bool.false_eq_true,if_false];rw [show (-((18446744073709551616 - n.natAbs:Nat):Int))=(n.natAbs:Int)+(-1)*18446744073709551616 from by omega,show (2 ^ 64:Int)=18446744073709551616 from rfl,Int.add_mul_emod_self_right,Int.emod_eq_of_lt (by omega) (by omega)])) (Za rfl (Nn (Csr (Zm rfl (Zv (OV.aw (v:=.int .u64 (n.natAbs:Int)) (by first | rfl | (simp only [if_neg c11];rfl))) (Zm rfl (WL.dl [row 5 1 a14 (m+1) c14 (u8s xs++u8s [45])] rfl (by kernel_rfl) rfl rfl (ι:=Option Addr × Nat) (vv:=fun x=>.slice x.1 (m+1+(fmt36 n.natAbs).length) x.2) (pp:=fun _=>True) (AA:=fun x=>[row 5 1 x.1 (m+1+(fmt36 n.natAbs).length) x.2 (u8s (xs++[45]++fmt36 n.natAbs))]) (fun w' hw' hH=>(by rw [← Ji9] at hH ⊢;exact (AppendUint_calls n.natAbs (by omega) a14 (m+1) c14 (xs++[45]) (by omega) w' hH).mono (fun e w' ⟨a',c',h1,h2⟩=>⟨(a',c'),h1,trivial,h2⟩))) ?_)))))))))));rintro ⟨a1,c1⟩ _;refine Za rfl (Nn (WC.az ?_));have e1:m+1+(fmt36 n.natAbs).length=m+(itoa36 n).length:=by unfold itoa36;rw [if_pos c11];simp only [List.length_cons];omega
  have e2:xs++[45]++fmt36 n.natAbs=xs++itoa36 n:=by unfold itoa36;rw [if_pos c11];simp
  exact WX.ret1 rfl rfl rfl (fun w hw=>⟨a1,c1,by rw [e1],by rw [← e1,← e2];exact (hw.perm perm1).drop.turned⟩)
 simp only [decide_eq_true_eq,decide_eq_false_iff_not] at c11;refine Ck (Xn (Csr (Zm rfl (Zv (OV.aw (v:=.int .u64 (n.natAbs:Int)) (by first | rfl | (simp only [if_neg c11];rfl))) (Zm rfl (WL.fo (ι:=Option Addr × Nat) (vv:=fun x=>.slice x.1 (m+(fmt36 n.natAbs).length) x.2) (pp:=fun _=>True) (jj:=fun x=>row 5 1 x.1 (m+(fmt36 n.natAbs).length) x.2 (u8s (xs++fmt36 n.natAbs))) (by kernel_rfl) rfl rfl (fun w' hw' hH=>(AppendUint_calls n.natAbs (by omega) a m c xs (by omega) w' hH).mono (fun e w' ⟨a',c',h1,h2⟩=>⟨(a',c'),h1,trivial,h2⟩)) ?_))))));rintro ⟨a1,c1⟩ _;refine Za rfl (Nn (WC.az ?_));have e1:fmt36 n.natAbs=itoa36 n:=by unfold itoa36;rw [if_neg c11]
 exact WX.ret1 rfl rfl rfl (fun w hw=>⟨a1,c1,by rw [e1],by rw [← e1];exact hw.turned⟩)
theorem AppendInt_calls (n:Int)(hn:-9223372036854775808≤n∧n≤9223372036854775807)(a:Option Addr)(m c:Nat)(xs:List UInt8)(hm:m+26≤140737488355328)(w:World)(hA:Holds [row 5 1 a m c (u8s xs)] w):
 Calls Tryz.prog 152 #[.slice a m c,.int .i64 n,.int .i64 36] w fun e w'=>∃ a' c',e=.returned (.slice a' (m+(itoa36 n).length) c')∧Turns [row 5 1 a m c (u8s xs)] [row 5 1 a' (m+(itoa36 n).length) c' (u8s (xs++itoa36 n))] w w':=by
 refine Jdt hA (args:=[.slice a m c,.int .i64 n,.int .i64 36]) Tryz.func152 rfl Tryz.ntmps152 rfl rfl ?_;refine Csr (Za rfl (Nn (Csr (Zm rfl (Zm rfl (Zm rfl (WL.fo (ι:=Option Addr × Nat) (vv:=fun x=>.slice x.1 (m+(itoa36 n).length) x.2) (pp:=fun _=>True) (jj:=fun x=>row 5 1 x.1 (m+(itoa36 n).length) x.2 (u8s (xs++itoa36 n))) (by kernel_rfl) rfl rfl (fun w' hw' hH=>(AppendInt_in_calls n hn a m c xs (by omega) w' hH).mono (fun e w' ⟨a',c',h1,h2⟩=>⟨(a',c'),h1,trivial,h2⟩)) ?_)))))));rintro ⟨a1,c1⟩ _;refine Za rfl (Nn (WC.az ?_));exact WX.ret1 rfl rfl rfl (fun w hw=>⟨_,_,rfl,hw.turned⟩)
theorem Jj9 (l:List Int)(a:Option Addr)(m c:Nat)(hi:i64s l)(hm:m≤1099511627776)(w:World)(hr:RI w a m l):Calls Tryz.prog 105 #[.slice a m c] w fun e w'=>e=.returned (.string (keyB l))∧Fr0 w w':=by
 refine Jbo (args:=[.slice a m c]) (fun _=>False) Tryz.func105 rfl Tryz.ntmps105 rfl rfl ?_;refine Csr (Za rfl (Nn (Csr (Za rfl (Nn (Cs (Csr (Zm rfl (Zv (OV.ae rfl T.u51) (Zm rfl (Nn (Cb ?_))))))))))));have hml:=hr.1
 refine WC.ic (fun (i:Nat) ab cb=>[(3,.slice ab (keyL (l.take i)).length cb),(6,.slice a m c),(7,.int .i64 (m:Int)),(8,.int .i64 (i:Int))])
   (fun i ab cb w'=>i≤m∧Sat w (fun _=>False) (fun b=>b<w.heap.size) w [row 5 1 ab (keyL (l.take i)).length cb (u8s (keyL (l.take i)))] w')
   (fun i _ _=>m - i) 0 none 0 Y4 (fun w' hw=>⟨by omega,by simpa [keyL,u8s] using Sat.rowNil 5 1 hw⟩) ?_
 intro i ab cb;refine WC.pure (fun hi'=>?_);refine Csr (Zv (OV.cq rfl rfl) (Nn (Cs ?_)));refine Cc rfl (fun c9=>?_) (fun c9=>?_)
 ·refine Ck (Xn (Cs (Cb (Csr ?_))));have hil:i<l.length:=by omega
  obtain ⟨q,rfl⟩:∃ q,a=some q:=by
   cases a with
   | none=>have:=hr.2.1 rfl;omega
   | some q=>exact ⟨q,rfl⟩
  refine Zv (OV.cd rfl rfl T.u51 T.z3 (by omega)) (Zv (OV.ah rfl T.u3 rfl (fun _ hw=>(hr.sat hw).cell hil)) (Za rfl (Nn (Csr (Zm rfl (Zm rfl ?_))))));have hlen:=keyL_len (i64s_take hi i);have hin:=i64s_getD hi hil;have hit:=itoa36_len hin;rw [xJ] at hlen;refine WL.fo (ι:=Option Addr × Nat) (vv:=fun x=>.slice x.1 ((keyL (l.take i)).length+(itoa36 (l.getD i 0)).length) x.2) (pp:=fun _=>True) (jj:=fun x=>row 5 1 x.1 ((keyL (l.take i)).length+(itoa36 (l.getD i 0)).length) x.2 (u8s (keyL (l.take i)++itoa36 (l.getD i 0)))) (by kernel_rfl) rfl rfl (fun w' hw' hH=>(AppendInt_calls (l.getD i 0) hin ab (keyL (l.take i)).length cb (keyL (l.take i)) (by omega) w' hH).mono (fun e w' ⟨a',c',h1,h2⟩=>⟨(a',c'),h1,trivial,h2⟩)) ?_;rintro ⟨a1,c1⟩ _;refine Za rfl (Nn (Cr (Zm rfl (WL.br T.u227 T.z5 T.zr5 rfl rfl rfl ?_))));intro b16;refine WL.focus perm1 (WL.append (news:=u8s [32]) rfl rfl T.apB (fun _ _=>Jeg yI rfl) (Jof _) ⟨by omega,by unfold maxLen;omega⟩ rfl ?_);intro a17 c17;refine Za rfl (Nl (Xb (Xn (Cr (Zv (OV.fp rfl rfl (by omega)) (Zm rfl (Nl ?_)))))));have e:keyL (l.take i)++itoa36 (l.getD i 0)++[32]=keyL (l.take (i+1)):=by rw [Jj4 hil,keyL_snoc]
  have el:(keyL (l.take i)).length+(itoa36 (l.getD i 0)).length+1=(keyL (l.take (i+1))).length:=by rw [← e];simp only [xL,xQ]
  exact WX.eo (i+1) a17 c17 ⟨by rw [← el];rfl,rfl,rfl,rfl,trivial⟩ (fun w' hw=>⟨by omega,by
   rw [← el,← e,Ji9];exact (hw.perm perm1).drop⟩) (by show m - (i+1)<m - i;omega)
 refine Ce (Xe (Xe (Xh (Xn (Csr (Zm rfl ?_))))));have him:l.length≤i:=by have:=hr.1;omega
 rw [xK him];refine Zv (OV.bytesToStr (l:=keyL l) rfl (fun _ hw=>row_src yH hw) T.u227 T.u5 T.u9) (Za rfl (Nn (WC.az ?_)));exact WX.ret1 rfl rfl rfl (fun w hw=>⟨rfl,hw.fr⟩)
theorem picked_calls (l:List Int)(cs:List Int)(a:Option Addr)(m c:Nat)(a2:Option Addr)(m2 c2:Nat)(hcs:∀ k∈cs,0≤k∧k<l.length)(hm:m2≤1099511627776)(hmm:m≤1099511627776)(w:World)(hr:RI w a m l)(hr2:RI w a2 m2 cs):
 Calls Tryz.prog 164 #[.slice a m c,.slice a2 m2 c2] w fun e w'=>∃ a' c',e=.returned (.slice a' cs.length c')∧Fr0 w w'∧New w w' (row 3 1 a' cs.length c' (ints (pickL l cs))):=by
 refine Jbo (args:=[.slice a m c,.slice a2 m2 c2]) (fun _=>False) Tryz.func164 rfl Tryz.ntmps164 rfl rfl ?_;refine Csr (Za rfl (Nn (Csr (Za rfl (Nn (Cs (Csr (Zm rfl (Zv (OV.ae rfl T.u51) (Zm rfl (Nn (Cb ?_))))))))))));have hml:=hr2.1
 refine WC.ic (fun (i:Nat) ab cb=>[(0,.slice a m c),(5,.slice ab i cb),(8,.slice a2 m2 c2),(9,.int .i64 (m2:Int)),(10,.int .i64 (i:Int))])
   (fun i ab cb w'=>i≤m2∧Sat w (fun _=>False) (fun b=>b<w.heap.size) w [row 3 1 ab i cb (ints (pickL l (cs.take i)))] w')
   (fun i _ _=>m2 - i) 0 none 0 Y5 (fun w' hw=>⟨by omega,by simpa [pickL,ints] using Sat.rowNil 3 1 hw⟩) ?_
 intro i ab cb;refine WC.pure (fun hi'=>?_);refine Csr (Zv (OV.cq rfl rfl) (Nn (Cs ?_)));refine Cc rfl (fun c11=>?_) (fun c11=>?_)
 ·refine Ck (Xn (Cs (Cb (Csr ?_))));have hil:i<cs.length:=by omega
  obtain ⟨q2,rfl⟩:∃ q,a2=some q:=by
   cases a2 with
   | none=>have:=hr2.2.1 rfl;omega
   | some q=>exact ⟨q,rfl⟩
  have hki:=hcs _ (getD_mem hil)
  obtain ⟨q,rfl⟩:∃ q,a=some q:=by
   cases a with
   | none=>have:=hr.2.1 rfl;have:=hr.1;omega
   | some q=>exact ⟨q,rfl⟩
  obtain ⟨kk,hkk⟩:∃ kk:Nat,cs.getD i 0=(kk:Int):=⟨(cs.getD i 0).toNat,by omega⟩
  have hkl:kk<l.length:=by omega
  refine Zv (OV.cd rfl rfl T.u51 T.z3 (by omega)) (Zv (OV.ah (v:=.int .i64 (kk:Int)) rfl T.u3 rfl (fun _ hw=>by rw [← hkk];exact (hr2.sat hw).cell hil)) (Za rfl (Nn (Cr (Zm rfl (Zm rfl (Zm rfl (Zv (OV.cd (i:=kk) rfl rfl T.u51 T.z3 (by have:=hr.1;omega)) (Zv (OV.ah rfl T.u3 rfl (fun _ hw=>(hr.sat hw).cell hkl)) (WL.br T.u51 T.z3 T.zr3 rfl rfl rfl ?_))))))))));intro b19;refine WL.focus perm1 (WL.append (news:=ints [l.getD kk 0]) rfl rfl T.apI (fun _ _=>Jeg yI rfl) (Jes _) ⟨by omega,by unfold maxLen;omega⟩ rfl ?_);intro a20 c20;refine Za rfl (Nl (Xb (Xn (Cr (Zv (OV.fp rfl rfl (by omega)) (Zm rfl (Nl ?_)))))))
  have e:pickL l (cs.take i)++[l.getD kk 0]=pickL l (cs.take (i+1)):=by
   rw [Jj4 hil,pickL,pickL,xU,List.map_singleton,hkk,xN]
  exact WX.eo (i+1) a20 c20 Y5 (fun w' hw=>⟨by omega,by
   rw [← e,ints_append];exact (hw.perm perm1).drop⟩) (by show m2 - (i+1)<m2 - i;omega)
 refine Ce (Xe (Xe (Xh (Xn (Csr (Zm rfl (Za rfl (Nn (WC.az ?_)))))))));have hic:i=cs.length:=by omega
 subst hic;rw [List.take_length];exact WX.ret1 rfl rfl rfl (fun w hw=>⟨_,_,rfl,hw.fr,hw.new0 yH⟩)
end Go.Proofs.YtgebaodagaecmaaGreatDoor
namespace Go.Hw
set_option linter.unusedVariables false
set_option linter.unusedSimpArgs false
open Go Go.RowKit Go.Proofs Go.Shelf
variable {P:Program} {ρ:Ren} {w:World} {T:TypeId} {b c:Nat}
theorem row_block {α:Type}{enc:α→Value}{xs:List α}(h:(row T 1 (some ⟨b,0,none⟩) xs.length c (xs.map enc)).φ w):
  ∃ cur,w.heap[b]?=some (.cells cur T (0,0))∧cur.size=c∧xs.length≤c∧c≤maxLen∧cur.toList.take xs.length=xs.map enc:=by
 have h1:w.ownsRow 0 T 1 (.slice (some ⟨b,0,none⟩) xs.length c) xs.length (xs.map enc):=h;rcases h1.2 with ⟨hv,_⟩ | ⟨g,cc,cur,hv,_,hg,hmc,hcm,hcs,htake⟩
 ·cases hv
 ·simp only [Value.slice.injEq,Option.some.injEq,Addr.mk.injEq,and_true] at hv;obtain ⟨rfl,_,rfl⟩:=hv;exact ⟨cur,hg,by simpa using hcs,hmc,hcm,by simpa using htake⟩
theorem Jlz {α:Type}[Inhabited α]{enc:α→Value}{xs:List α}(h:(row T 1 (some ⟨b,0,none⟩) xs.length c (xs.map enc)).φ w):Go.Sort.Holds enc w b 0 xs.toArray:=by
 obtain ⟨cur,hb,hs,hle,_,ht⟩:=row_block h;intro j hj;have hj':j<xs.length:=by simpa using hj
 have hc:cur[j]?=some (enc (xs.toArray[j]!)):=by
  have h2:=congrArg (fun l:List Value=>l[j]?) ht;simp only [List.getElem?_take_of_lt hj',xG,xD hj',Option.map_some] at h2;rw [← Array.getElem?_toList,h2];simp [hj']
 exact ⟨by simp [World.cell?,hb,hc],by simp [World.frozen?,hb]⟩
theorem Jkk {α:Type}[Inhabited α]{enc:α→Value}{xs:List α}{d:Array α}{n:Nat}{os:Array Obj}(hA:Holds [row T 1 (some ⟨b,0,none⟩) xs.length c (xs.map enc)] w)(hd:d.size=xs.length):
  Turns [row T 1 (some ⟨b,0,none⟩) xs.length c (xs.map enc)] [row T 1 (some ⟨b,0,none⟩) d.toList.length c (d.toList.map enc)] w (sortWorld enc w b 0 n d os):=by
 have h:=hA.φ _ yH;obtain ⟨cur,hb,hs,hle,hcm,ht⟩:=row_block h;have hlt:b<w.heap.size:=(Array.getElem?_eq_some_iff.1 hb).1
 have hsize:w.heap.size≤(sortWorld enc w b 0 n d os).heap.size:=by
  show w.heap.size≤((Go.Sort.putRow enc (Go.Sort.ahead w n) b 0 d).heap++os).size;rw [Array.size_append,Go.Sort.size_putRow];exact Nat.le_add_right _ _
 have hkeep:∀ i,i<w.heap.size→(sortWorld enc w b 0 n d os).heap[i]?=(Go.Sort.putRow enc w b 0 d).heap[i]?:=by
  intro i hi;show ((Go.Sort.putRow enc (Go.Sort.ahead w n) b 0 d).heap++os)[i]?=_;rw [Array.getElem?_append_left (by rw [Go.Sort.size_putRow];exact hi)];rfl
 have hnew:(sortWorld enc w b 0 n d os).heap[b]?=some (.cells (Go.Sort.putCells enc 0 d cur) T (0,0)):=by
  rw [hkeep b hlt];show (w.heap.modify b _)[b]?=_;rw [Array.getElem?_modify,if_pos rfl,hb];rfl
 refine ⟨⟨rfl,rfl,rfl,hsize,fun i hi hn=>?_,Nat.le_add_right _ _⟩,fun i hi=>?_,fun i hi q hq=>?_,List.pairwise_singleton _ _⟩
 ·rw [hkeep i hi];show (w.heap.modify b _)[i]?=_;rw [Array.getElem?_modify,if_neg (fun e=>hn ⟨_,.head _,⟨_,rfl,e⟩⟩)]
 ·simp only [xI] at hi;subst hi;refine ⟨by simp,.inr ⟨b,c,Go.Sort.putCells enc 0 d cur,rfl,Nat.zero_le _,hnew,by simpa [hd] using hle,hcm,by simp [Go.Sort.putCells,hs],?_⟩⟩;apply List.ext_getElem?;intro j;simp only [Array.length_toList,Nat.mul_one,xG]
  by_cases hj:j<d.size
  ·have hjc:j<cur.size:=by omega
   rw [List.getElem?_take_of_lt hj,Array.getElem?_toList];simp [Go.Sort.putCells,hjc,hj]
  ·rw [xV (by simp;omega),xV (by simp;omega)];rfl
 ·simp only [xI] at hi;subst hi;obtain ⟨a,ha,rfl⟩:=hq;simp only [Option.some.injEq] at ha;subst ha;exact ⟨Nat.lt_of_lt_of_le hlt hsize,.inl ⟨_,.head _,⟨_,rfl,rfl⟩⟩⟩
theorem Joi {α:Type}[Inhabited α]{enc:α→Value}{d:Array α}{n:Nat}{os:Array Obj}:Fr (fun i=>i=b) w (sortWorld enc w b 0 n d os):=by
 refine ⟨rfl,rfl,rfl,?_,fun i hi hn=>?_,Nat.le_add_right _ _⟩
 ·show w.heap.size≤((Go.Sort.putRow enc (Go.Sort.ahead w n) b 0 d).heap++os).size;rw [Array.size_append,Go.Sort.size_putRow];exact Nat.le_add_right _ _
 ·show ((Go.Sort.putRow enc (Go.Sort.ahead w n) b 0 d).heap++os)[i]?=_;rw [Array.getElem?_append_left (by rw [Go.Sort.size_putRow];exact hi)];show (w.heap.modify b _)[i]?=_;rw [Array.getElem?_modify,if_neg (fun e=>hn e.symm)]
theorem Jig {α:Type}[Inhabited α]{d d':Array α}(h:Go.Sort.PermIn 0 d.size d d'):d'.toList.Perm d.toList∧d'.size=d.size:=by
 obtain ⟨h1,_,h3⟩:=h;refine ⟨?_,h1⟩;have e1:d.extract 0 d.size=d:=by simp
 have e2:d'.extract 0 d.size=d':=by rw [← h1];simp
 rw [e1,e2] at h3;exact h3
theorem Jd1 {α:Type}[Inhabited α]{lt:α→α→Bool}{d:Array α}{m:Nat}(hm:m=d.size)(h:Go.Sort.SortedIn lt 0 m d):d.toList.Pairwise fun x y=>lt y x=false:=by
 subst hm;rw [List.pairwise_iff_getElem];intro i j hi hj hij;have hi':i<d.size:=by simpa using hi
 have hj':j<d.size:=by simpa using hj
 have:=h i j (Nat.zero_le _) hij hj';rw [getElem!_pos d i hi',getElem!_pos d j hj'] at this
 simpa using this
theorem sortFunc_calls (L:SlLaysF.n6 P ρ){α:Type}(enc:α→Value)(h1:∀ x,(enc x).oneCell'=true)(cf:α→α→Int)(hO:Go.Sort.SWO (ltOf cf))(g:Nat)(hg:bodied P g=true)(a:Option Addr)(xs:List α)(w:World) 
  (hA:Holds [row T 1 a xs.length c (xs.map enc)] w) (hcmp:∀ q,a=some q→∀ w',Fr (fun i=>i=q.block) w w'→∀ x y,Calls P g #[enc x,enc y] w' fun e w''=>e=.returned (.int .i64 (cf x y))∧w''=w') (hsz:xs.length<4611686018427387904) :
  Calls P (ρ.f 6) #[.slice a xs.length c,.func (.func g) #[] #[]] w fun e w'=>e=.returned (.tuple #[])∧∃ ys:List α,ys.Perm xs∧ys.Pairwise (fun x y=>ltOf cf y x=false) ∧
   Turns [row T 1 a xs.length c (xs.map enc)] [row T 1 a ys.length c (ys.map enc)] w w':=by
 cases xs with
 | nil=>
  refine (AnyF.slices_SortFunc_none (P:=P) (ρ:=ρ) { L with } a c (.func (.func g) #[] #[]) w).mono ?_;rintro e w' ⟨rfl,rfl⟩;exact ⟨rfl,[],List.Perm.refl _,List.Pairwise.nil,Turns.refl hA⟩
 | cons x0 xs=>
  haveI:Inhabited α:=⟨x0⟩
  have hφ:=hA.φ _ yH
  have hbase:∃ b,a=some ⟨b,0,none⟩:=by
   have h2:w.ownsRow 0 T 1 (.slice a (x0::xs).length c) (x0::xs).length ((x0::xs).map enc):=hφ;rcases h2.2 with ⟨hv,h0⟩ | ⟨g,cc,cur,hv,_⟩
   ·simp at h0
   ·simp only [Value.slice.injEq] at hv;exact ⟨g,hv.1⟩
  obtain ⟨b,rfl⟩:=hbase;have hlt:b<w.heap.size:=hA.lt _ yH b ⟨_,rfl,rfl⟩
  have hcon:=Any.slices_SortFunc L enc h1 cf hO g #[] b 0 c (x0::xs).toArray w (fun args w=>Jd6 hg args w)
   (CmpReads.lays (fun m os dk hs x y=>(hcmp _ rfl _ Joi x y).mono fun e w' ⟨he,hw⟩=>⟨he,0,by rw [hw];rfl⟩)) (Jlz hφ) hlt (by simpa using hsz)
  have e0:(x0::xs).toArray.size=(x0::xs).length:=by simp
  rw [e0] at hcon;refine hcon.mono ?_;rintro e w' ⟨rfl,d',n,os,hp,hs,rfl⟩;obtain ⟨hp1,hp2⟩:=Jig (d:=(x0::xs).toArray) (by rw [e0];exact hp);exact ⟨rfl,d'.toList,by simpa using hp1,Jd1 (by rw [hp2,e0]) hs,Jkk hA (by rw [hp2,e0])⟩
theorem sortInts_calls (L:SlLaysM.n5 P ρ)(a:Option Addr)(xs:List Int)(w:World)(hA:Holds [row T 1 a xs.length c (xs.map (Value.int .i64))] w)(hsz:xs.length<4611686018427387904):
  Calls P (ρ.f 5) #[.slice a xs.length c] w fun e w'=>e=.returned (.tuple #[])∧Turns [row T 1 a xs.length c (xs.map (Value.int .i64))] [row T 1 a xs.length c ((xs.mergeSort fun x y=>decide (x≤y)).map (Value.int .i64))] w w':=by
 cases xs with
 | nil=>
  refine (AnyM.slices_Sort_int_none (P:=P) (ρ:=ρ) L a c w).mono ?_;rintro e w' ⟨rfl,rfl⟩;exact ⟨rfl,by rw [List.mergeSort_nil];exact Turns.refl hA⟩
 | cons x0 xs=>
  have hφ:=hA.φ _ yH
  have hbase:∃ b,a=some ⟨b,0,none⟩:=by
   have h2:w.ownsRow 0 T 1 (.slice a (x0::xs).length c) (x0::xs).length ((x0::xs).map (Value.int .i64)):=hφ;rcases h2.2 with ⟨hv,h0⟩ | ⟨g,cc,cur,hv,_⟩
   ·simp at h0
   ·simp only [Value.slice.injEq] at hv;exact ⟨g,hv.1⟩
  obtain ⟨b,rfl⟩:=hbase;have hlt:b<w.heap.size:=hA.lt _ yH b ⟨_,rfl,rfl⟩;refine (AnyM.slices_Sort_int (P:=P) (ρ:=ρ) L b 0 c (x0::xs) w (Jlz hφ) hlt hsz).mono ?_;rintro e w' ⟨rfl,n,os,rfl⟩;have hl:((x0::xs).mergeSort fun x y=>decide (x≤y)).length=(x0::xs).length:=List.length_mergeSort _;have:=Jkk (n:=n) (os:=os) (d:=((x0::xs).mergeSort fun x y=>decide (x≤y)).toArray) hA (by simp);simp only [List.toList_toArray,hl] at this;exact ⟨rfl,this⟩
end Go.Hw
set_option maxRecDepth 10000
namespace Go.Proofs.YtgebaodagaecmaaGreatDoor
open Go Go.Hw
set_option linter.unusedSimpArgs false
set_option linter.unusedVariables false
def cmpL:List Int→List Int→Int
 | [],[]=>0
 | [],_::_=>-1
 | _::_,[]=>1
 | x::l,y::m=>if x<y then -1 else if y<x then 1 else cmpL l m
theorem Jmg:∀ l:List Int,cmpL l l=0
 | []=>rfl
 | x::l=>by simp [cmpL,Jmg l]
theorem cmpL_vals:∀ l m:List Int,cmpL l m=-1∨cmpL l m=0∨cmpL l m=1
 | [],[]=>by simp [cmpL]
 | [],_::_=>by simp [cmpL]
 | _::_,[]=>by simp [cmpL]
 | x::l,y::m=>by
  unfold cmpL
  split
  ·simp
  ·split
   ·simp
   ·exact cmpL_vals l m
theorem cmpL_eq:∀ {l m:List Int},cmpL l m=0→l=m
 | [],[],_=>rfl
 | [],_::_,h=>by simp [cmpL] at h
 | _::_,[],h=>by simp [cmpL] at h
 | x::l,y::m,h=>by
  unfold cmpL at h
  split at h
  ·simp at h
  ·split at h
   ·simp at h
   ·rw [cmpL_eq h,show x=y by omega]
theorem cmpL_neg:∀ l m:List Int,cmpL l m=- cmpL m l
 | [],[]=>by simp [cmpL]
 | [],_::_=>by simp [cmpL]
 | _::_,[]=>by simp [cmpL]
 | x::l,y::m=>by
  unfold cmpL
  by_cases h1:x<y
  ·have h2:¬ y<x:=by omega
   simp [h1,h2]
  ·by_cases h2:y<x
   ·simp [h1,h2]
   ·simp [h1,h2,cmpL_neg l m]
theorem Jjm:∀ {l m n:List Int},cmpL l m<0→cmpL m n<0→cmpL l n<0
 | [],[],_,h,_=>by simp [cmpL] at h
 | _::_,[],_,h,_=>by simp [cmpL] at h
 | [],_::_,[],_,h=>by simp [cmpL] at h
 | [],_::_,_::_,_,_=>by simp [cmpL]
 | _::_,_::_,[],_,h=>by simp [cmpL] at h
 | x::l,y::m,z::n,h1,h2=>by
  unfold cmpL at h1 h2 ⊢
  by_cases hxz:x<z
  ·simp [hxz]
  ·by_cases a1:x<y
   ·have a2:¬ y<z:=by omega
    have a3:z<y:=by omega
    simp [a2,a3] at h2
   ·by_cases a2:y<x
    ·simp [a1,a2] at h1
    ·have e1:x=y:=by omega
     subst e1
     by_cases a3:z<x
     ·simp [hxz,a3] at h2
     ·have a4:¬ x<x:=by omega
      simp only [a4,if_false] at h1;simp only [hxz,a3,if_false] at h2 ⊢;exact Jjm h1 h2
theorem cmpL_lt_or (l m:List Int):cmpL l m<0∨l=m∨cmpL m l<0:=by
 rcases cmpL_vals l m with h | h | h
 ·left;omega
 ·exact .inr (.inl (cmpL_eq h))
 ·right;right;have:=cmpL_neg m l;omega
theorem cmpL_swo {α:Type}(f:α→List Int):Go.Sort.SWO (Go.Proofs.ltOf fun x y=>cmpL (f x) (f y)) where
 irrefl x:=by simp [Go.Proofs.ltOf,Jmg]
 trans x y z h1 h2:=by
  simp only [Go.Proofs.ltOf,decide_eq_true_eq] at *;exact Jjm h1 h2
 ntrans x y z h1 h2:=by
  simp only [Go.Proofs.ltOf,decide_eq_false_iff_not] at *;intro h;rcases cmpL_lt_or (f x) (f y) with a | a | a
  ·exact h1 a
  ·rw [a] at h;exact h2 h
  ·exact h2 (Jjm a h)
theorem cmpL_drop {l m:List Int}{i:Nat}(hl:i<l.length)(hm:i<m.length)(h:cmpL l m=cmpL (l.drop i) (m.drop i)):cmpL l m=if l.getD i 0<m.getD i 0 then -1 else if m.getD i 0<l.getD i 0 then 1 else cmpL (l.drop (i+1)) (m.drop (i+1)):=by
 rw [h,List.drop_eq_getElem_cons hl,List.drop_eq_getElem_cons hm];simp only [yF,xD hl,xD hm,Option.getD_some];rfl
def cmpI (x y:Int):Int:=if x<y then -1 else if y<x then 1 else 0
theorem isNaN_pure (x:Int)(w:World):Calls Tryz.prog 107 #[.int .i64 x] w fun e w'=>e=.returned (.bool false)∧w'=w:=by
 refine enter (args:=[.int .i64 x]) Tryz.func107 rfl Tryz.ntmps107 rfl ?_;rw [Jim];show WC _ _ _ _ (Ji0 0 [.int .i64 x]) (fun w'=>w'=w) _;simp only [Ji0];refine Csr (Za rfl (Nn (Csr (Zm rfl (Zm rfl (Zv (OV.iu rfl rfl) (Za rfl (Nn (WC.az ?_)))))))));exact WX.ret1 rfl rfl rfl (fun w' hw'=>⟨by simp,hw'⟩)
theorem cmpInt_pure (x y:Int)(w:World):Calls Tryz.prog 70 #[.int .i64 x,.int .i64 y] w fun e w'=>e=.returned (.int .i64 (cmpI x y))∧w'=w:=by
 refine enter (args:=[.int .i64 x,.int .i64 y]) Tryz.func70 rfl Tryz.ntmps70 rfl ?_;rw [Jim];show WC _ _ _ _ (Ji0 0 [.int .i64 x,.int .i64 y]) (fun w'=>w'=w) _;simp only [Ji0];refine Csr (Za rfl (Nn (Csr (Zm rfl (WL.mp (ι:=Unit) (vv:=fun _=>.bool false) (SS:=fun _ w'=>w'=w) (by kernel_rfl) rfl rfl (fun w' hw'=>(isNaN_pure x w').mono (fun e w'' ⟨h1,h2⟩=>⟨(),h1,h2.trans hw'⟩)) ?_)))));intro _;refine Za rfl (Nn (Csr (Zm rfl (WL.mp (ι:=Unit) (vv:=fun _=>.bool false) (SS:=fun _ w'=>w'=w) (by kernel_rfl) rfl rfl (fun w' hw'=>(isNaN_pure y w').mono (fun e w'' ⟨h1,h2⟩=>⟨(),h1,h2.trans hw'⟩)) ?_))));intro _;refine Za rfl (Nn (Cs (Csr (Zm rfl (Nn (WC.bu rfl ?_))))));refine Ck (Xn (Cs (Csr (Zm rfl (Nn (WC.bu rfl ?_))))));refine Ck (Xn (Cs (Csr (Zm rfl (Zm rfl (Zv (OV.cq rfl rfl) (Nn ?_)))))));refine Cc rfl (fun c16=>?_) (fun c16=>?_)
 ·refine Csr (Za rfl (Nn (WC.az ?_)));refine Xr ?_;exact WX.ret1 rfl rfl rfl (fun w' hw'=>⟨by simp [cmpI,c16],hw'⟩)
 refine Ck (Xn (Cs (Csr (Zm rfl (Zm rfl (Zv (OV.lj rfl rfl) (Nn ?_)))))));refine Cc rfl (fun c19=>?_) (fun c19=>?_)
 ·refine Csr (Za rfl (Nn (WC.az ?_)));refine Xr ?_;exact WX.ret1 rfl rfl rfl (fun w' hw'=>⟨by simp [cmpI,c16,c19],hw'⟩)
 refine Ck (Xn (Csr (Za rfl (Nn (WC.az ?_)))));exact WX.ret1 rfl rfl rfl (fun w' hw'=>⟨by simp [cmpI,c16,c19],hw'⟩)
theorem compare_pure (l m:List Int)(a1 a2:Option Addr)(n1 c1 n2 c2:Nat)(h1:n1≤9223372036854775807)(h2:n2≤9223372036854775807)(w:World)(hr1:RI w a1 n1 l)(hr2:RI w a2 n2 m):Calls Tryz.prog 137 #[.slice a1 n1 c1,.slice a2 n2 c2] w fun e w'=>e=.returned (.int .i64 (cmpL l m))∧w'=w:=by
 refine enter (args:=[.slice a1 n1 c1,.slice a2 n2 c2]) Tryz.func137 rfl Tryz.ntmps137 rfl ?_;rw [Jim];show WC _ _ _ _ (Ji0 0 [.slice a1 n1 c1,.slice a2 n2 c2]) (fun w'=>w'=w) _;simp only [Ji0];refine Csr (Za rfl (Nn (Cs (Csr (Zm rfl (Zv (OV.ae rfl T.u51) (Zm rfl (Nn (Cb ?_)))))))))
 refine WC.cm (fun (i:Nat)=>[(0,.slice a1 n1 c1),(1,.slice a2 n2 c2),(9,.slice a1 n1 c1),(10,.int .i64 (n1:Int)),(11,.int .i64 (i:Int))])
   (fun i w'=>(i≤n1∧i≤n2∧cmpL l m=cmpL (l.drop i) (m.drop i))∧w'=w)
   (fun i=>n1 - i) 0 Y5 (fun w' hw=>⟨⟨by omega,by omega,rfl⟩,hw⟩) ?_
 intro i;refine WC.pure (fun hi=>?_);obtain ⟨hi0,hi1,hi2⟩:=hi;refine Csr (Zv (OV.cq rfl rfl) (Nn (Cs ?_)));refine Cc rfl (fun c12=>?_) (fun c12=>?_)
 ·refine Ck (Xn (Cs (Cb (Csr (Zm rfl ?_)))));have hil:i<l.length:=by have:=hr1.1;omega
  obtain ⟨q1,rfl⟩:∃ q,a1=some q:=by
   cases a1 with
   | none=>have:=hr1.2.1 rfl;have:=hr1.1;omega
   | some q=>exact ⟨q,rfl⟩
  refine Zv (OV.cd rfl rfl T.u51 T.z3 (by omega)) (Zv (OV.ah rfl T.u3 rfl (fun _ hw=>by rw [hw];exact hr1.cell hil)) (Za rfl (Za rfl (Nn (Cs (Csr (Zm rfl (Zm rfl (Zv (OV.ae rfl T.u51) (Zv (OV.jy rfl rfl) (Nn ?_)))))))))));refine Cc rfl (fun c19=>?_) (fun c19=>?_)
  ·refine Csr (Za rfl (Nn (WC.az ?_)));refine Xr (Xq (Xr (Xr (Xq (Xr ?_)))))
   exact WX.ret1 rfl rfl rfl (fun w' hw'=>⟨by
    have e2:m.drop i=[]:=xW (by have:=hr2.1;omega);have hil:i<l.length:=by have:=hr1.1;omega
    rw [hi2,e2,List.drop_eq_getElem_cons hil];rfl,hw'⟩)
  refine Ck (Xn (Csr (Zm rfl (Zm rfl ?_))));have him:i<m.length:=by have:=hr2.1;omega
  obtain ⟨q2,rfl⟩:∃ q,a2=some q:=by
   cases a2 with
   | none=>have:=hr2.2.1 rfl;have:=hr2.1;omega
   | some q=>exact ⟨q,rfl⟩
  refine Zv (OV.cd rfl rfl T.u51 T.z3 (by omega)) (Zv (OV.ah rfl T.u3 rfl (fun _ hw=>by rw [hw];exact hr2.cell him)) (Za rfl (Nn (Csr (Zm rfl (Zm rfl (WL.mp (ι:=Unit) (vv:=fun _=>.int .i64 (cmpI (l.getD i 0) (m.getD i 0))) (SS:=fun _ w'=>w'=w) (by kernel_rfl) rfl rfl (fun w' hw'=>(cmpInt_pure _ _ w').mono (fun e w'' ⟨h1,h2⟩=>⟨(),h1,h2.trans hw'⟩)) ?_)))))));intro _;have hst:=cmpL_drop hil him hi2;refine Za rfl (Nn (Csr (Zm rfl (Zv (OV.iu rfl rfl) (Nn ?_)))));refine Cc rfl (fun c28=>?_) (fun c28=>?_)
  ·refine Csr (Zm rfl (Za rfl (Nn (WC.az ?_))));refine Xq (Xr (Xr (Xq (Xr ?_))))
   exact WX.ret1 rfl rfl rfl (fun w' hw'=>⟨by
    rw [hst];congr 2;have h0:cmpI (l.getD i 0) (m.getD i 0)≠0:=by simpa using c28
    by_cases g1:l.getD i 0<m.getD i 0
    ·simp only [cmpI,g1,if_true]
    ·by_cases g2:m.getD i 0<l.getD i 0
     ·simp only [cmpI,g1,g2,if_true,if_false]
     ·exact absurd (by simp only [cmpI,g1,g2,if_false]) h0,hw'⟩)
  refine Ck (Xb (Xn (Cr (Zv (OV.fp rfl rfl (by omega)) (Zm rfl (Nl ?_))))));have h0:cmpI (l.getD i 0) (m.getD i 0)=0:=by simpa using c28
  exact WX.bk (i+1) Y5 (fun w' hw=>⟨⟨by omega,by omega,by
   rw [hst];unfold cmpI at h0
   split at h0
   ·simp at h0
   ·rename_i g1;rw [if_neg g1]
    split at h0
    ·simp at h0
    ·rename_i g2;rw [if_neg g2]⟩,hw⟩) (by show n1 - (i+1)<n1 - i;omega)
 refine Ce (Xe (Xe (Xh (Xn (Cs (Csr (Zm rfl (Zv (OV.ae rfl T.u51) (Zm rfl (Zv (OV.ae rfl T.u51) (Zv (OV.cq rfl rfl) (Nn ?_))))))))))));refine Cc rfl (fun c35=>?_) (fun c35=>?_)
 ·refine Csr (Za rfl (Nn (WC.az ?_)));refine Xr ?_
  exact WX.ret1 rfl rfl rfl (fun w' hw'=>⟨by
   have e1:l.drop i=[]:=xW (by have:=hr1.1;omega);have him:i<m.length:=by have:=hr2.1;omega
   rw [hi2,e1,List.drop_eq_getElem_cons him];rfl,hw'⟩)
 refine Ck (Xn (Csr (Za rfl (Nn (WC.az ?_)))))
 exact WX.ret1 rfl rfl rfl (fun w' hw'=>⟨by
  have e1:l.drop i=[]:=xW (by have:=hr1.1;omega);have e2:m.drop i=[]:=xW (by have:=hr2.1;omega);rw [hi2,e1,e2];rfl,hw'⟩)
theorem keyOf_calls (l:List Int)(a:Option Addr)(m c:Nat)(hi:i64s l)(hm:m≤1099511627776)(w:World)(hr:RI w a m l):Calls Tryz.prog 135 #[.slice a m c] w fun e w'=>e=.returned (.string (keyB l))∧Fr0 w w':=by
 refine Jbo (args:=[.slice a m c]) (fun _=>False) Tryz.func135 rfl Tryz.ntmps135 rfl rfl ?_;refine Csr (Za rfl (Nn (Csr (Zm rfl (WL.au (by kernel_rfl) rfl rfl (fun w' hw=>Jj9 l a m c hi hm w' (hr.sat hw)) ?_)))));refine Za rfl (Nn (WC.az ?_));exact WX.ret1 rfl rfl rfl (fun w hw=>⟨rfl,hw.fr⟩)
theorem clone_calls (l:List Int)(a:Option Addr)(m c:Nat)(hm:m≤1099511627776)(w:World)(hr:RI w a m l):Calls Tryz.prog 130 #[.slice a m c] w fun e w'=>∃ a' c',e=.returned (.slice a' l.length c')∧Fr0 w w'∧New w w' (row 3 1 a' l.length c' (ints l)):=by
 refine Jbo (args:=[.slice a m c]) (fun _=>False) Tryz.func130 rfl Tryz.ntmps130 rfl rfl ?_;refine Csr (Za rfl (Nn (Cs (Csr (Zm rfl (Zv (OV.eqlSN T.u51 rfl rfl) (Nn ?_)))))));refine WC.od rfl (fun c4=>?_) (fun c4=>?_)
 ·skip
  refine Csr (Za rfl (Nn (WC.az ?_)));refine Xr ?_;have hn:a=none:=by cases a <;> simp at c4;rfl
  have hl:l=[]:=List.eq_nil_of_length_eq_zero (by rw [hr.1];exact hr.2.1 hn);subst hl;exact WX.ret1 rfl rfl rfl (fun w hw=>⟨none,0,rfl,hw.fr,row_nil _ _ _,fun b ⟨q,hq,_⟩=>by cases hq⟩)
 skip
 refine Ck (Xn (Csr (WL.ia T.u51 T.z3 rfl ?_)));intro b5;refine Zm rfl ?_;have hml:=hr.1;refine WL.append (news:=ints l) rfl rfl T.apI (fun _ hw=>Src.of_ri hml hr.2.1 (fun _ hw=>hr.sat (M:=fun _=>False) hw.drop)) (Jes _) ⟨by omega,by unfold maxLen;omega⟩ rfl ?_;intro a7 c7;refine Za rfl (Nn (WC.az ?_));have hml:=hr.1
 exact WX.ret1 rfl rfl rfl (fun w hw=>⟨a7,c7,by rw [hml,xM],hw.fr,by
  have:=hw.new0 yH;rw [xY,xM,← hml] at this;exact this⟩)
end Go.Proofs.YtgebaodagaecmaaGreatDoor
namespace Go.Hw
set_option linter.unusedVariables false
set_option linter.unusedSimpArgs false
open Go Go.RowKit
variable {w0 ws w w':World} {M I:Nat→Prop} {A A' ow:List Item} {i j:Item}
variable {P:Program} {ops:Array Oper} {Q:Post} {n:Nat} {ds:DS} {e:Env} {rest:List Oper} {c:Code}
variable {dst:Option Tmp} {t lt:TypeId} {p:String} {af:Array Edge} {x y z:Operand} {v u:Value} {d:TypeDesc} {S S':World→Prop} {k:Nat}
theorem OV.toUnsafe {src dt el:TypeId}{a:Addr}{v:Value}{g:Option (Nat × Bool)}(hs:P.underlying src=some (.pointer el))(hd:P.underlying dt=some .unsafePointer)(hsz:(P.info? el).map (fun i=>decide (i.size=0))=some false)(hx:ev e x=some (.pointer (some a)))(hc:∀ w,S w→w.cell? a=some v):
  OV P n ds e S ⟨dst,.convert src dt x,t,p,af,g⟩ (.pointer (some a)):=fun _ w ha hw=>by
 have:=run_convert_to_unsafe hs hd hsz (hc w hw);simp [execOp,ha.eval hx,this]
theorem WL.gg {f:FuncId}{xs:List Operand}{vs:List Value}{ats:Array TypeId}(hv:evs e xs=some vs)(hk:Nat.blt k n=true) 
  (hc:∀ w,S w→(callFunc f vs.toArray).run P w=.ok (.value v) w)
  (h:WL P ops Q n ds ((k,v)::e) S rest):WL P ops Q n ds e S (⟨some k,.call ⟨.value (.func f),xs.toArray,ats⟩,t,p,af,none⟩::rest):=
 WL.extern (ι:=Unit) (vv:=fun _=>v) (SS:=fun _=>S) hv hk (fun w hw=>⟨(),w,hc w hw,hw⟩) (fun _=>h)
theorem WL.extern1 {f:FuncId}{xs:List Operand}{vs:List Value}{ats:Array TypeId}{b o:Nat}{cs:List Value}{T:TypeId}{u:Value}(hv:evs e xs=some vs)(hk:Nat.blt k n=true) 
  (hc:∀ w,w.heap[b]?=some (.cells cs.toArray T (0,0))→(callFunc f vs.toArray).run P w=.ok (.value v) (w.setCell ⟨b,o,none⟩ u))
  (h:WL P ops Q n ds ((k,v)::e) (Sat w0 M I ws (oQ b (cs.set o u) T::ow)) rest):WL P ops Q n ds e (Sat w0 M I ws (oQ b cs T::ow)) (⟨some k,.call ⟨.value (.func f),xs.toArray,ats⟩,t,p,af,none⟩::rest):=by
 refine WL.extern (ι:=Unit) (vv:=fun _=>v) (SS:=fun _=>Sat w0 M I ws (oQ b (cs.set o u) T::ow)) hv hk (fun w hw=>?_) (fun _=>h);have hb:w.heap[b]?=some (.cells cs.toArray T (0,0)):=hw.it _ yH;exact ⟨(),_,hc w hb,hw.store (by rw [setCell_eq_setRow w b o cs.toArray T (0,0) u hb];simp)⟩
theorem WX.oz {fn:Func}{ex:Exit}(hx:isEnd ex=true){R:Ending→World→Prop}{t1 t2 t3:Tmp}{v1 v2 v3:Value}(hr:fn.results=#[.tmp t1,.tmp t2,.tmp t3])(h1:look e t1=some v1)(h2:look e t2=some v2)(h3:look e t3=some v3)(h:∀ w,S w→R (.returned (.tuple #[v1,v2,v3])) w):WX (bodyPostM Fence.wide 0 P fn R) n {} e S ex:=by
 refine WX.n7 hx ?_;intro a w ha hw;refine leaves0 ha.defers ?_ (h w hw);simp [results,hr,loadVar,Array.getD_eq_getD_getElem?,ha.ok _ _ h1,ha.ok _ _ h2,ha.ok _ _ h3]
theorem Jax {w:World}{b o:Nat}{cs:List Value}{T:TypeId}{v:Value}(hb:w.heap[b]?=some (.cells cs.toArray T (0,0)))(hv:cs[o]?=some v):w.cell? ⟨b,o,none⟩=some v∧w.frozen? ⟨b,o,none⟩=false:=by
 constructor
 ·simp [World.cell?,hb,hv]
 ·simp [World.frozen?,hb]
theorem WR.fn1 {fn:Func}{R:Ending→World→Prop}{l:List Deferred}{f:FuncId}{vs:List Value}(hf:bodied P f=true)(hc:∀ w,Sat w0 M I ws (i::ow) w→Holds [i] w→Jmv P f vs.toArray w fun w'=>Turns [i] [j] w w') 
  (h:WR P fn R n l e (Sat w0 M I ws (j::ow))):WR P fn R n (⟨.fn (.func f) #[],vs.toArray⟩::l) e (Sat w0 M I ws (i::ow)):=
 WR.fn (SS:=Sat w0 M I ws (j::ow)) hf (fun w hw=>CallsDIn.mono (hc w hw (Sat.holds (A:=[i]) (ow:=ow) hw)) (fun en u w' ⟨h1,h2,h3⟩=>⟨h1,h2,Sat.turns (A:=[i]) (A':=[j]) (ow:=ow) hw h3⟩)) h
theorem set_same {l:List Value}{o:Nat}{v:Value}(h:l[o]?=some v):l.set o v=l:=by
 apply List.ext_getElem?;intro q;rw [List.getElem?_set]
 split
 ·rename_i hq;subst hq;rw [h,if_pos (List.getElem?_eq_some_iff.1 h).1]
 ·rfl
theorem Sat.turnedL {w w' ws:World}{A A' B:List Item}{I:Nat→Prop}(h:Sat w (DD A) I ws (A'++B) w'):Turns A A' w w':=Sat.turned (Sat.part (List.sublist_append_left _ _) h)
theorem Jl4 {α:Type}{R:List α}(l:List α)(p:List Nat)(h:p.Perm (List.range p.length))(hl:l.length=p.length):(p.filterMap (fun i=>l[i]?)++R).Perm (l++R):=by
 refine List.Perm.append_right R ?_;rw [← hl] at h;have h1:=h.filterMap (fun i=>l[i]?)
 have h2:(List.range l.length).filterMap (fun i=>l[i]?)=l:=by
  have e:(List.range l.length).map (fun i=>l[i]?)=l.map some:=by
   apply List.ext_getElem?;intro i
   by_cases hi:i<l.length
   ·simp [hi]
   ·rw [xV (by simp;omega),xV (by simp;omega)]
  have:=congrArg (List.filterMap id) e
  simpa [List.filterMap_map] using this
 rwa [h2] at h1
def cat {α:Type}:List (List α)→List α
 | []=>[]
 | [a]=>a
 | a::b::l=>a++cat (b::l)
theorem Jik {α:Type}:∀ L:List (List α),cat L=L.flatten
 | []=>rfl
 | [a]=>by simp [cat]
 | a::b::l=>by rw [cat,Jik (b::l)];rfl
theorem perm_cat {α:Type}(L:List (List α))(p:List Nat)(h:p.Perm (List.range p.length))(hl:L.length=p.length):(cat (p.filterMap (fun i=>L[i]?))).Perm (cat L):=by
 rw [Jik,Jik];have:=Jl4 (R:=[]) L p h hl;rw [xZ,xZ] at this;exact this.flatten
theorem WX.focus {x:Exit}{ow':List Item}(hp:ow'.Perm ow)(h:WX Q n ds e (Sat w0 M I ws ow') x):WX Q n ds e (Sat w0 M I ws ow) x:=WX.weak (fun _ hw=>hw.perm hp) h
theorem Sat.pick (L:List (List Item))(p:List Nat)(k:Nat)(hl:L.length=k)(hnd:p.Nodup)(hlt:∀ i∈p,i<k)(h:Sat w0 M I ws (cat L) w):Sat w0 M I ws (cat (p.filterMap fun i=>L[i]?)) w:=by
 have hp:(p++(List.range k).filter fun i=>!p.contains i).Perm (List.range k):=by
  rw [List.perm_ext_iff_of_nodup _ List.nodup_range]
  ·intro i;simp only [xT,List.mem_filter,List.mem_range,Bool.not_eq_true',List.contains_eq_mem,decide_eq_false_iff_not];constructor
   ·rintro (hi | hi)
    ·exact hlt i hi
    ·exact hi.1
   ·intro hi
    by_cases hip:i∈p
    ·exact .inl hip
    ·exact .inr ⟨hi,hip⟩
  ·rw [List.nodup_append];refine ⟨hnd,List.Pairwise.filter _ List.nodup_range,fun a ha b hb e=>?_⟩;subst e;have:=(List.mem_filter.1 hb).2;simp [ha] at this
 have hlen:(p++(List.range k).filter fun i=>!p.contains i).length=k:=by rw [hp.length_eq,List.length_range]
 have h1:=Jl4 (R:=[]) L (p++(List.range k).filter fun i=>!p.contains i) (by rw [hlen];exact hp) (by rw [hlen];exact hl);rw [xZ,xZ,List.filterMap_append] at h1;have h2:=h1.flatten;rw [List.flatten_append] at h2;rw [Jik] at h ⊢;exact Sat.part (List.sublist_append_left _ _) (h.perm h2)
def Keeps (w w':World):Prop:=∀ q v,w.cell? q=some v→w'.cell? q=some v
theorem Keeps.refl (w:World):Keeps w w:=fun _ _ h=>h
theorem Keeps.trans {a b c:World}(h:Keeps a b)(k:Keeps b c):Keeps a c:=fun q v hq=>k q v (h q v hq)
theorem Keeps.fr0 {a b:World}(h:Fr0 a b):Keeps a b:=fun q v hq=>by
 rw [World.cell?_of_block (h.keep _ (World.block_lt_of_cell? _ _ hq) (fun f=>f.elim))];exact hq
theorem Sat.keeps (h:Sat w M (fun b=>b<w.heap.size) w ow w'):Keeps w w':=fun q v hq=>by
 rw [World.cell?_of_block ((h.snap _ (World.block_lt_of_cell? _ _ hq)).2)];exact hq
theorem SatR.keeps {w W w':World}{A0 r:List Item}(hS:Sat w (fun _=>False) (fun b=>b<w.heap.size) w (A0++r) W)(hW:SatR W A0 ow w'):Keeps w w':=fun q v hq=>by
 have h1:=hS.keeps q v hq;have hlt:=World.block_lt_of_cell? _ _ hq;rw [World.cell?_of_block (hW.fr.keep _ (World.block_lt_of_cell? _ _ h1) (fun hd=>?_))]
 ·exact h1
 ·obtain ⟨i,hi,hb⟩:=hd;have:=(hS.lt i (xA _ hi) _ hb).2.1;exact this hlt
end Go.Hw
namespace Go.Hw
open Go
theorem pmP {α:Type}{R:List α}(l:List α)(p:List Nat)(h:p.Perm (List.range p.length):=by decide)(hl:l.length=p.length:=by exact rfl):(p.filterMap (fun i=>l[i]?)++R).Perm (l++R):=Jl4 l p h hl
theorem pmC {α:Type}(L:List (List α))(p:List Nat)(h:p.Perm (List.range p.length):=by decide)(hl:L.length=p.length:=by exact rfl):(cat (p.filterMap (fun i=>L[i]?))).Perm (cat L):=perm_cat L p h hl
theorem Sat.pik {w0 ws w:World}{M I:Nat→Prop}(L:List (List Item))(p:List Nat)(k:Nat)(h:Sat w0 M I ws (cat L) w)(hl:L.length=k:=by exact rfl)(hnd:p.Nodup:=by decide)(hlt:∀ i∈p,i<k:=by decide):Sat w0 M I ws (cat (p.filterMap fun i=>L[i]?)) w:=Sat.pick L p k hl hnd hlt h
end Go.Hw
set_option maxRecDepth 10000
namespace Go.Proofs.YtgebaodagaecmaaGreatDoor
open Go Go.Hw
set_option linter.unusedSimpArgs false
set_option linter.unusedVariables false
theorem disable_run  (w:World):(callFunc 205 #[]).run Tryz.prog w=.ok (.value (.tuple #[])) w:=run_call_mark0 Tryz.func205 (by kernel_rfl) (by kernel_rfl) (by kernel_rfl) .disable (by kernel_rfl) w
theorem enable_run  (w:World):(callFunc 207 #[]).run Tryz.prog w=.ok (.value (.tuple #[])) w:=run_call_mark0 Tryz.func207 (by kernel_rfl) (by kernel_rfl) (by kernel_rfl) .enable (by kernel_rfl) w
theorem acquire_run (a:Addr)(w:World):(callFunc 208 #[.pointer (some a)]).run Tryz.prog w=.ok (.value (.tuple #[])) w:=run_call_marked Tryz.func208 (by kernel_rfl) (by kernel_rfl) (by kernel_rfl) .acquire (by kernel_rfl) a w
theorem releaseMerge_run (a:Addr)(w:World):(callFunc 210 #[.pointer (some a)]).run Tryz.prog w=.ok (.value (.tuple #[])) w:=run_call_marked Tryz.func210 (by kernel_rfl) (by kernel_rfl) (by kernel_rfl) .releaseMerge (by kernel_rfl) a w
theorem Joj {cs:List Value}{o:Nat}{v u:Value}(h:cs[o]?=some v):(cs.set o u)[o]?=some u:=by simp [(List.getElem?_eq_some_iff.1 h).1]
theorem ilock_calls (U b o:Nat)(cs:List Value)(ho:cs[o]?=some (.int .i32 0))(w:World)(hA:Holds [oQ b cs U] w):Calls Tryz.prog 176 #[.pointer (some ⟨b,o,none⟩)] w fun e w'=>e=.returned (.tuple #[])∧Turns [oQ b cs U] [oQ b (cs.set o (.int .i32 1)) U] w w':=by
 refine Jdt hA (args:=[.pointer (some ⟨b,o,none⟩)]) Tryz.func176 rfl Tryz.ntmps176 rfl rfl ?_;refine Csr (WL.gg rfl rfl (fun w' _=>disable_run w') ?_);refine Nn (Cs (Csr (Zm rfl (Zv (OV.ak rfl) (Zv (OV.cz (off:=0) rfl T.u165 rfl) (WL.extern1 (b:=b) (o:=o) (u:=.int .i32 1) rfl rfl (fun w' hb=>run_call_cas_hit (P:=Tryz.prog) Tryz.func206 (by kernel_rfl) (by kernel_rfl) (by kernel_rfl) .i32 (by kernel_rfl) (y:=1) (Jax hb ho).1 (Jax hb ho).2) ?_))))));refine Nn (WC.co rfl ?_);refine Cs (WC.co rfl ?_);refine Csr (WL.gg rfl rfl (fun w' _=>enable_run w') ?_);refine Nn (Cr (Zm rfl (Zv (OV.toUnsafe T.u270 T.u274 (by kernel_rfl) rfl (fun _ hw=>(Jax (hw.it _ yH) (Joj ho)).1)) (WL.gg rfl rfl (fun w' _=>acquire_run _ w') ?_))));refine Nn (WC.az ?_);refine Xr ?_;exact WX.ret0 rfl rfl (fun w hw=>⟨rfl,hw.turned⟩)
theorem iunlock_calls (U b o:Nat)(cs:List Value)(ho:cs[o]?=some (.int .i32 1))(w:World)(hA:Holds [oQ b cs U] w):Calls Tryz.prog 177 #[.pointer (some ⟨b,o,none⟩)] w fun e w'=>e=.returned (.tuple #[])∧Turns [oQ b cs U] [oQ b (cs.set o (.int .i32 0)) U] w w':=by
 refine Jdt hA (args:=[.pointer (some ⟨b,o,none⟩)]) Tryz.func177 rfl Tryz.ntmps177 rfl rfl ?_;refine Cs (WC.co rfl ?_);refine Csr (Zm rfl (Zv (OV.ak rfl) (Zv (OV.cz (off:=0) rfl T.u165 rfl) (Zv (OV.ah rfl T.u21 rfl (fun _ hw=>(Jax (hw.it _ yH) ho).1)) (Nn (Csr (Zm rfl (Zv (OV.toUnsafe T.u270 T.u274 (by kernel_rfl) rfl (fun _ hw=>(Jax (hw.it _ yH) ho).1)) (WL.gg rfl rfl (fun w' _=>releaseMerge_run _ w') ?_)))))))));refine Nn (Cr (WL.gg rfl rfl (fun w' _=>disable_run w') ?_));refine Nn (Csr (Zm rfl (Zv (OV.ak rfl) (Zv (OV.cz (off:=0) rfl T.u165 rfl) (WL.extern1 (b:=b) (o:=o) (u:=.int .i32 0) rfl rfl (fun w' hb=>run_call_add (P:=Tryz.prog) Tryz.func211 (by kernel_rfl) (by kernel_rfl) (by kernel_rfl) .i32 (by kernel_rfl) (y:=-1) (s:=0) (Jax hb ho).1 (Jax hb ho).2 (by simp [go_sem];rfl)) ?_)))));refine Za rfl (Nn (Cs (Csr (Zm rfl (Zv (OV.iu rfl rfl) (Nn (WC.bu rfl ?_)))))));refine Ck (Xn (Cr (WL.gg rfl rfl (fun w' _=>enable_run w') ?_)));refine Nl ?_;exact WX.ret0 rfl rfl (fun w hw=>⟨rfl,hw.turned⟩)
theorem lock_calls (U b o:Nat)(cs:List Value)(ho:cs[o]?=some (.int .i32 0))(w:World)(hA:Holds [oQ b cs U] w):Calls Tryz.prog 166 #[.pointer (some ⟨b,o,none⟩)] w fun e w'=>e=.returned (.tuple #[])∧Turns [oQ b cs U] [oQ b (cs.set o (.int .i32 1)) U] w w':=by
 refine Jdt hA (args:=[.pointer (some ⟨b,o,none⟩)]) Tryz.func166 rfl Tryz.ntmps166 rfl rfl ?_;refine Cr (Zm rfl (Zv (OV.ak rfl) (Zv (OV.cz (off:=0) rfl T.u167 rfl) (WL.fo (ι:=Unit) (vv:=fun _=>.tuple #[]) (pp:=fun _=>True) (jj:=fun _=>oQ b (cs.set o (.int .i32 1)) U) (by kernel_rfl) rfl rfl (fun w' hw' hH=>(ilock_calls U b o cs ho w' hH).mono (fun e w' ⟨h1,h2⟩=>⟨(),h1,trivial,h2⟩)) ?_))));rintro _ _;refine Nl ?_;exact WX.ret0 rfl rfl (fun w hw=>⟨rfl,hw.turned⟩)
theorem unlock_calls (U b o:Nat)(cs:List Value)(ho:cs[o]?=some (.int .i32 1))(w:World)(hA:Holds [oQ b cs U] w):Jmv Tryz.prog 167 #[.pointer (some ⟨b,o,none⟩)] w fun w'=>Turns [oQ b cs U] [oQ b (cs.set o (.int .i32 0)) U] w w':=by
 refine enterD [oQ b cs U] hA (args:=[.pointer (some ⟨b,o,none⟩)]) Tryz.func167 rfl Tryz.ntmps167 rfl rfl ?_;refine Cr (Zm rfl (Zv (OV.ak rfl) (Zv (OV.cz (off:=0) rfl T.u167 rfl) (WL.fo (ι:=Unit) (vv:=fun _=>.tuple #[]) (pp:=fun _=>True) (jj:=fun _=>oQ b (cs.set o (.int .i32 0)) U) (by kernel_rfl) rfl rfl (fun w' hw' hH=>(iunlock_calls U b o cs ho w' hH).mono (fun e w' ⟨h1,h2⟩=>⟨(),h1,trivial,h2⟩)) ?_))));rintro _ _;refine Nl ?_;exact WX.retD rfl rfl (fun w hw=>hw.turned)
structure Ent where
 p:Nat
 a:Option Addr
 c:Nat
 row:List Int
 part:Nat
structure Col where
 a:Option Addr
 c:Nat
 l:List Int
structure Grp where
 k:ByteArray
 a:Option Addr
 c:Nat
 ps:List Nat
structure Idx where
 p:Nat
 mb:Nat
 col:Col
 gs:List Grp
structure RelG where
 r:Nat
 mb:Nat
 ib:Nat
 width:Nat
 es:List Ent
 fa:Option Addr
 fc:Nat
 fs:List Nat
 na:Option Addr
 nc:Nat
 ns:List Nat
 cols:List Col
 ix:List Idx
def ptr (p:Nat):Value:=.pointer (some ⟨p,0,none⟩)
def ptrs (l:List Nat):List Value:=l.map ptr
theorem ptrs_get {l:List Nat}{i p:Nat}(h:l[i]?=some p):(ptrs l)[i]?=some (ptr p):=by simp [ptrs,h]
def entC (e:Ent):List Value:=[.slice e.a e.row.length e.c,.int .i64 (e.part:Int)]
def entA (e:Ent):List Hw.Item:=[oQ e.p (entC e) 184,row 3 1 e.a e.row.length e.c (ints e.row)]
def colA (c:Col):List Hw.Item:=[row 3 1 c.a c.l.length c.c (ints c.l)]
def grpA (g:Grp):List Hw.Item:=[row 181 1 g.a g.ps.length g.c (ptrs g.ps)]
def grpM (gs:List Grp):List (ByteArray × Value):=gs.map fun g=>(g.k,.slice g.a g.ps.length g.c)
def idxC (x:Idx):List Value:=[.slice x.col.a x.col.l.length x.col.c,.map (some x.mb)]
def idxA (x:Idx):List Hw.Item:=oQ x.p (idxC x) 215::own x.mb (mapK Value.string (grpM x.gs))::x.gs.flatMap grpA
def cnt (es:List Ent)(q:Nat):Nat:=(es.filter fun e=>e.part=q).length
def counts (es:List Ent):List Int:=(List.range 8).map fun q=>(cnt es q:Int)
def hdC (width mb:Nat)(f n:Value)(cts:List Int)(ib:Nat):List Value:=[.int .i64 (width:Int),.map (some mb),f,n]++(ints cts++[.map (some ib),.int .i32 0,.int .u32 0])
def rowsM (es:List Ent):List (ByteArray × Value):=es.map fun e=>(keyB e.row,ptr e.p)
def ixM (ix:List Idx):List (ByteArray × Value):=ix.map fun x=>(keyB x.col.l,ptr x.p)
def fslice (g:RelG):Value:=.slice g.fa g.fs.length g.fc
def nslice (g:RelG):Value:=.slice g.na g.ns.length g.nc
abbrev hdA (r:Nat)(cs:List Value):Hw.Item:=oQ r cs 169
abbrev psA (a:Option Addr)(c:Nat)(l:List Nat):Hw.Item:=row 181 1 a l.length c (ptrs l)
def tailA (es:List Ent)(cols:List Col)(ix:List Idx):List Hw.Item:=es.flatMap entA++(cols.flatMap colA++ix.flatMap idxA)
def relA (g:RelG):List Hw.Item:=
 hdA g.r (hdC g.width g.mb (fslice g) (nslice g) (counts g.es) g.ib)::own g.mb (mapK Value.string (rowsM g.es))::own g.ib (mapK Value.string (ixM g.ix))::psA g.fa g.fc g.fs::psA g.na g.nc g.ns::tailA g.es g.cols g.ix
def psOf (gs:List Grp)(k:ByteArray):List Nat:=((gs.find? fun g=>g.k=k).map (·.ps)).getD []
def ixKey (c:Col)(e:Ent):ByteArray:=keyB (pickL e.row c.l)
structure IdxOK (es:List Ent) (x:Idx):Prop where
 keys:(x.gs.map (·.k)).Nodup
 ps:∀ k,(psOf x.gs k).Perm ((es.filter fun e=>ixKey x.col e=k).map (·.p))
structure RelOK (g:RelG):Prop where
 wid:∀ e∈g.es,e.row.length=g.width
 i64:∀ e∈g.es,i64s e.row
 part:∀ e∈g.es,e.part=1∨e.part=2∨e.part=4
 rows:(g.es.map (·.row)).Nodup
 ptrs:(g.es.map (·.p)).Nodup
 fs:g.fs=(g.es.filter fun e=>e.part=2).map (·.p)
 ns:g.ns=(g.es.filter fun e=>e.part=4).map (·.p)
 cols:∀ c∈g.cols,∀ k∈c.l,0≤k∧k<g.width
 ixc:∀ x∈g.ix,x.col∈g.cols
 ixk:(g.ix.map fun x=>x.col.l).Nodup
 ix:∀ x∈g.ix,IdxOK g.es x
 coll:∀ c∈g.cols,c.l.length≤1099511627776
 wl:g.width≤9223372036854775807
 el:g.es.length≤1099511627776
 rl:∀ e∈g.es,e.row.length≤1099511627776
def RelG.empty (r mb ib width:Nat):RelG:=⟨r,mb,ib,width,[],none,0,[],none,0,[],[],[]⟩
theorem RelOK.empty {r mb ib width:Nat}(h:width≤9223372036854775807):RelOK (RelG.empty r mb ib width):=
 ⟨by simp [RelG.empty],by simp [RelG.empty],by simp [RelG.empty],by simp [RelG.empty],by simp [RelG.empty],rfl,rfl,by simp [RelG.empty],by simp [RelG.empty],by simp [RelG.empty],by simp [RelG.empty],by simp [RelG.empty],h,by simp [RelG.empty],by simp [RelG.empty]⟩
theorem Jfv {width mb:Nat}{f n:Value}{cts:List Int}{ib:Nat}(h:cts.length=8):(hdC width mb f n cts ib).length=15:=by simp [hdC,Jds,h]
theorem Jbz (es:List Ent):(counts es).length=8:=by simp [counts]
theorem Jff {es:List Ent}{q:Nat}(h:q<8):(counts es)[q]?=some (cnt es q:Int):=by simp [counts,h]
theorem Jos {width mb:Nat}{f n:Value}{cts:List Int}{ib q:Nat}{v:Int}(h:cts[q]?=some v):(hdC width mb f n cts ib)[4+q]?=some (.int .i64 v):=by
 have hq:=(List.getElem?_eq_some_iff.1 h).1;rw [hdC,List.getElem?_append_right (by simp),List.getElem?_append_left (by rw [Jds];simpa using hq)]
 simpa using Jni h
theorem Joq {width mb:Nat}{f n:Value}{cts:List Int}{ib q:Nat}{v:Int}(h:q<cts.length):(hdC width mb f n cts ib).set (4+q) (.int .i64 v)=hdC width mb f n (cts.set q v) ib:=by
 have hl:([.int .i64 (width:Int),.map (some mb),f,n]:List Value).length=4:=rfl;rw [hdC,hdC,List.set_append_right _ _ (by rw [hl];omega),hl,Nat.add_sub_cancel_left,List.set_append_left _ _ (by rw [Jds];exact h)];congr 2;simp [ints,List.map_set]
theorem Jpj {width mb:Nat}{f n:Value}{cts:List Int}{ib:Nat}(h:cts.length=8):(hdC width mb f n cts ib)[12]?=some (.map (some ib)):=by
 rw [hdC,List.getElem?_append_right (by simp),List.getElem?_append_right (by rw [Jds,h];simp),Jds,h];rfl
theorem Jor {width mb:Nat}{f n:Value}{cts:List Int}{ib:Nat}(h:cts.length=8):(hdC width mb f n cts ib)[13]?=some (.int .i32 0):=by
 rw [hdC,List.getElem?_append_right (by simp),List.getElem?_append_right (by rw [Jds,h];simp),Jds,h];rfl
theorem hdC_set3 (width mb:Nat)(f n v:Value)(cts:List Int)(ib:Nat):(hdC width mb f n cts ib).set 3 v=hdC width mb f v cts ib:=rfl
theorem Jgs {α:Type}(f:α→List Hw.Item)(l1 l2:List α)(x:α):(f x++(l1++l2).flatMap f).Perm ((l1++x::l2).flatMap f):=by
 have e:(l1++x::l2).flatMap f=l1.flatMap f++(f x++l2.flatMap f):=by simp
 rw [e,List.flatMap_append,← xF,← xF];exact List.Perm.append_right _ List.perm_append_comm
theorem Jmj {A B C:List Hw.Item}:(B++(A++C)).Perm (A++(B++C)):=by
 rw [← xF,← xF];exact List.Perm.append_right _ List.perm_append_comm
theorem Jm8 (l1 l2:List Ent)(e:Ent)(cols:List Col)(ix:List Idx):(entA e++tailA (l1++l2) cols ix).Perm (tailA (l1++e::l2) cols ix):=by
 unfold tailA;rw [← xF];exact List.Perm.append_right _ (Jgs entA l1 l2 e)
theorem Jm9 (es:List Ent)(l1 l2:List Col)(c:Col)(ix:List Idx):(colA c++tailA es (l1++l2) ix).Perm (tailA es (l1++c::l2) ix):=by
 unfold tailA;refine Jmj.trans (List.Perm.append_left _ ?_);rw [← xF];exact List.Perm.append_right _ (Jgs colA l1 l2 c)
theorem Jm7 (es:List Ent)(cols:List Col)(l1 l2:List Idx)(x:Idx):(idxA x++tailA es cols (l1++l2)).Perm (tailA es cols (l1++x::l2)):=by
 unfold tailA;refine Jmj.trans (List.Perm.append_left _ ?_);refine Jmj.trans (List.Perm.append_left _ ?_);exact Jgs idxA l1 l2 x
theorem Jj5 {α:Type}{l:List α}{x:α}(h:x∈l):∃ l1 l2,l=l1++x::l2:=by
 obtain ⟨l1,l2,rfl⟩:=List.append_of_mem h;exact ⟨l1,l2,rfl⟩
theorem Jlv {α:Type}{l:List α}{k:Nat}{x:α}(h:l[k]?=some x):∃ l1 l2,l=l1++x::l2∧l1.length=k:=by
 obtain ⟨hk,rfl⟩:=List.getElem?_eq_some_iff.1 h;exact ⟨l.take k,l.drop (k+1),by rw [← List.drop_eq_getElem_cons hk,List.take_append_drop],by simp;omega⟩
theorem own_mem_ent {es:List Ent}{e:Ent}(h:e∈es){cols:List Col}{ix:List Idx}:oQ e.p (entC e) 184∈tailA es cols ix:=
 xA _ (List.mem_flatMap.2 ⟨e,h,.head _⟩)
theorem row_mem_ent {es:List Ent}{e:Ent}(h:e∈es){cols:List Col}{ix:List Idx}:row 3 1 e.a e.row.length e.c (ints e.row)∈tailA es cols ix:=
 xA _ (List.mem_flatMap.2 ⟨e,h,.tail _ yH⟩)
theorem mem_col {es:List Ent}{cols:List Col}{c:Col}(h:c∈cols){ix:List Idx}:row 3 1 c.a c.l.length c.c (ints c.l)∈tailA es cols ix:=
 xB _ (xA _ (List.mem_flatMap.2 ⟨c,h,.head _⟩))
theorem Jlo {es:List Ent}{cols:List Col}{ix:List Idx}{x:Idx}(h:x∈ix){i:Hw.Item}(hi:i∈idxA x):i∈tailA es cols ix:=
 xB _ (xB _ (List.mem_flatMap.2 ⟨x,h,hi⟩))
theorem Sat.sepO {w0 ws w:World}{M I:Nat→Prop}{A ow:List Hw.Item}(h:Sat w0 M I ws (A++ow) w){i:Hw.Item}(hi:i∈ow){b:Nat}(hb:i.D b):¬ DD A b:=fun ⟨j,hj,hjb⟩=>(List.pairwise_append.1 h.disj).2.2 j hj i hi b hjb hb
theorem RI.satA {w w':World}{A ow:List Hw.Item}{a:Option Addr}{m:Nat}{l:List Int}(h:RI w a m l)(hne:∀ b,a=some b→0<m→¬ DD A b.block)(hw:Sat w (DD A) (fun b=>b<w.heap.size∧¬ DD A b) w ow w'):RI w' a m l:=h.fr hne hw.fr
theorem new_calls (wd:Nat)(w:World):Calls Tryz.prog 92 #[.int .i64 (wd:Int)] w fun e w'=>∃ r mb ib,e=.returned (.tuple #[ptr r,.int .i64 0])∧Turns [] (relA (RelG.empty r mb ib wd)) w w':=by
 refine Jdt (show Holds [] w from ⟨fun _ h=>(by cases h),fun _ h=>(by cases h),.nil⟩) (args:=[.int .i64 (wd:Int)]) Tryz.func92 rfl Tryz.ntmps92 rfl rfl ?_;refine Csr (Za rfl (Za rfl (Nn (Cs (Csr (Zm rfl (Zv (OV.cq rfl rfl) (Nn (WC.bu (show _=some (Value.bool false) from by exact congrArg (fun b=>some (Value.bool b)) (xP (by omega))) ?_)))))))));refine Ck (Xn (Csr (Zm rfl (WL.makeMap (Value.string) rfl ?_))));intro m7;refine WL.makeMap (Value.string) rfl ?_;intro m8;refine Zv (OV.ao (xs:=[(0,.tmp 6),(1,.tmp 7),(5,.tmp 8)]) (pl:=[(0,1),(1,1),(2,1),(3,1),(4,8),(12,1),(13,2)]) (cs:=hdC wd m7 (.slice none 0 0) (.slice none 0 0) (counts []) m8) T.u169 T.zr169 (by kernel_rfl) rfl (Jal (us:=[_]) rfl rfl (by first | decide | simp) (Jal (us:=[_]) rfl rfl (by first | decide | simp) (Jal (us:=[_]) rfl rfl (by first | decide | simp) rfl)))) (WL.box rfl rfl rfl ?_);intro b10;refine Za rfl (Za rfl (Nn (WC.az ?_)))
 exact WX.ret2 rfl rfl rfl rfl (fun w' hw=>⟨b10,m7,m8,rfl,by
  have h1:=hw.rowNil 181 1;have h2:=h1.rowNil 181 1;have h3:=h2.perm (ow':=relA (RelG.empty b10 m7 m8 wd)) (List.Perm.trans (perm2 (ow:=_)) (List.reverse_perm [_,_,_,_,_]));exact h3.turned⟩)
theorem spot_map {es:List Ent}{l:List Int}:∀ i,(spot (rowsM es) (keyB l) i).map (·.2)=(es.find? fun e=>e.row=l).map fun e=>ptr e.p:=by
 induction es with
 | nil=>intro i;rfl
 | cons e es ih=>
  intro i;rw [rowsM,yC];unfold spot
  by_cases h:e.row=l
  ·rw [if_pos (by rw [h])];simp [h]
  ·rw [if_neg (fun h2=>h (Jky h2).symm)];rw [List.find?_cons_of_neg (by simpa using h)];exact ih (i+1)
theorem rowsM_got (es:List Ent)(l:List Int):(got (rowsM es) (keyB l)).getD (.pointer none)=.pointer ((es.find? fun e=>e.row=l).map fun e=>⟨e.p,0,none⟩):=by
 rw [got,spot_map];cases es.find? fun e=>e.row=l <;> rfl
theorem relA_hd {g:RelG}{w:World}(h:Holds (relA g) w):w.heap[g.r]?=some (.cells (hdC g.width g.mb (fslice g) (nslice g) (counts g.es) g.ib).toArray 169 (0,0)):=h.φ _ yH
def inP (parts:Int)(p:Nat):Bool:=!decide (bits .and .i64 parts (p:Int)=0)
def lenOf (es:List Ent)(parts:Int):Nat:=(es.filter fun e=>inP parts e.part).length
theorem Jmf (e:Ent)(es:List Ent)(q:Nat):cnt (e::es) q=(if e.part=q then 1 else 0)+cnt es q:=by
 unfold cnt;rw [List.filter_cons]
 split <;> simp_all <;> omega
theorem Jgv (l m:List Ent)(q:Nat):cnt (l++m) q=cnt l q+cnt m q:=by simp [cnt]
theorem Jpl (es:List Ent)(q:Nat):cnt es q≤es.length:=List.length_filter_le _ _
def mvE (ps:List Nat)(q:Nat)(e:Ent):Ent:=if e.p∈ps then { e with part:=q } else e
def mv (es:List Ent)(ps:List Nat)(q:Nat):List Ent:=es.map (mvE ps q)
theorem mvE_p (ps:List Nat)(q:Nat)(e:Ent):(mvE ps q e).p=e.p∧(mvE ps q e).row=e.row∧(mvE ps q e).a=e.a∧(mvE ps q e).c=e.c:=by
 unfold mvE;split <;> simp
theorem mv_nil (es:List Ent)(q:Nat):mv es [] q=es:=by
 have:mvE [] q=id:=by funext e;simp [mvE]
 rw [mv,this,List.map_id]
theorem nd_inj {α:Type}{l:List α}(h:l.Nodup){i j:Nat}(hi:i<l.length)(hj:j<l.length)(he:l[i]=l[j]):i=j:=by
 rcases Nat.lt_trichotomy i j with hlt | hlt | hlt
 ·exact absurd he ((List.pairwise_iff_getElem.1 h) i j hi hj hlt)
 ·exact hlt
 ·exact absurd he.symm ((List.pairwise_iff_getElem.1 h) j i hj hi hlt)
theorem Jo9 {es:List Ent}(hn:(es.map (·.p)).Nodup){x y:Ent}(hx:x∈es)(hy:y∈es)(h:x.p=y.p):x=y:=by
 obtain ⟨i,hi,rfl⟩:=List.mem_iff_getElem.1 hx;obtain ⟨j,hj,rfl⟩:=List.mem_iff_getElem.1 hy;have:=nd_inj hn (i:=i) (j:=j) (by simpa using hi) (by simpa using hj) (by simpa using h);subst this;rfl
theorem Jnd {w:World}{T c m:Nat}{a:Option Addr}{xs:List Value}(h:(row T 1 a m c xs).φ w)(hm:0<m):∃ b,a=some ⟨b,0,none⟩:=by
 have h2:w.ownsRow 0 T 1 (.slice a m c) m xs:=h;rcases h2.2 with ⟨hv,h0⟩ | ⟨g,cc,cur,hv,_⟩
 ·omega
 ·simp only [Value.slice.injEq] at hv;exact ⟨g,hv.1⟩
theorem mv_snoc {es:List Ent}{ps:List Nat}{q p:Nat}(hn:(es.map (·.p)).Nodup)(hp:p∈es.map (·.p))(hnp:p∉ps):
  ∃ l1 e l2,mv es ps q=l1++e::l2∧e.p=p∧e∈es∧mv es (ps++[p]) q=l1++{ e with part:=q }::l2:=by
 obtain ⟨e,he,rfl⟩:=List.mem_map.1 hp;obtain ⟨m1,m2,rfl⟩:=Jj5 he
 have h1:∀ x∈m1++m2,x.p≠e.p:=by
  intro x hx hh;rw [xU,yC] at hn;have hn2:=List.nodup_append.1 hn;rcases List.mem_append.1 hx with hx | hx
  ·exact hn2.2.2 _ (List.mem_map.2 ⟨x,hx,rfl⟩) _ yH hh
  ·exact (List.nodup_cons.1 hn2.2.1).1 (List.mem_map.2 ⟨x,hx,hh⟩)
 have key:∀ l:List Ent,(∀ x∈l,x.p≠e.p)→mv l (ps++[e.p]) q=mv l ps q:=by
  intro l hl;unfold mv;apply List.map_congr_left;intro x hx;unfold mvE;have:x.p∈ps++[e.p]↔x.p∈ps:=by simp [hl x hx]
  simp only [this]
 refine ⟨mv m1 ps q,e,mv m2 ps q,?_,rfl,by simp,?_⟩
 ·simp [mv,mvE,hnp]
 ·have k1:=key m1 (fun x hx=>h1 x (xA _ hx));have k2:=key m2 (fun x hx=>h1 x (xB _ hx));rw [← k1,← k2];simp [mv,mvE]
theorem counts_move (l1 l2:List Ent)(e:Ent)(q:Nat)(he:e.part<8)(hq:q<8)(hne:e.part≠q):
  ((counts (l1++e::l2)).set e.part ((cnt (l1++e::l2) e.part:Int) - 1)).set q ((cnt (l1++e::l2) q:Int)+1)=counts (l1++{ e with part:=q }::l2):=by
 apply List.ext_getElem?;intro i
 by_cases hi:i<8
 ·rw [Jff hi,List.getElem?_set,List.getElem?_set,Jff hi,Jgv,Jmf,Jgv,Jmf,Jgv,Jmf,Jgv,Jmf];simp only [Jbz,List.length_set]
  by_cases h1:q=i
  ·subst h1;simp [hq,hne];omega
  ·by_cases h2:e.part=i
   ·subst h2;simp [h1,he,Ne.symm h1];omega
   ·simp [h1,h2]
 ·rw [xV (by simp [counts];omega),xV (by simp [counts];omega)]
theorem entC_set (e:Ent)(q:Nat):(entC e).set 1 (.int .i64 (q:Int))=entC { e with part:=q }:=rfl
theorem Jl6 (es:List Ent)(ps:List Nat)(q:Nat):(mv es ps q).length=es.length:=by simp [mv]
theorem move_calls (r wd mb ib:Nat)(f n:Value)(la:Option Addr)(lc:Nat)(ps:List Nat)(es:List Ent)(q0 q:Nat)(hq0:q0<8)(hq:q<8)(hne:q0≠q)(hps:ps.Nodup)(hnd:(es.map (·.p)).Nodup)(hin:∀ p∈ps,∃ e∈es,e.p=p∧e.part=q0)(hel:es.length≤1099511627776)(hpl:ps.length≤1099511627776)(w:World)(hA:Holds (hdA r (hdC wd mb f n (counts es) ib)::psA la lc ps::es.flatMap entA) w):
 Calls Tryz.prog 95 #[.pointer (some ⟨r,0,none⟩),.slice la ps.length lc,.int .i64 (q:Int)] w fun e w'=>e=.returned (.tuple #[])∧Turns (hdA r (hdC wd mb f n (counts es) ib)::psA la lc ps::es.flatMap entA) (hdA r (hdC wd mb f n (counts (mv es ps q)) ib)::psA la lc ps::(mv es ps q).flatMap entA) w w':=by
 refine Jdt hA (args:=[.pointer (some ⟨r,0,none⟩),.slice la ps.length lc,.int .i64 (q:Int)]) Tryz.func95 rfl Tryz.ntmps95 rfl rfl ?_;refine Csr (Zm rfl (Zv (OV.ae rfl T.u158) (Zm rfl (Nn (Cb ?_)))))
 refine WC.cm (fun (i:Nat)=>[(0,yZ r),(2,.int .i64 (q:Int)),(8,.slice la ps.length lc),(9,.int .i64 (ps.length:Int)),(10,.int .i64 (i:Int))])
   (fun i w'=>i≤ps.length∧Sat w (DD (hdA r (hdC wd mb f n (counts es) ib)::psA la lc ps::es.flatMap entA)) (fun b=>b<w.heap.size∧¬ DD (hdA r (hdC wd mb f n (counts es) ib)::psA la lc ps::es.flatMap entA) b) w (hdA r (hdC wd mb f n (counts (mv es (ps.take i) q)) ib)::psA la lc ps::(mv es (ps.take i) q).flatMap entA) w')
   (fun i=>ps.length - i) 0 Y5 (fun w' hw=>⟨by omega,by rw [List.take_zero,mv_nil];exact hw⟩) ?_
 intro i;refine WC.pure (fun hi=>?_);refine Csr (Zv (OV.cq rfl rfl) (Nn (Cs ?_)));refine Cc rfl (fun c11=>?_) (fun c11=>?_)
 ·refine Ck (Xn (Cs (Cb (Csr ?_))));have hil:i<ps.length:=by omega
  have hpi:ps[i]?=some ps[i]:=xD hil
  have hnt:ps[i]∉ps.take i:=by
   intro hh;obtain ⟨j,hj,hje⟩:=List.mem_iff_getElem.1 hh;rw [List.getElem_take] at hje;simp only [xJ] at hj;have:=nd_inj hps (i:=j) (j:=i) (by omega) hil hje;omega
  obtain ⟨e0,he0,hep0,heq0⟩:=hin _ (List.getElem_mem hil);obtain ⟨l1,e,l2,hsp,hep,hee,hst⟩:=mv_snoc (q:=q) hnd (List.mem_map.2 ⟨e0,he0,hep0⟩) hnt;have heq:e.part=q0:=by rw [Jo9 hnd hee he0 (hep.trans hep0.symm),heq0]
  have htk:ps.take (i+1)=ps.take i++[ps[i]]:=by rw [List.take_add_one,hpi];rfl
  rw [← htk] at hst;have hcl:cnt (l1++e::l2) q0≤es.length:=by rw [← hsp,← Jl6 es (ps.take i) q];exact Jpl _ _
  have hcl2:cnt (l1++e::l2) q≤es.length:=by rw [← hsp,← Jl6 es (ps.take i) q];exact Jpl _ _
  refine WL.weak (S':=Sat w (DD (hdA r (hdC wd mb f n (counts es) ib)::psA la lc ps::es.flatMap entA)) (fun b=>b<w.heap.size∧¬ DD (hdA r (hdC wd mb f n (counts es) ib)::psA la lc ps::es.flatMap entA) b) w (oQ e.p (entC e) 184::hdA r (hdC wd mb f n (counts (l1++e::l2)) ib)::psA la lc ps::row 3 1 e.a e.row.length e.c (ints e.row)::(l1++l2).flatMap entA)) (fun w' hw=>?_) ?_
  ·rw [hsp] at hw;refine hw.perm ?_;refine List.Perm.trans ?_ (List.Perm.cons _ (List.Perm.cons _ (Jgs entA l1 l2 e)));exact perm2
  obtain ⟨lb,rfl⟩:=Jnd (hA.φ _ yI) (by omega);refine Zv (OV.dp rfl rfl T.u158 T.z181 (by omega)) (Zv (OV.ah (v:=ptr e.p) rfl T.u181 rfl (fun _ hw=>by rw [hep];have:=Jdr hw yJ i _ (ptrs_get hpi);rwa [Jap,xM] at this)) (Za rfl (Nn (Cs (Hq [13] (m:=14) rfl ?_)))));refine Hf 0 rfl (OV.aw rfl) (Hf 1 rfl (OV.aw rfl) (Hf 2 rfl (OV.ak rfl) (Hf 3 rfl (OV.f0 1 rfl T.u184 rfl) (Ht 4 rfl (OV.ah (v:=.int .i64 (q0:Int)) rfl T.u3 rfl (fun _ hw=>Jbn hw yH (by rw [← heq];rfl))) (Hf 5 rfl (OV.ak rfl) (Hf 6 rfl (OV.f0 4 rfl T.u169 rfl) (Hf 7 rfl (OV.ey rfl rfl T.u159 T.z3 (by omega)) ?_)))))));refine Ht 8 rfl (OV.ah (v:=.int .i64 (cnt (l1++e::l2) q0:Int)) rfl T.u3 rfl (fun _ hw=>Jbn hw yI (by rw [List.getElem?_toArray];exact Jos (Jff hq0)))) ?_;refine Hf 9 rfl (OV.m3 rfl rfl (by omega)) (Hf 10 rfl (OV.ak rfl) (Hf 11 rfl (OV.f0 4 rfl T.u169 rfl) (Hf 12 rfl (OV.ey rfl rfl T.u159 T.z3 (by omega)) (Ho 13 rfl (fl':=true) rfl ?_))));refine WL.focus perm1 (WL.bw (o:=4+q0) rfl rfl rfl T.z3 (by rw [Jfv (Jbz _)];omega) ?_);rw [Joq (by rw [Jbz];exact hq0)];refine Hc (fun h=>by cases h) ?_;refine He (Xn (Csr (Zm rfl (Zm rfl (Zv (OV.ak rfl) (Zv (OV.f0 1 rfl T.u184 rfl) ?_))))));refine WL.focus perm1 (WL.bw (o:=1) rfl rfl rfl T.z3 (by simp [entC]) ?_);rw [entC_set];refine Nn (Hq [10] (m:=11) rfl ?_);refine Hf 0 rfl (OV.aw rfl) (Hf 1 rfl (OV.aw rfl) (Hf 2 rfl (OV.ak rfl) (Hf 3 rfl (OV.f0 4 rfl T.u169 rfl) (Hf 4 rfl (OV.ey rfl rfl T.u159 T.z3 (by omega)) ?_))));refine Ht 5 rfl (OV.ah (v:=.int .i64 (cnt (l1++e::l2) q:Int)) rfl T.u3 rfl (fun _ hw=>Jbn hw yI (by rw [List.getElem?_toArray];exact Jos (by rw [List.getElem?_set_ne hne];exact Jff hq)))) ?_;refine Hf 6 rfl (OV.fp rfl rfl (by omega)) (Hf 7 rfl (OV.ak rfl) (Hf 8 rfl (OV.f0 4 rfl T.u169 rfl) (Hf 9 rfl (OV.ey rfl rfl T.u159 T.z3 (by omega)) (Ho 10 rfl (fl':=true) rfl ?_))));refine WL.focus perm1 (WL.bw (o:=4+q) rfl rfl rfl T.z3 (by rw [Jfv (by rw [List.length_set];exact Jbz _)];omega) ?_);rw [Joq (by rw [List.length_set,Jbz];exact hq)];refine Hc (fun h=>by cases h) ?_;refine He (Xb (Xn (Cr (Zv (OV.fp rfl rfl (by omega)) (Zm rfl (Nl ?_))))))
  exact WX.bk (i+1) Y5 (fun w' hw=>⟨by omega,by
   have hcm:=counts_move l1 l2 e q (by omega) hq (by omega);rw [heq] at hcm;rw [hcm] at hw;rw [hst];refine hw.perm (List.Perm.trans ?_ (perm1 (i:=oQ e.p (entC { e with part:=q }) 184)));refine List.Perm.trans (List.Perm.cons _ (List.Perm.cons _ (Jgs entA l1 l2 { e with part:=q }).symm)) ?_;exact perm2.symm⟩) (by show ps.length - (i+1)<ps.length - i;omega)
 refine Ce (Xe (Xe (Xh ?_)));have hip:i=ps.length:=by omega
 subst hip;rw [List.take_length];exact WX.ret0 rfl rfl (fun w hw=>⟨rfl,hw.turned⟩)
def turnE (e:Ent):Ent:={ e with part:=if e.part=4 then 2 else 1 }
def turnG (g:RelG):RelG:={ g with es:=g.es.map turnE,fa:=g.na,fc:=g.nc,fs:=g.ns,na:=none,nc:=0,ns:=[] }
theorem mv_turn {g:RelG}(ok:RelOK g):mv (mv g.es g.fs 1) g.ns 2=g.es.map turnE:=by
 unfold mv;rw [List.map_map];apply List.map_congr_left;intro e he
 have hf:e.p∈g.fs↔e.part=2:=by
  rw [ok.fs,xS];constructor
  ·rintro ⟨x,hx,hxp⟩;obtain ⟨hx1,hx2⟩:=List.mem_filter.1 hx;rw [← Jo9 ok.ptrs hx1 he hxp]
   simpa using hx2
  ·intro h;exact ⟨e,List.mem_filter.2 ⟨he,by simpa using h⟩,rfl⟩
 have hn:e.p∈g.ns↔e.part=4:=by
  rw [ok.ns,xS];constructor
  ·rintro ⟨x,hx,hxp⟩;obtain ⟨hx1,hx2⟩:=List.mem_filter.1 hx;rw [← Jo9 ok.ptrs hx1 he hxp]
   simpa using hx2
  ·intro h;exact ⟨e,List.mem_filter.2 ⟨he,by simpa using h⟩,rfl⟩
 simp only [Function.comp_apply,mvE,hf];rcases ok.part e he with h | h | h
 ·have h2:¬ e.part=2:=by omega
  have h4:¬ e.part=4:=by omega
  rw [if_neg h2,if_neg (fun hh=>h4 (hn.1 hh)),turnE,if_neg h4,← h]
 ·have h4:¬ e.part=4:=by omega
  rw [if_pos h];simp only;rw [if_neg (fun hh=>h4 (hn.1 hh)),turnE,if_neg h4]
 ·have h2:¬ e.part=2:=by omega
  rw [if_neg h2,if_pos (hn.2 h),turnE,if_pos h]
theorem perm_F {H F N X Y:Hw.Item}{E R:List Hw.Item}:(H::F::(E++(X::Y::N::R))).Perm (H::X::Y::F::N::(E++R)):=by
 refine List.Perm.cons _ ?_;refine List.Perm.trans (List.Perm.cons _ ?_) (perm2 (i:=F) (j:=X) (k:=Y));exact List.perm_middle.trans (List.Perm.cons _ (List.perm_middle.trans (List.Perm.cons _ List.perm_middle)))
theorem perm_N {H F N X Y:Hw.Item}{E R:List Hw.Item}:(H::N::(E++(X::Y::F::R))).Perm (H::X::Y::F::N::(E++R)):=by
 refine List.Perm.cons _ ?_;refine List.Perm.trans (List.Perm.cons _ ?_) (perm3 (d:=N) (a:=X) (b:=Y) (c:=F));exact List.perm_middle.trans (List.Perm.cons _ (List.perm_middle.trans (List.Perm.cons _ List.perm_middle)))
theorem pull3 {H N X Y Z:Hw.Item}{E R:List Hw.Item}:(Z::H::N::(E++(X::Y::R))).Perm (H::N::(E++(X::Y::Z::R))):=by
 refine (perm2 (i:=Z) (j:=H) (k:=N)).trans (List.Perm.cons _ (List.Perm.cons _ ?_));refine (List.perm_middle (l₁:=E) (l₂:=X::Y::R)).symm.trans (List.Perm.append_left _ ?_);exact perm2
theorem rowsM_turn (es:List Ent):rowsM (es.map turnE)=rowsM es:=by
 unfold rowsM;rw [List.map_map];rfl
theorem filter_nodup {g:RelG}(ok:RelOK g)(q:Nat):((g.es.filter fun e=>e.part=q).map (·.p)).Nodup:=
 List.Nodup.sublist (List.Sublist.map _ List.filter_sublist) ok.ptrs
theorem mem_fs {g:RelG}(ok:RelOK g):∀ p∈g.fs,∃ e∈g.es,e.p=p∧e.part=2:=by
 intro p hp;rw [ok.fs] at hp;obtain ⟨e,he,rfl⟩:=List.mem_map.1 hp;obtain ⟨h1,h2⟩:=List.mem_filter.1 he;exact ⟨e,h1,rfl,by simpa using h2⟩
theorem mem_ns {g:RelG}(ok:RelOK g):∀ p∈g.ns,∃ e∈mv g.es g.fs 1,e.p=p∧e.part=4:=by
 intro p hp;rw [ok.ns] at hp;obtain ⟨e,he,rfl⟩:=List.mem_map.1 hp;obtain ⟨h1,h2⟩:=List.mem_filter.1 he;have h4:e.part=4:=by simpa using h2
 refine ⟨mvE g.fs 1 e,List.mem_map.2 ⟨e,h1,rfl⟩,(mvE_p _ _ _).1,?_⟩;unfold mvE;rw [if_neg]
 ·exact h4
 ·intro hh;obtain ⟨x,hx,hxp,hx2⟩:=mem_fs ok _ hh;rw [Jo9 ok.ptrs hx h1 hxp] at hx2;omega
theorem mv_ptrs (es:List Ent)(ps:List Nat)(q:Nat):(mv es ps q).map (·.p)=es.map (·.p):=by
 unfold mv;rw [List.map_map];apply List.map_congr_left;intro e _;exact (mvE_p ps q e).1
theorem fs_len {g:RelG}(ok:RelOK g):g.fs.length≤1099511627776:=by
 rw [ok.fs,xE];exact Nat.le_trans (List.length_filter_le _ _) ok.el
theorem Jpg {g:RelG}(ok:RelOK g):g.ns.length≤g.es.length:=by
 rw [ok.ns,xE];exact List.length_filter_le _ _
theorem turn_part {e:Ent}(h:e.part=1∨e.part=2∨e.part=4):(turnE e).part=2↔e.part=4:=by
 unfold turnE;simp only;split <;> omega
theorem turnG_ok {g:RelG}(ok:RelOK g):RelOK (turnG g) where
 wid e he:=by
  obtain ⟨x,hx,rfl⟩:=List.mem_map.1 he;exact ok.wid x hx
 i64 e he:=by
  obtain ⟨x,hx,rfl⟩:=List.mem_map.1 he;exact ok.i64 x hx
 part e he:=by
  obtain ⟨x,hx,rfl⟩:=List.mem_map.1 he;unfold turnE;simp only;split <;> omega
 rows:=by
  show ((g.es.map turnE).map (·.row)).Nodup;rw [List.map_map];exact ok.rows
 ptrs:=by
  show ((g.es.map turnE).map (·.p)).Nodup;rw [List.map_map];exact ok.ptrs
 fs:=by
  show g.ns=((g.es.map turnE).filter fun e=>e.part=2).map (·.p);rw [ok.ns,List.filter_map,List.map_map]
  have:g.es.filter ((fun e=>decide (e.part=2)) ∘ turnE)=g.es.filter fun e=>e.part=4:=by
   apply List.filter_congr;intro e he;have:=turn_part (ok.part e he);simp only [Function.comp_apply];exact decide_eq_decide.2 this
  rw [this];rfl
 ns:=by
  show ([]:List Nat)=((g.es.map turnE).filter fun e=>e.part=4).map (·.p);rw [List.filter_eq_nil_iff.2]
  ·rfl
  ·intro e he;obtain ⟨x,hx,rfl⟩:=List.mem_map.1 he;unfold turnE;simp only;split <;> simp
 cols:=ok.cols
 ixc:=ok.ixc
 ixk:=ok.ixk
 ix x hx:=by
  have h:=ok.ix x hx;refine ⟨h.keys,fun k=>?_⟩;have h2:=h.ps k;show (psOf x.gs k).Perm (((g.es.map turnE).filter fun e=>ixKey x.col e=k).map (·.p));rw [List.filter_map,List.map_map];exact h2
 coll:=ok.coll
 wl:=ok.wl
 rl e he:=by
  obtain ⟨x,hx,rfl⟩:=List.mem_map.1 he;exact ok.rl x hx
 el:=by show (g.es.map turnE).length≤_;rw [xE];exact ok.el
theorem turn_calls (g:RelG)(ok:RelOK g)(w:World)(hA:Holds (relA g) w):Calls Tryz.prog 51 #[.pointer (some ⟨g.r,0,none⟩)] w fun e w'=>e=.returned (.int .i64 (g.ns.length:Int))∧Turns (relA g) (relA (turnG g)) w w':=by
 refine Jdt hA (args:=[.pointer (some ⟨g.r,0,none⟩)]) Tryz.func51 rfl Tryz.ntmps51 rfl rfl ?_;refine Csr (Za rfl (Nn (Csr (Zm rfl (Zm rfl (Zv (OV.ak rfl) (Zv (OV.f0 2 rfl T.u169 rfl) (Zv (OV.ah rfl T.u158 rfl (fun _ hw=>Jbn hw yH rfl)) ?_))))))));refine WL.focus perm_F (WL.dl (ι:=Unit) (vv:=fun _=>.tuple #[]) (pp:=fun _=>True) (hdA g.r (hdC g.width g.mb (fslice g) (nslice g) (counts g.es) g.ib)::psA g.fa g.fc g.fs::g.es.flatMap entA) (AA:=fun _=>hdA g.r (hdC g.width g.mb (fslice g) (nslice g) (counts (mv g.es g.fs 1)) g.ib)::psA g.fa g.fc g.fs::(mv g.es g.fs 1).flatMap entA) rfl (by kernel_rfl) rfl rfl (fun w' hw' hH=>(move_calls g.r g.width g.mb g.ib (fslice g) (nslice g) g.fa g.fc g.fs g.es 2 1 (by decide) (by decide) (by decide) (by rw [ok.fs];exact filter_nodup ok 2) ok.ptrs (mem_fs ok) ok.el (fs_len ok) w' hH).mono (fun e w'' ⟨h1,h2⟩=>⟨(),h1,trivial,h2⟩)) ?_);rintro _ _;refine Nn (Csr (Zm rfl (Zm rfl (Zv (OV.ak rfl) (Zv (OV.f0 3 rfl T.u169 rfl) (Zv (OV.ah rfl T.u158 rfl (fun _ hw=>Jbn hw yH rfl)) ?_))))));refine WL.focus (perm_N.trans perm_F.symm) (WL.dl (ι:=Unit) (vv:=fun _=>.tuple #[]) (pp:=fun _=>True) (hdA g.r (hdC g.width g.mb (fslice g) (nslice g) (counts (mv g.es g.fs 1)) g.ib)::psA g.na g.nc g.ns::(mv g.es g.fs 1).flatMap entA) (AA:=fun _=>hdA g.r (hdC g.width g.mb (fslice g) (nslice g) (counts (mv (mv g.es g.fs 1) g.ns 2)) g.ib)::psA g.na g.nc g.ns::(mv (mv g.es g.fs 1) g.ns 2).flatMap entA) rfl (by kernel_rfl) rfl rfl (fun w' hw' hH=>(move_calls g.r g.width g.mb g.ib (fslice g) (nslice g) g.na g.nc g.ns (mv g.es g.fs 1) 4 2 (by decide) (by decide) (by decide) (by rw [ok.ns];exact filter_nodup ok 4) (by rw [mv_ptrs];exact ok.ptrs) (mem_ns ok) (by rw [Jl6];exact ok.el) (by have:=Jpg ok;have:=ok.el;omega) w' hH).mono (fun e w'' ⟨h1,h2⟩=>⟨(),h1,trivial,h2⟩)) ?_);rintro _ _;rw [mv_turn ok];refine Nn (Csr (Zm rfl (Zm rfl (Zm rfl (Zv (OV.ak rfl) (Zv (OV.f0 3 rfl T.u169 rfl) (Zv (OV.ah rfl T.u158 rfl (fun _ hw=>Jbn hw yH rfl)) (Zv (OV.ak rfl) (Zv (OV.f0 2 rfl T.u169 rfl) (WL.bw (o:=2) rfl rfl rfl T.z158 (by rw [Jfv (Jbz _)];omega) ?_))))))))));refine Zv (OV.ak rfl) (Zv (OV.f0 3 rfl T.u169 rfl) (WL.bw (o:=3) rfl rfl rfl T.z158 (by rw [List.length_set,Jfv (Jbz _)];omega) ?_));refine Nn (Csr (Zm rfl (Zv (OV.ak rfl) (Zv (OV.f0 2 rfl T.u169 rfl) (Zv (OV.ah rfl T.u158 rfl (fun _ hw=>Jbn hw yH rfl)) (Zv (OV.ae rfl T.u158) (Za rfl (Nn (WC.az ?_)))))))))
 exact WX.ret1 rfl rfl rfl (fun w' hw=>⟨rfl,by
  have h1:=((hw.perm pull3).drop).rowNil 181 1;refine (h1.perm (ow':=relA (turnG g)) ?_).turned;unfold relA;simp only [turnG,rowsM_turn];exact (pull3.trans perm_F).symm⟩)
def gadd:List Grp→ByteArray→Nat→Option Addr→Nat→List Grp
 | [],k,p,a,c=>[⟨k,a,c,[p]⟩]
 | g::gs,k,p,a,c=>if k=g.k then ⟨k,a,c,g.ps++[p]⟩::gs else g::gadd gs k p a c
theorem psOf_nil (k:ByteArray):psOf [] k=[]:=rfl
theorem Je0 (g:Grp)(gs:List Grp)(k:ByteArray):psOf (g::gs) k=if k=g.k then g.ps else psOf gs k:=by
 unfold psOf;rw [List.find?_cons]
 by_cases h:k=g.k
 ·subst h;simp
 ·simp [h,Ne.symm h]
theorem psOf_gadd (gs:List Grp)(k:ByteArray)(p:Nat)(a:Option Addr)(c:Nat)(k':ByteArray):psOf (gadd gs k p a c) k'=psOf gs k'++if k'=k then [p] else []:=by
 induction gs with
 | nil=>simp only [gadd,Je0,psOf_nil];split <;> simp_all
 | cons g gs ih=>
  unfold gadd
  by_cases h:k=g.k
  ·rw [if_pos h,Je0,Je0]
   by_cases h2:k'=k
   ·simp [h2,← h]
   ·simp [h2,← h]
  ·rw [if_neg h,Je0,Je0,ih]
   by_cases h2:k'=g.k
   ·subst h2;simp [Ne.symm h]
   ·simp [h2]
theorem gadd_keys (gs:List Grp)(k:ByteArray)(p:Nat)(a:Option Addr)(c:Nat):∀ x∈(gadd gs k p a c).map (·.k),x=k∨x∈gs.map (·.k):=by
 induction gs with
 | nil=>intro x hx;simpa [gadd] using hx
 | cons g gs ih=>
  intro x hx;unfold gadd at hx
  split at hx
  ·simp only [yC,yG] at hx ⊢;rcases hx with h | h
   ·exact .inl h
   ·exact .inr (.inr h)
  ·simp only [yC,yG] at hx ⊢;rcases hx with h | h
   ·exact .inr (.inl h)
   ·rcases ih x h with h | h
    ·exact .inl h
    ·exact .inr (.inr h)
theorem gadd_nodup {gs:List Grp}(k:ByteArray)(p:Nat)(a:Option Addr)(c:Nat)(h:(gs.map (·.k)).Nodup):((gadd gs k p a c).map (·.k)).Nodup:=by
 induction gs with
 | nil=>simp [gadd]
 | cons g gs ih=>
  rw [yC,List.nodup_cons] at h;unfold gadd
  split
  ·rename_i hk;rw [yC,List.nodup_cons];exact ⟨by simpa [hk] using h.1,h.2⟩
  ·rename_i hk;rw [yC,List.nodup_cons];refine ⟨fun hh=>?_,ih h.2⟩;rcases gadd_keys gs k p a c _ hh with h1 | h1
   ·exact hk h1.symm
   ·exact h.1 h1
theorem grpM_gadd (gs:List Grp)(k:ByteArray)(p:Nat)(a:Option Addr)(c:Nat):ups (grpM gs) k (.slice a ((psOf gs k).length+1) c)=grpM (gadd gs k p a c):=by
 induction gs with
 | nil=>rfl
 | cons g gs ih=>
  rw [Je0];unfold gadd;rw [grpM,yC];unfold ups
  by_cases h:k=g.k
  ·simp only [if_pos h];rw [grpM,yC];simp
  ·simp only [if_neg h];rw [grpM,yC];congr 1
theorem grp_focus (gs:List Grp)(k:ByteArray):∃ a0 c0 L,(got (grpM gs) k).getD (.slice none 0 0)=.slice a0 (psOf gs k).length c0 ∧
  ((gs.flatMap grpA).Perm (row 181 1 a0 (psOf gs k).length c0 (ptrs (psOf gs k))::L.flatMap grpA)∨(a0=none∧c0=0∧psOf gs k=[]∧L=gs)) ∧
  ∀ a c p,((gadd gs k p a c).flatMap grpA).Perm (row 181 1 a ((psOf gs k).length+1) c (ptrs (psOf gs k++[p]))::L.flatMap grpA):=by
 induction gs with
 | nil=>exact ⟨none,0,[],rfl,.inr ⟨rfl,rfl,rfl,rfl⟩,fun a c p=>by simp [gadd,grpA,psOf_nil]⟩
 | cons g gs ih=>
  by_cases h:k=g.k
  ·refine ⟨g.a,g.c,gs,?_,.inl ?_,fun a c p=>?_⟩
   ·rw [Je0,if_pos h,got,grpM,yC];unfold spot;rw [if_pos h];rfl
   ·rw [Je0,if_pos h];simp [grpA]
   ·rw [Je0,if_pos h];unfold gadd;rw [if_pos h];simp [grpA]
  ·obtain ⟨a0,c0,L,h1,h2,h3⟩:=ih;rw [Je0,if_neg h];refine ⟨a0,c0,g::L,?_,?_,fun a c p=>?_⟩
   ·rw [← h1,got,got,grpM,yC]
    conv=>lhs;unfold spot
    rw [if_neg h,Jfs,Option.map_map];rfl
   ·rcases h2 with h2 | ⟨e1,e2,e3,e4⟩
    ·left;rw [List.flatMap_cons,List.flatMap_cons];exact (List.Perm.append_left _ h2).trans List.perm_middle
    ·right;exact ⟨e1,e2,e3,by rw [e4]⟩
   ·unfold gadd;rw [if_neg h,List.flatMap_cons,List.flatMap_cons];exact (List.Perm.append_left _ (h3 a c p)).trans List.perm_middle
theorem T.apP:appB Tryz.prog 158 181 1 8=true:=by kernel_rfl
theorem idxAdd_calls (x:Idx)(e:Ent)(hc:∀ k∈x.col.l,0≤k∧k<e.row.length)(hi:i64s e.row)(h1:e.row.length≤1099511627776)(h2:x.col.l.length≤1099511627776)(h3:(psOf x.gs (ixKey x.col e)).length≤1099511627776)(w:World)(hA:Holds (idxA x++(entA e++colA x.col)) w):
 Calls Tryz.prog 131 #[ptr x.p,ptr e.p] w fun en w'=>en=.returned (.tuple #[])∧∃ a c,Turns (idxA x++(entA e++colA x.col)) (idxA { x with gs:=gadd x.gs (ixKey x.col e) e.p a c }++(entA e++colA x.col)) w w':=by
 refine Jdt hA (args:=[ptr x.p,ptr e.p]) Tryz.func131 rfl Tryz.ntmps131 rfl rfl ?_;refine Cs (WC.weak (S':=Sat w (DD (idxA x++(entA e++colA x.col))) (fun b=>b<w.heap.size∧¬ DD (idxA x++(entA e++colA x.col)) b) w (oQ x.p (idxC x) 215::own x.mb (mapK Value.string (grpM x.gs))::oQ e.p (entC e) 184::row 3 1 e.a e.row.length e.c (ints e.row)::row 3 1 x.col.a x.col.l.length x.col.c (ints x.col.l)::x.gs.flatMap grpA)) (fun w' hw=>hw.perm (List.Perm.cons _ (List.Perm.cons _ (List.perm_append_comm (l₁:=[_,_,_]))))) ?_);refine Hq [8] (m:=11) rfl ?_;refine Hf 0 rfl (OV.aw rfl) (Hf 1 rfl (OV.ak rfl) (Hf 2 rfl (OV.f0 0 rfl T.u184 rfl) (Ht 3 rfl (OV.ah (v:=.slice e.a e.row.length e.c) rfl T.u51 rfl (fun _ hw=>(Jax (hw.it (oQ e.p (entC e) 184) (by first | exact .head _ | exact .tail _ yH | exact .tail _ yI | exact .tail _ yJ | exact .tail _ yK)) (o:=0) rfl).1)) (Hf 4 rfl (OV.aw rfl) (Hf 5 rfl (OV.ak rfl) (Hf 6 rfl (OV.f0 0 rfl T.u215 rfl) (Ht 7 rfl (OV.ah (v:=.slice x.col.a x.col.l.length x.col.c) rfl T.u51 rfl (fun _ hw=>(Jax (hw.it (oQ x.p (idxC x) 215) (by first | exact .head _ | exact .tail _ yH | exact .tail _ yI | exact .tail _ yJ | exact .tail _ yK)) (o:=0) rfl).1)) (Ho 8 rfl (fl':=true) rfl ?_))))))));refine WL.o4 (ι:=Option Addr × Nat) (vv:=fun q=>.slice q.1 x.col.l.length q.2) (pp:=fun _=>True) (it:=fun q=>row 3 1 q.1 x.col.l.length q.2 (ints (pickL e.row x.col.l))) (by kernel_rfl) rfl rfl (fun w' hw=>(picked_calls e.row x.col.l e.a e.row.length e.c x.col.a x.col.l.length x.col.c hc h2 h1 w' (RI.of_row hw (by first | exact .head _ | exact .tail _ yH | exact .tail _ yI | exact .tail _ yJ | exact .tail _ yK)) (RI.of_row hw (by first | exact .head _ | exact .tail _ yH | exact .tail _ yI | exact .tail _ yJ | exact .tail _ yK))).mono (fun en w'' ⟨a',c',q1,q2,q3⟩=>⟨(a',c'),q1,trivial,q2,q3⟩)) ?_;rintro ⟨ap,cp⟩ _;refine Hc (fun h=>by cases h) ?_;refine Ho 9 rfl (fl':=true) rfl ?_;refine WL.au (by kernel_rfl) rfl rfl (fun w' hw=>Jj9 (pickL e.row x.col.l) ap x.col.l.length cp (pickL_i64s hi hc) h2 w' (by have:=RI.of_row (l:=pickL e.row x.col.l) (a:=ap) (c:=cp) hw (by rw [pickL_length];exact .head _);rwa [pickL_length] at this)) ?_;refine Hc (fun h=>by cases h) ?_;refine Hf 10 rfl (OV.assign rfl) (He (Xn ?_));obtain ⟨a0,c0,L,hgot,hfoc,hnew⟩:=grp_focus x.gs (ixKey x.col e);refine WC.weak (S':=Sat w (DD (idxA x++(entA e++colA x.col))) (fun b=>b<w.heap.size∧¬ DD (idxA x++(entA e++colA x.col)) b) w (row 181 1 a0 (psOf x.gs (ixKey x.col e)).length c0 (ptrs (psOf x.gs (ixKey x.col e)))::oQ x.p (idxC x) 215::own x.mb (mapK Value.string (grpM x.gs))::oQ e.p (entC e) 184::row 3 1 e.a e.row.length e.c (ints e.row)::row 3 1 x.col.a x.col.l.length x.col.c (ints x.col.l)::L.flatMap grpA)) (fun w' hw=>?_) ?_
 ·have h1:=hw.drop;rcases hfoc with hp | ⟨rfl,rfl,e3,rfl⟩
  ·exact h1.perm (List.Perm.trans (perm5 (g:=row 181 1 a0 (psOf x.gs (ixKey x.col e)).length c0 (ptrs (psOf x.gs (ixKey x.col e))))) (List.Perm.cons _ (List.Perm.cons _ (List.Perm.cons _ (List.Perm.cons _ (List.Perm.cons _ hp.symm))))))
  ·rw [e3];exact h1.rowNil 181 1
 refine Hd (fun w'=>w'.heap[x.p]?=some (.cells (idxC x).toArray 215 (0,0))∧w'.heap[x.mb]?=some (mapK Value.string (grpM x.gs))) [14] (fun _ hw=>⟨hw.it (oQ x.p (idxC x) 215) (by first | exact .head _ | exact .tail _ yH | exact .tail _ yI | exact .tail _ yJ | exact .tail _ yK),hw.it (own x.mb (mapK Value.string (grpM x.gs))) (by first | exact .head _ | exact .tail _ yH | exact .tail _ yI | exact .tail _ yJ | exact .tail _ yK)⟩) (m:=15) rfl ?_;refine Hf 0 rfl (OV.aw rfl) (Hf 1 rfl (OV.ak rfl) (Hf 2 rfl (OV.f0 1 rfl T.u215 rfl) (Ht 3 rfl (OV.ah (v:=.map (some x.mb)) rfl T.u213 rfl (fun _ hw=>(Jax hw.1 (o:=1) rfl).1)) (Hf 4 rfl (OV.aw rfl) (Hf 5 rfl (OV.aw rfl) (Hf 6 rfl (OV.ak rfl) (Hf 7 rfl (OV.f0 1 rfl T.u215 rfl) (Ht 8 rfl (OV.ah (v:=.map (some x.mb)) rfl T.u213 rfl (fun _ hw=>(Jax hw.1 (o:=1) rfl).1)) (Hf 9 rfl (OV.aw rfl) (Ht 10 rfl ((OV.lookup (KeyLaw.str T.u9) T.u213 (by kernel_rfl) rfl rfl (fun _ hw=>hw.2)).cast hgot) (Hf 11 rfl (OV.aw rfl) (Ho 12 rfl (fl':=false) rfl ?_))))))))))));refine WL.br T.u158 T.z181 T.zr181 rfl rfl rfl ?_;intro b27;refine Hc (fun _=>(fun _ hw=>⟨hw.it (oQ x.p (idxC x) 215) (by first | exact .head _ | exact .tail _ yH | exact .tail _ yI | exact .tail _ yJ | exact .tail _ yK),hw.it (own x.mb (mapK Value.string (grpM x.gs))) (by first | exact .head _ | exact .tail _ yH | exact .tail _ yI | exact .tail _ yJ | exact .tail _ yK)⟩)) ?_;refine Ho 13 rfl (fl':=false) rfl ?_;refine WL.focus perm1 (WL.append (news:=[ptr e.p]) rfl rfl T.apP (fun _ _=>Jeg yI rfl) (by simp [Value.oneCell',ptr]) ⟨by omega,by unfold maxLen;omega⟩ rfl ?_);intro a28 c28;refine Hc (fun _=>(fun _ hw=>⟨hw.it (oQ x.p (idxC x) 215) (by first | exact .head _ | exact .tail _ yH | exact .tail _ yI | exact .tail _ yJ | exact .tail _ yK),hw.it (own x.mb (mapK Value.string (grpM x.gs))) (by first | exact .head _ | exact .tail _ yH | exact .tail _ yI | exact .tail _ yJ | exact .tail _ yK)⟩)) ?_;refine Ho 14 rfl (fl':=true) rfl ?_;refine WL.focus perm3 (WL.mapUpdate (KeyLaw.str T.u9) T.u213 rfl rfl rfl ?_);refine Hc (fun h=>by cases h) ?_;refine He ?_
 exact WX.ret0 rfl rfl (fun w' hw=>⟨rfl,a28,c28,by
  have h1:=(hw.perm perm2).drop;have hl:ptrs (psOf x.gs (ixKey x.col e))++[ptr e.p]=ptrs (psOf x.gs (ixKey x.col e)++[e.p]):=by simp [ptrs]
  have hkk:keyB (pickL e.row x.col.l)=ixKey x.col e:=rfl;rw [hl,hkk,grpM_gadd] at h1;refine (h1.perm (ow':=idxA { x with gs:=gadd x.gs (ixKey x.col e) e.p a28 c28 }++(entA e++colA x.col)) ?_).turned;refine (List.Perm.cons _ (List.Perm.cons _ (List.Perm.append_right _ (hnew a28 c28 e.p)))).trans ?_;exact perm2.trans (List.Perm.cons _ (List.Perm.cons _ (List.Perm.cons _ (List.perm_append_comm (l₂:=[_,_,_])))))⟩)
end Go.Proofs.YtgebaodagaecmaaGreatDoor
