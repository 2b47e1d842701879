/- Contracts of functions of the program: what each returns and leaves in memory. Printed by gen.py and walk.py. A store of several cells into an element of a row. -/
import Derived.Test.YtgebaodagaecmaaGreatDoorMg16
import Derived.Test.YtgebaodagaecmaaGreatDoorHxTurn
set_option maxRecDepth 10000
namespace Go.Proofs.YtgebaodagaecmaaGreatDoor
open Go Go.Hw
set_option linter.unusedSimpArgs false
set_option linter.unusedVariables false
theorem Jeq {α:Type}{p:List α→Prop}(l:List α)(h0:p [])(h1:∀ l x,p l→p (l++[x])):p l:=by
 have h:∀ l:List α,p l.reverse:=fun l=>by
  induction l with
  | nil=>exact h0
  | cons x l ih=>rw [List.reverse_cons];exact h1 _ _ ih
 have h2:=h l.reverse
 rwa [List.reverse_reverse] at h2
def mapA (f:Tm→Tm)(x:At):At:=⟨f x.b,x.name,x.args.map f⟩
def mapT (f:Tm→Tm)(t:Ts):Ts:=⟨t.op,f t.l,f t.r⟩
def mapC (f:Tm→Tm)(c:Cl):Cl:=⟨mapA f c.hd,c.bd.map (mapA f),c.ts.map (mapT f)⟩
def plT (t:Ts):List Tm:=[t.l,t.r]
def Jcf (c:Cl):List Tm:=c.bd.flatMap plc
def Jds (c:Cl):List Tm:=c.ts.flatMap plT
def Ja1 (c:Cl):List Tm:=plc c.hd++(Jcf c++Jds c)
def dedV (l:List Tm):List Tm:=l.foldl (fun acc t=>if varB t=true∧t∉acc then acc++[t] else acc) []
theorem Jdh (l:List Tm)(t:Tm):dedV (l++[t])=if varB t=true∧t∉dedV l then dedV l++[t] else dedV l:=by
 unfold dedV;rw [List.foldl_append];rfl
theorem Jgf (l:List Tm):∀ t,t∈dedV l↔t∈l∧varB t=true:=by
 induction l using Jeq with
 | h0=>intro t;simp [dedV]
 | h1 l u ih=>
  intro t
  rw [Jdh,List.mem_append,List.mem_singleton]
  split
  ·rename_i h
   rw [List.mem_append,List.mem_singleton,ih]
   constructor
   ·rintro (hh | rfl)
    ·exact ⟨Or.inl hh.1,hh.2⟩
    ·exact ⟨Or.inr rfl,h.1⟩
   ·rintro ⟨hh | hh,hv⟩
    ·exact Or.inl ⟨hh,hv⟩
    ·exact Or.inr hh
  ·rename_i h
   rw [ih]
   constructor
   ·rintro ⟨hh,hv⟩;exact ⟨Or.inl hh,hv⟩
   ·rintro ⟨hh | rfl,hv⟩
    ·exact ⟨hh,hv⟩
    ·by_cases hm:t∈dedV l
     ·exact (ih t).1 hm
     ·exact absurd ⟨hv,hm⟩ h
theorem dedV_nodup (l:List Tm):(dedV l).Nodup:=by
 induction l using Jeq with
 | h0=>simp [dedV]
 | h1 l u ih=>
  rw [Jdh]
  split
  ·rename_i h
   refine List.nodup_append.2 ⟨ih,by simp,fun x hx y hy=>?_⟩
   simp only [List.mem_singleton] at hy
   subst hy
   rintro rfl
   exact h.2 hx
  ·exact ih
theorem dedV_len (l:List Tm):(dedV l).length≤l.length:=by
 induction l using Jeq with
 | h0=>simp [dedV]
 | h1 l u ih=>rw [Jdh];split <;> simp <;> omega
theorem dedV_map {f:Tm→Tm}(l:List Tm)(hv:∀ t∈l,varB (f t)=varB t)(hi:∀ t∈l,∀ u∈l,varB t=true→varB u=true→f t=f u→t=u):dedV (l.map f)=(dedV l).map f:=by
 induction l using Jeq with
 | h0=>rfl
 | h1 l u ih=>
  have ih2:=ih (fun t ht=>hv t (by simp [ht])) (fun t ht v hvv=>hi t (by simp [ht]) v (by simp [hvv]))
  rw [List.map_append,List.map_singleton,Jdh,Jdh,ih2,hv u (by simp)]
  have e:(varB u=true∧f u∉(dedV l).map f)↔(varB u=true∧u∉dedV l):=by
   refine and_congr_right fun h=>not_congr ⟨fun hh=>?_,fun hh=>List.mem_map.2 ⟨u,hh,rfl⟩⟩
   obtain ⟨t,ht,he⟩:=List.mem_map.1 hh
   have h1:=(Jgf l t).1 ht
   rw [← hi t (by simp [h1.1]) u (by simp) h1.2 h he];exact ht
  by_cases h:varB u=true∧u∉dedV l
  ·rw [if_pos (e.2 h),if_pos h];simp
  ·rw [if_neg (fun k=>h (e.1 k)),if_neg h]
structure VC (c:Cl):Prop where
 bl:c.bd.length≤8
 tl:c.ts.length≤8
 hd:chkA c.hd=0
 bd:∀ a∈c.bd,chkA a=0
 ts:∀ t∈c.ts,tstB t=true
 hb:varB c.hd.b=false
 safe:∀ t∈plc c.hd++Jds c,varB t=true→t∈Jcf c
 num:∀ (i:Nat) (t:Tm),(dedV (Ja1 c))[i]?=some t→t.n=(i:Int)
def nV (c:Cl):Nat:=(dedV (Ja1 c)).length
theorem var_eq {t u:Tm}(ht:varB t=true)(hu:varB u=true)(h:t.n=u.n):t=u:=by
 obtain ⟨k,n,s⟩:=t
 obtain ⟨k2,n2,s2⟩:=u
 unfold varB at ht hu
 simp only [Bool.and_eq_true,decide_eq_true_eq] at ht hu
 simp only at h
 rw [ht.1.1,hu.1.1,ht.2,hu.2,h]
theorem mem_bodyTm {c:Cl}{t:Tm}:t∈Jcf c↔∃ a∈c.bd,t∈plc a:=List.mem_flatMap
theorem mem_testTm {c:Cl}{t:Tm}:t∈Jds c↔∃ a∈c.ts,t∈plT a:=List.mem_flatMap
theorem VC.cvn {c:Cl}(h:VC c):CVn c (nV c):=by
 have key:∀ t∈Ja1 c,varB t=true→0≤t.n∧t.n<(nV c:Int):=fun t ht hv=>by
  obtain ⟨i,hi⟩:=List.mem_iff_getElem?.1 ((Jgf _ t).2 ⟨ht,hv⟩)
  have h1:=h.num i t hi
  have h2:=(List.getElem?_eq_some_iff.1 hi).1
  unfold nV;omega
 refine ⟨fun v=>⟨?_,fun hv=>?_⟩,fun t ht v hv=>?_,fun v hv=>?_⟩
 ·rintro ⟨a,ha,hv⟩
  obtain ⟨t,ht,htv,rfl⟩:=mem_varsOf.1 hv
  exact key t (by unfold Ja1;simp only [List.mem_append];exact Or.inr (Or.inl (mem_bodyTm.2 ⟨a,ha,ht⟩))) htv
 ·have hl:v.toNat<(dedV (Ja1 c)).length:=by have:=hv.2;unfold nV at this;omega
  obtain ⟨t,hi⟩:∃ t,(dedV (Ja1 c))[v.toNat]?=some t:=⟨_,List.getElem?_eq_getElem hl⟩
  have h1:=h.num _ _ hi
  have h2:=(Jgf _ _).1 (List.mem_of_getElem? hi)
  have h3:t∈Jcf c:=by
   have:=h2.1
   unfold Ja1 at this
   simp only [List.mem_append] at this
   rcases this with hh | hh | hh
   ·exact h.safe _ (by simp [hh]) h2.2
   ·exact hh
   ·exact h.safe _ (by simp [hh]) h2.2
  obtain ⟨a,ha,ht⟩:=mem_bodyTm.1 h3
  exact ⟨a,ha,mem_varsOf.2 ⟨_,ht,h2.2,by omega⟩⟩
 ·unfold varsT at hv
  obtain ⟨x,hx,rfl⟩:=List.mem_map.1 hv
  obtain ⟨hx1,hx2⟩:=List.mem_filter.1 hx
  exact key x (by unfold Ja1;simp only [List.mem_append];exact Or.inr (Or.inr (mem_testTm.2 ⟨t,ht,hx1⟩))) hx2
 ·obtain ⟨t,ht,htv,rfl⟩:=mem_varsOf.1 hv
  exact key t (by unfold Ja1;simp only [List.mem_append];exact Or.inl ht) htv
def Jbz (t:Tm):Tm:=if Jcr t=true then t else if t.kind=2 then ⟨2,0,t.s.extract 0 (min t.s.size 64)⟩ else ⟨1,t.n,E0⟩
def Jch (t:Tm):Tm:=if varB t=true then t else Jbz t
def Jb4 (t:Tm):Tm:=if t.kind=3 then ⟨1,t.n,E0⟩ else t
abbrev pN:ByteArray:=⟨#[112]⟩
def Jaf (x:At):At:=⟨if chkA ⟨x.b,pN,[]⟩=0 then x.b else T0,if chkA ⟨T0,x.name,[]⟩=0 then x.name else pN,(x.args.take 8).map Jch⟩
def nvB (t:Tm):Tm:=if t.kind=3 then T0 else t
def Jb1 (x:At):At:=⟨nvB (Jaf x).b,(Jaf x).name,(Jaf x).args.map Jb4⟩
def safeT (l:List Tm)(t:Tm):Tm:=if t∈l then t else Jb4 t
def Jkd (o:Int):Int:=if o<1∨4<o then 1+((o.tmod 4)+4).tmod 4 else o
def Jfb (body:List Tm)(t:Ts):Ts:=⟨Jkd t.op,safeT body (Jch t.l),safeT body (Jch t.r)⟩
def made0 (c:Cl):Cl:=
 let bd:=(c.bd.take 8).map Jaf
 let bt:=bd.flatMap plc
 let h:=Jaf c.hd
 ⟨⟨nvB h.b,h.name,h.args.map (safeT bt)⟩,bd,(c.ts.take 8).map (Jfb bt)⟩
def numT (vs:List Tm)(t:Tm):Tm:=if t∈vs then ⟨3,(vs.idxOf t:Nat),E0⟩ else t
def normC (c:Cl):Cl:=mapC (numT (dedV (Ja1 c))) c
def madeC (c:Cl):Cl:=normC (made0 c)
theorem madeConst_ok (t:Tm):Jcr (Jbz t)=true:=by
 unfold Jbz
 split
 ·assumption
 ·split
  ·unfold Jcr
   have:(t.s.extract 0 (min t.s.size 64)).size≤64:=by rw [ByteArray.size_extract];omega
   show (if (2:Int)=1 then _ else if (2:Int)=2 then (decide ((0:Int)=0) && decide (_≤64)) else false)=true
   rw [if_neg (by decide),if_pos rfl,decide_eq_true rfl,decide_eq_true this];rfl
  ·simp [Jcr]
theorem Jnd (t:Tm):badB (Jch t)=false:=by
 unfold Jch badB
 split
 ·rename_i h;simp [h]
 ·simp [madeConst_ok]
theorem chkA_zero {x:At}:chkA x=0↔nameB x.name=true∧x.args.length≤8∧(x.b=T0∨prinB x.b=true∨varB x.b=true)∧∀ t∈x.args,badB t=false:=by
 unfold chkA
 constructor
 ·intro h
  split at h
  ·cases h
  ·split at h
   ·cases h
   ·split at h
    ·cases h
    ·split at h
     ·cases h
     ·rename_i h1 h2 h3 h4
      refine ⟨by simpa using h1,by omega,?_,fun t ht=>?_⟩
      ·by_cases a:x.b=T0
       ·exact Or.inl a
       ·by_cases b:prinB x.b=true
        ·exact Or.inr (Or.inl b)
        ·by_cases c:varB x.b=true
         ·exact Or.inr (Or.inr c)
         ·exact absurd ⟨a,by simpa using b,by simpa using c⟩ h3
      ·by_cases hb:badB t=true
       ·exact absurd (List.any_eq_true.2 ⟨t,ht,hb⟩) h4
       ·simpa using hb
 ·rintro ⟨h1,h2,h3,h4⟩
  rw [if_neg (by rw [h1];simp),if_neg (by omega),if_neg (by
   rintro ⟨a,b,c⟩
   rcases h3 with h | h | h
   ·exact a h
   ·rw [b] at h;cases h
   ·rw [c] at h;cases h),if_neg (by
   intro h
   obtain ⟨t,ht,hb⟩:=List.any_eq_true.1 h
   rw [h4 t ht] at hb;cases hb)]
theorem name_p:nameB pN=true:=by
 unfold nameB
 rw [decide_eq_true_eq]
 refine ⟨by decide,by decide,by decide,by decide,by decide,fun i hi=>?_⟩
 have:i=0:=by have h:pN.size=1:=rfl;omega
 subst this
 decide
theorem Jkn (x:At):chkA (Jaf x)=0:=by
 unfold Jaf
 refine chkA_zero.2 ⟨?_,?_,?_,fun t ht=>?_⟩
 ·show nameB (if _ then _ else _)=true
  split
  ·rename_i h;exact (chkA_zero.1 h).1
  ·exact name_p
 ·simp;omega
 ·show (if chkA ⟨x.b,pN,[]⟩=0 then x.b else T0)=T0∨_
  split
  ·rename_i h;exact (chkA_zero.1 h).2.2.1
  ·exact Or.inl rfl
 ·obtain ⟨u,_,rfl⟩:=List.mem_map.1 ht
  exact Jnd u
theorem ground_bad {t:Tm}(h:badB t=false):badB (Jb4 t)=false:=by
 unfold Jb4
 split
 ·simp [badB,Jcr]
 ·exact h
theorem ground_var (t:Tm):varB (Jb4 t)=false:=by
 unfold Jb4
 split
 ·simp [varB]
 ·rename_i h;simp [varB,h]
theorem Jmz {l:List Tm}{t:Tm}(h:badB t=false):badB (safeT l t)=false:=by
 unfold safeT
 split
 ·exact h
 ·exact ground_bad h
theorem Jmy {l:List Tm}{t:Tm}(h:varB (safeT l t)=true):safeT l t∈l:=by
 unfold safeT at h ⊢
 split at h
 ·rename_i hm;rw [if_pos hm];exact hm
 ·rw [ground_var] at h;cases h
theorem nvB_var (t:Tm):varB (nvB t)=false:=by
 unfold nvB
 split
 ·rfl
 ·rename_i h;simp [varB,h]
theorem madeOp_ok (o:Int):1≤Jkd o∧Jkd o≤4:=by
 unfold Jkd
 split
 ·have h1:=Int.tmod_lt_of_pos o (show (0:Int)<4 by decide)
  have h2:=Int.lt_tmod_of_pos o (show (0:Int)<4 by decide)
  rw [Int.tmod_eq_emod_of_nonneg (by omega)]
  omega
 ·omega
structure VC0 (c:Cl):Prop where
 bl:c.bd.length≤8
 tl:c.ts.length≤8
 hd:chkA c.hd=0
 bd:∀ a∈c.bd,chkA a=0
 ts:∀ t∈c.ts,tstB t=true
 hb:varB c.hd.b=false
 safe:∀ t∈plc c.hd++Jds c,varB t=true→t∈Jcf c
theorem tst_ok {t:Ts}(h:1≤t.op∧t.op≤4)(hl:badB t.l=false)(hr:badB t.r=false):tstB t=true:=by
 unfold badB at hl hr
 unfold tstB
 rw [decide_eq_true h]
 revert hl hr
 cases Jcr t.l <;> cases varB t.l <;> cases Jcr t.r <;> cases varB t.r <;> simp
theorem tst_bad {t:Ts}(h:tstB t=true):(1≤t.op∧t.op≤4)∧badB t.l=false∧badB t.r=false:=by
 unfold tstB at h
 simp only [Bool.and_eq_true,decide_eq_true_eq] at h
 obtain ⟨⟨h1,h2⟩,h3⟩:=h
 refine ⟨h1,?_,?_⟩
 ·unfold badB;revert h2;cases Jcr t.l <;> cases varB t.l <;> simp
 ·unfold badB;revert h3;cases Jcr t.r <;> cases varB t.r <;> simp
theorem made0_ok (c:Cl):VC0 (made0 c):=by
 have hh:=chkA_zero.1 (Jkn c.hd)
 refine ⟨by simp [made0];omega,by simp [made0];omega,chkA_zero.2 ⟨hh.1,by simpa [made0] using hh.2.1,?_,fun t ht=>?_⟩,fun a ha=>?_,fun t ht=>?_,nvB_var _,fun t ht hv=>?_⟩
 ·show nvB (Jaf c.hd).b=T0∨_
  by_cases hk:(Jaf c.hd).b.kind=3
  ·left;unfold nvB;rw [if_pos hk]
  ·have e:nvB (Jaf c.hd).b=(Jaf c.hd).b:=by unfold nvB;rw [if_neg hk]
   show nvB (Jaf c.hd).b=T0∨prinB (nvB (Jaf c.hd).b)=true∨varB (nvB (Jaf c.hd).b)=true
   rw [e];exact hh.2.2.1
 ·obtain ⟨u,hu,rfl⟩:=List.mem_map.1 ht
  exact Jmz (hh.2.2.2 u hu)
 ·obtain ⟨u,_,rfl⟩:=List.mem_map.1 ha
  exact Jkn u
 ·obtain ⟨u,_,rfl⟩:=List.mem_map.1 ht
  exact tst_ok (madeOp_ok _) (Jmz (Jnd _)) (Jmz (Jnd _))
 ·rcases List.mem_append.1 ht with h | h
  ·rcases List.mem_cons.1 h with rfl | h
   ·have:=nvB_var (Jaf c.hd).b
    rw [show (made0 c).hd.b=nvB (Jaf c.hd).b from rfl,this] at hv;cases hv
   ·obtain ⟨u,_,rfl⟩:=List.mem_map.1 h
    exact Jmy hv
  ·obtain ⟨a,ha,h⟩:=mem_testTm.1 h
   obtain ⟨u,_,rfl⟩:=List.mem_map.1 ha
   simp only [plT,Jfb,List.mem_cons,List.not_mem_nil,or_false] at h
   rcases h with rfl | rfl
   ·exact Jmy hv
   ·exact Jmy hv
theorem Jmj {vs:List Tm}(hvs:∀ t∈vs,varB t=true)(t:Tm):varB (numT vs t)=varB t:=by
 unfold numT
 split
 ·rename_i h;rw [hvs t h];simp [varB]
 ·rfl
theorem num_fix {vs:List Tm}(hvs:∀ t∈vs,varB t=true){t:Tm}(h:varB t=false):numT vs t=t:=by
 unfold numT
 split
 ·rename_i hm;rw [hvs t hm] at h;cases h
 ·rfl
theorem Jn4 {vs:List Tm}(hvs:∀ t∈vs,varB t=true){t:Tm}(h:badB t=false):badB (numT vs t)=false:=by
 by_cases hv:varB t=true
 ·unfold badB;rw [Jmj hvs,hv];simp
 ·rw [num_fix hvs (by simpa using hv)];exact h
theorem chk_map {vs:List Tm}(hvs:∀ t∈vs,varB t=true){x:At}(h:chkA x=0):chkA (mapA (numT vs) x)=0:=by
 obtain ⟨h1,h2,h3,h4⟩:=chkA_zero.1 h
 refine chkA_zero.2 ⟨h1,by simpa [mapA] using h2,?_,fun t ht=>?_⟩
 ·show numT vs x.b=T0∨prinB (numT vs x.b)=true∨varB (numT vs x.b)=true
  by_cases hv:varB x.b=true
  ·exact Or.inr (Or.inr (by rw [Jmj hvs];exact hv))
  ·rw [num_fix hvs (by simpa using hv)];exact h3
 ·obtain ⟨u,hu,rfl⟩:=List.mem_map.1 ht
  exact Jn4 hvs (h4 u hu)
theorem body_map (f:Tm→Tm)(c:Cl):Jcf (mapC f c)=(Jcf c).map f:=by
 unfold Jcf mapC
 simp only [List.flatMap_map,List.map_flatMap]
 rfl
theorem test_map (f:Tm→Tm)(c:Cl):Jds (mapC f c)=(Jds c).map f:=by
 unfold Jds mapC
 simp only [List.flatMap_map,List.map_flatMap]
 rfl
theorem terms_map (f:Tm→Tm)(c:Cl):Ja1 (mapC f c)=(Ja1 c).map f:=by
 unfold Ja1
 rw [body_map,test_map,List.map_append,List.map_append]
 rfl
theorem idx_get {l:List Tm}{t:Tm}(h:t∈l):l[l.idxOf t]?=some t:=by
 have hl:=List.idxOf_lt_length_of_mem h
 rw [List.getElem?_eq_getElem hl,List.getElem_idxOf]
theorem idx_inj {l:List Tm}{t u:Tm}(ht:t∈l)(hu:u∈l)(h:l.idxOf t=l.idxOf u):t=u:=by
 have e1:=idx_get ht
 rw [h,idx_get hu] at e1
 exact (Option.some.inj e1).symm
theorem norm_ok {c:Cl}(h:VC0 c):VC (normC c):=by
 have hvs:∀ t∈dedV (Ja1 c),varB t=true:=fun t ht=>((Jgf _ t).1 ht).2
 refine ⟨by simpa [normC,mapC] using h.bl,by simpa [normC,mapC] using h.tl,chk_map hvs h.hd,fun a ha=>?_,fun t ht=>?_,?_,fun t ht hv=>?_,fun i t hi=>?_⟩
 ·obtain ⟨u,hu,rfl⟩:=List.mem_map.1 ha
  exact chk_map hvs (h.bd u hu)
 ·obtain ⟨u,hu,rfl⟩:=List.mem_map.1 ht
  obtain ⟨h1,h2,h3⟩:=tst_bad (h.ts u hu)
  exact tst_ok h1 (Jn4 hvs h2) (Jn4 hvs h3)
 ·show varB (numT _ c.hd.b)=false
  rw [Jmj hvs];exact h.hb
 ·unfold normC at ht ⊢
  rw [body_map]
  rw [test_map,show plc (mapC (numT (dedV (Ja1 c))) c).hd=(plc c.hd).map (numT (dedV (Ja1 c))) from rfl,← List.map_append] at ht
  obtain ⟨u,hu,rfl⟩:=List.mem_map.1 ht
  rw [Jmj hvs] at hv
  exact List.mem_map.2 ⟨u,h.safe u hu hv,rfl⟩
 ·unfold normC at hi
  rw [terms_map,dedV_map _ (fun t _=>Jmj hvs t) (fun t ht u hu hv hv2 he=>by
   have ht2:=(Jgf _ t).2 ⟨ht,hv⟩
   have hu2:=(Jgf _ u).2 ⟨hu,hv2⟩
   unfold numT at he
   rw [if_pos ht2,if_pos hu2] at he
   simp only [Tm.mk.injEq,true_and,and_true] at he
   exact idx_inj ht2 hu2 (by omega)),List.getElem?_map] at hi
  obtain ⟨u,hu,rfl⟩:=Option.map_eq_some_iff.1 hi
  have hl:=(List.getElem?_eq_some_iff.1 hu)
  obtain ⟨hl1,hl2⟩:=hl
  unfold numT
  rw [if_pos (by rw [← hl2];exact List.getElem_mem _),← hl2,List.Nodup.idxOf_getElem (dedV_nodup _) i hl1]
theorem madeC_ok (c:Cl):VC (madeC c):=norm_ok (made0_ok c)
theorem ground_calls (t:Tm)(w:World):Calls Tryz.prog 77 #[tmV t] w fun e w'=>e=.returned (tmV (Jb4 t))∧Fr0 w w':=by
 refine Jbl (args:=[tmV t]) (fun _=>False) Tryz.func77 rfl Tryz.ntmps77 rfl rfl ?_
 refine Csr (WL.box rfl rfl rfl ?_)
 intro b1
 refine WL.alloc T.zr26 rfl ?_
 intro b2
 refine Nn (Cs (Csr (Zv (OV.f0 0 rfl T.u26 rfl) (Zv (OV.l1 (v:=.int .i64 t.kind) rfl T.u3 rfl (.tail _ (.head _)) rfl) (Zv (OV.d0 rfl rfl) (Nn ?_))))))
 refine Cc rfl (fun c5=>?_) (fun c5=>?_)
 ·refine Csr (Zv (OV.f0 1 rfl T.u26 rfl) (Zv (OV.l1 (v:=.int .i64 t.n) rfl T.u3 rfl (.tail _ (.head _)) rfl) ?_))
  have hg:Jb4 t=⟨1,t.n,E0⟩:=by unfold Jb4;rw [if_pos (by simpa using c5)]
  refine Zv (OV.ao (xs:=[(0,.const (.int .i64 1)),(1,.tmp 7)]) (pl:=[(0,1),(1,1),(2,1)]) (cs:=tmC (Jb4 t)) T.u26 T.zr26 (by kernel_rfl) rfl (by rw [hg];exact Jal (us:=[_]) rfl rfl (Nat.le_of_ble_eq_true rfl) (Jal (us:=[_]) rfl rfl (Nat.le_of_ble_eq_true rfl) rfl))) (WL.ag (vs:=tmC (Jb4 t)) rfl rfl rfl T.z26 rfl ?_)
  refine Nn (WC.az ?_)
  refine Xr ?_
  exact WX.retC (cs:=tmC (Jb4 t)) rfl rfl rfl T.u26 rfl T.z26 (fun w' hw j v hj=>Ja0 hw (.head _) j v hj) (fun w' hw=>⟨rfl,hw.fr⟩)
 refine Ck (Xn (Csr (Zv (OV.lN (cs:=tmC t) rfl T.u26 rfl T.z26 (.tail _ (.head _))) ?_)))
 have hg:Jb4 t=t:=by unfold Jb4;rw [if_neg (by simpa using c5)]
 refine WL.ag (vs:=tmC (Jb4 t)) rfl (by rw [hg];rfl) rfl T.z26 rfl ?_
 refine Nn (WC.az ?_)
 exact WX.retC (cs:=tmC (Jb4 t)) rfl rfl rfl T.u26 rfl T.z26 (fun w' hw j v hj=>Ja0 hw (.head _) j v hj) (fun w' hw=>⟨rfl,hw.fr⟩)
theorem Je0 (t:Tm)(w:World):Calls Tryz.prog 74 #[tmV t] w fun e w'=>e=.returned (tmV (Jbz t))∧Fr0 w w':=by
 refine Jbl (args:=[tmV t]) (fun _=>False) Tryz.func74 rfl Tryz.ntmps74 rfl rfl ?_
 refine Csr (WL.box rfl rfl rfl ?_)
 intro b1
 refine WL.alloc T.zr26 rfl ?_
 intro b2
 refine Nn (Cs (Csr (Zv (OV.lN (cs:=tmC t) rfl T.u26 rfl T.z26 (.tail _ (.head _))) (WL.au (v:=.bool (Jcr t)) (by kernel_rfl) rfl rfl (fun w' hw'=>Jd3 t w') ?_))))
 refine Nn ?_
 refine Cc rfl (fun c5=>?_) (fun c5=>?_)
 ·refine Csr (Zv (OV.lN (cs:=tmC t) rfl T.u26 rfl T.z26 (.tail _ (.head _))) ?_)
  have hm:Jbz t=t:=by unfold Jbz;rw [if_pos (by simpa using c5)]
  refine WL.ag (vs:=tmC (Jbz t)) rfl (by rw [hm];rfl) rfl T.z26 rfl ?_
  refine Nn (WC.az ?_)
  refine Xr ?_
  exact WX.retC (cs:=tmC (Jbz t)) rfl rfl rfl T.u26 rfl T.z26 (fun w' hw j v hj=>Ja0 hw (.head _) j v hj) (fun w' hw=>⟨rfl,hw.fr⟩)
 refine Ck (Xn (Cs (Csr (Zv (OV.f0 0 rfl T.u26 rfl) (Zv (OV.l1 (v:=.int .i64 t.kind) rfl T.u3 rfl (.tail _ (.head _)) rfl) (Zv (OV.d0 rfl rfl) (Nn ?_)))))))
 refine Cc rfl (fun c9=>?_) (fun c9=>?_)
 ·refine Csr (Zv (OV.f0 2 rfl T.u26 rfl) (Zv (OV.l1 (v:=.string t.s) rfl T.u9 rfl (.tail _ (.head _)) rfl) (Zv (OV.dc rfl T.u9) (Za rfl (Nn (Cs (Csr (Zm rfl (Zv (OV.k7 rfl rfl) (Nn ?_))))))))))
  refine Cc rfl (fun c14=>?_) (fun c14=>?_)
  ·refine Cr (Za rfl (Nn (Csr (Zv (OV.f0 2 rfl T.u26 rfl) (Zv (OV.l1 (v:=.string t.s) rfl T.u9 rfl (.tail _ (.head _)) rfl) (Zm rfl (Zv (OV.sliceStr (ml:=none) (mh:=some 64) (l:=0) (h:=64) rfl T.u9 rfl (by rfl) rfl rfl (by omega)) ?_)))))))
   have hc:¬ Jcr t=true:=by simpa using c5
   have hk:t.kind=2:=by simpa using c9
   have hm:Jbz t=⟨2,0,t.s.extract 0 64⟩:=by unfold Jbz;rw [if_neg hc,if_pos hk,show min t.s.size 64=64 by omega]
   refine Zv (OV.ao (xs:=[(0,.const (.int .i64 2)),(2,.tmp 18)]) (pl:=[(0,1),(1,1),(2,1)]) (cs:=tmC (Jbz t)) T.u26 T.zr26 (by kernel_rfl) rfl (by rw [hm];exact Jal (us:=[_]) rfl rfl (Nat.le_of_ble_eq_true rfl) (Jal (us:=[_]) rfl rfl (Nat.le_of_ble_eq_true rfl) rfl))) (WL.ag (vs:=tmC (Jbz t)) rfl rfl rfl T.z26 rfl ?_)
   refine Nn (WC.az ?_)
   refine Xr ?_
   exact WX.retC (cs:=tmC (Jbz t)) rfl rfl rfl T.u26 rfl T.z26 (fun w' hw j v hj=>Ja0 hw (.head _) j v hj) (fun w' hw=>⟨rfl,hw.fr⟩)
  refine Ck (Xn (Csr (Zv (OV.f0 2 rfl T.u26 rfl) (Zv (OV.l1 (v:=.string t.s) rfl T.u9 rfl (.tail _ (.head _)) rfl) (Zm rfl (Zv (OV.sliceStr (ml:=none) (mh:=some t.s.size) (l:=0) (h:=t.s.size) rfl T.u9 rfl (by rfl) rfl rfl (by omega)) ?_))))))
  have hc:¬ Jcr t=true:=by simpa using c5
  have hk:t.kind=2:=by simpa using c9
  have hm:Jbz t=⟨2,0,t.s.extract 0 t.s.size⟩:=by unfold Jbz;rw [if_neg hc,if_pos hk,show min t.s.size 64=t.s.size by omega]
  refine Zv (OV.ao (xs:=[(0,.const (.int .i64 2)),(2,.tmp 18)]) (pl:=[(0,1),(1,1),(2,1)]) (cs:=tmC (Jbz t)) T.u26 T.zr26 (by kernel_rfl) rfl (by rw [hm];exact Jal (us:=[_]) rfl rfl (Nat.le_of_ble_eq_true rfl) (Jal (us:=[_]) rfl rfl (Nat.le_of_ble_eq_true rfl) rfl))) (WL.ag (vs:=tmC (Jbz t)) rfl rfl rfl T.z26 rfl ?_)
  refine Nn (WC.az ?_)
  refine Xr ?_
  exact WX.retC (cs:=tmC (Jbz t)) rfl rfl rfl T.u26 rfl T.z26 (fun w' hw j v hj=>Ja0 hw (.head _) j v hj) (fun w' hw=>⟨rfl,hw.fr⟩)
 refine Ck (Xn (Csr (Zv (OV.f0 1 rfl T.u26 rfl) (Zv (OV.l1 (v:=.int .i64 t.n) rfl T.u3 rfl (.tail _ (.head _)) rfl) ?_))))
 have hc:¬ Jcr t=true:=by simpa using c5
 have hk:¬ t.kind=2:=by simpa using c9
 have hm:Jbz t=⟨1,t.n,E0⟩:=by unfold Jbz;rw [if_neg hc,if_neg hk]
 refine Zv (OV.ao (xs:=[(0,.const (.int .i64 1)),(1,.tmp 21)]) (pl:=[(0,1),(1,1),(2,1)]) (cs:=tmC (Jbz t)) T.u26 T.zr26 (by kernel_rfl) rfl (by rw [hm];exact Jal (us:=[_]) rfl rfl (Nat.le_of_ble_eq_true rfl) (Jal (us:=[_]) rfl rfl (Nat.le_of_ble_eq_true rfl) rfl))) (WL.ag (vs:=tmC (Jbz t)) rfl rfl rfl T.z26 rfl ?_)
 refine Nn (WC.az ?_)
 exact WX.retC (cs:=tmC (Jbz t)) rfl rfl rfl T.u26 rfl T.z26 (fun w' hw j v hj=>Ja0 hw (.head _) j v hj) (fun w' hw=>⟨rfl,hw.fr⟩)
theorem letter_calls (c:UInt8)(w:World):Calls Tryz.prog 154 #[.int .u8 (c.toNat:Int)] w fun e w'=>e=.returned (.bool (letB c))∧Fr0 w w':=by
 refine Jbl (args:=[.int .u8 (c.toNat:Int)]) (fun _=>False) Tryz.func154 rfl Tryz.ntmps154 rfl rfl ?_
 refine Csr (Za rfl (Nn (Csr (Zm rfl (Zv (OV.jf rfl rfl) (Zm rfl ?_))))))
 refine Zp (t:=5) rfl (fun g5=>?_) (fun g5=>?_)
 ·refine Zg rfl rfl rfl (Zm rfl (Zg rfl rfl rfl (Zv (OV.mi rfl rfl) (Zv (OV.am rfl rfl) (Zm rfl ?_)))))
  refine Zp (t:=9) rfl (fun g9=>?_) (fun g9=>?_)
  ·refine Zs rfl rfl rfl (Zs rfl rfl rfl (Zs rfl rfl rfl (Zu rfl rfl (Zu rfl rfl (Zs rfl rfl rfl (Zv (OV.am rfl rfl) (Zm rfl (Zs rfl rfl rfl (Zs rfl rfl rfl (Zs rfl rfl rfl (Zu rfl rfl (Zu rfl rfl (Zs rfl rfl rfl (Zv (OV.am rfl rfl) (Zm rfl (Zs rfl rfl rfl (Zs rfl rfl rfl (Zv (OV.am rfl rfl) (Za rfl (Nn (WC.az ?_)))))))))))))))))))))
   exact WX.ret1 rfl rfl rfl (fun w' hw=>⟨by clear hw;congr 2;unfold letB;first | (rw [eq_comm,decide_eq_true_eq];omega) | (rw [eq_comm,decide_eq_false_iff_not];omega) | (rw [decide_eq_decide];omega),hw.fr⟩)
  refine Zg rfl rfl rfl (Zm rfl (Zg rfl rfl rfl (Zv (OV.jf rfl rfl) (Zg rfl rfl rfl (Zm rfl ?_)))))
  refine Zp (t:=12) rfl (fun g12=>?_) (fun g12=>?_)
  ·refine Zg rfl rfl rfl (Zm rfl (Zg rfl rfl rfl (Zv (OV.mi rfl rfl) (Zg rfl rfl rfl (Zv (OV.am rfl rfl) (Zv (OV.aj rfl rfl) (Zm rfl ?_)))))))
   refine Zp (t:=17) rfl (fun g17=>?_) (fun g17=>?_)
   ·refine Zs rfl rfl rfl (Zs rfl rfl rfl (Zs rfl rfl rfl (Zu rfl rfl (Zu rfl rfl (Zs rfl rfl rfl (Zv (OV.am rfl rfl) (Zm rfl (Zs rfl rfl rfl (Zs rfl rfl rfl (Zv (OV.am rfl rfl) (Za rfl (Nn (WC.az ?_)))))))))))))
    exact WX.ret1 rfl rfl rfl (fun w' hw=>⟨by clear hw;congr 2;unfold letB;first | (rw [eq_comm,decide_eq_true_eq];omega) | (rw [eq_comm,decide_eq_false_iff_not];omega) | (rw [decide_eq_decide];omega),hw.fr⟩)
   refine Zg rfl rfl rfl (Zm rfl (Zg rfl rfl rfl (Zv (OV.jf rfl rfl) (Zg rfl rfl rfl (Zm rfl ?_)))))
   refine Zp (t:=20) rfl (fun g20=>?_) (fun g20=>?_)
   ·refine Zg rfl rfl rfl (Zm rfl (Zg rfl rfl rfl (Zv (OV.mi rfl rfl) (Zg rfl rfl rfl (Zv (OV.am rfl rfl) (Zv (OV.aj rfl rfl) (Zm rfl ?_)))))))
    refine Zp (t:=25) rfl (fun g25=>?_) (fun g25=>?_)
    ·refine Zs rfl rfl rfl (Zs rfl rfl rfl (Zv (OV.am rfl rfl) (Za rfl (Nn (WC.az ?_)))))
     exact WX.ret1 rfl rfl rfl (fun w' hw=>⟨by clear hw;congr 2;unfold letB;first | (rw [eq_comm,decide_eq_true_eq];omega) | (rw [eq_comm,decide_eq_false_iff_not];omega) | (rw [decide_eq_decide];omega),hw.fr⟩)
    refine Zg rfl rfl rfl (Zm rfl (Zg rfl rfl rfl (Zv (OV.d0 rfl rfl) (Zv (OV.aj rfl rfl) (Za rfl (Nn (WC.az ?_)))))))
    exact WX.ret1 rfl rfl rfl (fun w' hw=>⟨by clear hw;congr 2;unfold letB;first | (rw [eq_comm,decide_eq_true_eq];omega) | (rw [eq_comm,decide_eq_false_iff_not];omega) | (rw [decide_eq_decide];omega),hw.fr⟩)
   refine Zs rfl rfl rfl (Zs rfl rfl rfl (Zg rfl rfl rfl (Zv (OV.aj rfl rfl) (Zv (OV.aj rfl rfl) (Zm rfl (Zg rfl rfl rfl (Zm rfl (Zg rfl rfl rfl (Zv (OV.d0 rfl rfl) (Zv (OV.aj rfl rfl) (Za rfl (Nn (WC.az ?_)))))))))))))
   exact WX.ret1 rfl rfl rfl (fun w' hw=>⟨by clear hw;congr 2;unfold letB;first | (rw [eq_comm,decide_eq_true_eq];omega) | (rw [eq_comm,decide_eq_false_iff_not];omega) | (rw [decide_eq_decide];omega),hw.fr⟩)
  refine Zs rfl rfl rfl (Zs rfl rfl rfl (Zg rfl rfl rfl (Zv (OV.aj rfl rfl) (Zv (OV.aj rfl rfl) (Zm rfl (Zg rfl rfl rfl (Zm rfl (Zg rfl rfl rfl (Zv (OV.jf rfl rfl) (Zg rfl rfl rfl (Zm rfl ?_)))))))))))
  refine Zp (t:=20) rfl (fun g20=>?_) (fun g20=>?_)
  ·refine Zg rfl rfl rfl (Zm rfl (Zg rfl rfl rfl (Zv (OV.mi rfl rfl) (Zg rfl rfl rfl (Zv (OV.am rfl rfl) (Zv (OV.aj rfl rfl) (Zm rfl ?_)))))))
   refine Zp (t:=25) rfl (fun g25=>?_) (fun g25=>?_)
   ·refine Zs rfl rfl rfl (Zs rfl rfl rfl (Zv (OV.am rfl rfl) (Za rfl (Nn (WC.az ?_)))))
    exact WX.ret1 rfl rfl rfl (fun w' hw=>⟨by clear hw;congr 2;unfold letB;first | (rw [eq_comm,decide_eq_true_eq];omega) | (rw [eq_comm,decide_eq_false_iff_not];omega) | (rw [decide_eq_decide];omega),hw.fr⟩)
   refine Zg rfl rfl rfl (Zm rfl (Zg rfl rfl rfl (Zv (OV.d0 rfl rfl) (Zv (OV.aj rfl rfl) (Za rfl (Nn (WC.az ?_)))))))
   exact WX.ret1 rfl rfl rfl (fun w' hw=>⟨by clear hw;congr 2;unfold letB;first | (rw [eq_comm,decide_eq_true_eq];omega) | (rw [eq_comm,decide_eq_false_iff_not];omega) | (rw [decide_eq_decide];omega),hw.fr⟩)
  refine Zs rfl rfl rfl (Zs rfl rfl rfl (Zg rfl rfl rfl (Zv (OV.aj rfl rfl) (Zv (OV.aj rfl rfl) (Zm rfl (Zg rfl rfl rfl (Zm rfl (Zg rfl rfl rfl (Zv (OV.d0 rfl rfl) (Zv (OV.aj rfl rfl) (Za rfl (Nn (WC.az ?_)))))))))))))
  exact WX.ret1 rfl rfl rfl (fun w' hw=>⟨by clear hw;congr 2;unfold letB;first | (rw [eq_comm,decide_eq_true_eq];omega) | (rw [eq_comm,decide_eq_false_iff_not];omega) | (rw [decide_eq_decide];omega),hw.fr⟩)
 refine Zs rfl rfl rfl (Zs rfl rfl rfl (Zv (OV.aj rfl rfl) (Zm rfl (Zg rfl rfl rfl (Zm rfl (Zg rfl rfl rfl (Zv (OV.jf rfl rfl) (Zg rfl rfl rfl (Zm rfl ?_)))))))))
 refine Zp (t:=12) rfl (fun g12=>?_) (fun g12=>?_)
 ·refine Zg rfl rfl rfl (Zm rfl (Zg rfl rfl rfl (Zv (OV.mi rfl rfl) (Zg rfl rfl rfl (Zv (OV.am rfl rfl) (Zv (OV.aj rfl rfl) (Zm rfl ?_)))))))
  refine Zp (t:=17) rfl (fun g17=>?_) (fun g17=>?_)
  ·refine Zs rfl rfl rfl (Zs rfl rfl rfl (Zs rfl rfl rfl (Zu rfl rfl (Zu rfl rfl (Zs rfl rfl rfl (Zv (OV.am rfl rfl) (Zm rfl (Zs rfl rfl rfl (Zs rfl rfl rfl (Zv (OV.am rfl rfl) (Za rfl (Nn (WC.az ?_)))))))))))))
   exact WX.ret1 rfl rfl rfl (fun w' hw=>⟨by clear hw;congr 2;unfold letB;first | (rw [eq_comm,decide_eq_true_eq];omega) | (rw [eq_comm,decide_eq_false_iff_not];omega) | (rw [decide_eq_decide];omega),hw.fr⟩)
  refine Zg rfl rfl rfl (Zm rfl (Zg rfl rfl rfl (Zv (OV.jf rfl rfl) (Zg rfl rfl rfl (Zm rfl ?_)))))
  refine Zp (t:=20) rfl (fun g20=>?_) (fun g20=>?_)
  ·refine Zg rfl rfl rfl (Zm rfl (Zg rfl rfl rfl (Zv (OV.mi rfl rfl) (Zg rfl rfl rfl (Zv (OV.am rfl rfl) (Zv (OV.aj rfl rfl) (Zm rfl ?_)))))))
   refine Zp (t:=25) rfl (fun g25=>?_) (fun g25=>?_)
   ·refine Zs rfl rfl rfl (Zs rfl rfl rfl (Zv (OV.am rfl rfl) (Za rfl (Nn (WC.az ?_)))))
    exact WX.ret1 rfl rfl rfl (fun w' hw=>⟨by clear hw;congr 2;unfold letB;first | (rw [eq_comm,decide_eq_true_eq];omega) | (rw [eq_comm,decide_eq_false_iff_not];omega) | (rw [decide_eq_decide];omega),hw.fr⟩)
   refine Zg rfl rfl rfl (Zm rfl (Zg rfl rfl rfl (Zv (OV.d0 rfl rfl) (Zv (OV.aj rfl rfl) (Za rfl (Nn (WC.az ?_)))))))
   exact WX.ret1 rfl rfl rfl (fun w' hw=>⟨by clear hw;congr 2;unfold letB;first | (rw [eq_comm,decide_eq_true_eq];omega) | (rw [eq_comm,decide_eq_false_iff_not];omega) | (rw [decide_eq_decide];omega),hw.fr⟩)
  refine Zs rfl rfl rfl (Zs rfl rfl rfl (Zg rfl rfl rfl (Zv (OV.aj rfl rfl) (Zv (OV.aj rfl rfl) (Zm rfl (Zg rfl rfl rfl (Zm rfl (Zg rfl rfl rfl (Zv (OV.d0 rfl rfl) (Zv (OV.aj rfl rfl) (Za rfl (Nn (WC.az ?_)))))))))))))
  exact WX.ret1 rfl rfl rfl (fun w' hw=>⟨by clear hw;congr 2;unfold letB;first | (rw [eq_comm,decide_eq_true_eq];omega) | (rw [eq_comm,decide_eq_false_iff_not];omega) | (rw [decide_eq_decide];omega),hw.fr⟩)
 refine Zs rfl rfl rfl (Zs rfl rfl rfl (Zg rfl rfl rfl (Zv (OV.aj rfl rfl) (Zv (OV.aj rfl rfl) (Zm rfl (Zg rfl rfl rfl (Zm rfl (Zg rfl rfl rfl (Zv (OV.jf rfl rfl) (Zg rfl rfl rfl (Zm rfl ?_)))))))))))
 refine Zp (t:=20) rfl (fun g20=>?_) (fun g20=>?_)
 ·refine Zg rfl rfl rfl (Zm rfl (Zg rfl rfl rfl (Zv (OV.mi rfl rfl) (Zg rfl rfl rfl (Zv (OV.am rfl rfl) (Zv (OV.aj rfl rfl) (Zm rfl ?_)))))))
  refine Zp (t:=25) rfl (fun g25=>?_) (fun g25=>?_)
  ·refine Zs rfl rfl rfl (Zs rfl rfl rfl (Zv (OV.am rfl rfl) (Za rfl (Nn (WC.az ?_)))))
   exact WX.ret1 rfl rfl rfl (fun w' hw=>⟨by clear hw;congr 2;unfold letB;first | (rw [eq_comm,decide_eq_true_eq];omega) | (rw [eq_comm,decide_eq_false_iff_not];omega) | (rw [decide_eq_decide];omega),hw.fr⟩)
  refine Zg rfl rfl rfl (Zm rfl (Zg rfl rfl rfl (Zv (OV.d0 rfl rfl) (Zv (OV.aj rfl rfl) (Za rfl (Nn (WC.az ?_)))))))
  exact WX.ret1 rfl rfl rfl (fun w' hw=>⟨by clear hw;congr 2;unfold letB;first | (rw [eq_comm,decide_eq_true_eq];omega) | (rw [eq_comm,decide_eq_false_iff_not];omega) | (rw [decide_eq_decide];omega),hw.fr⟩)
 refine Zs rfl rfl rfl (Zs rfl rfl rfl (Zg rfl rfl rfl (Zv (OV.aj rfl rfl) (Zv (OV.aj rfl rfl) (Zm rfl (Zg rfl rfl rfl (Zm rfl (Zg rfl rfl rfl (Zv (OV.d0 rfl rfl) (Zv (OV.aj rfl rfl) (Za rfl (Nn (WC.az ?_)))))))))))))
 exact WX.ret1 rfl rfl rfl (fun w' hw=>⟨by clear hw;congr 2;unfold letB;first | (rw [eq_comm,decide_eq_true_eq];omega) | (rw [eq_comm,decide_eq_false_iff_not];omega) | (rw [decide_eq_decide];omega),hw.fr⟩)
theorem refName_calls (s:ByteArray)(hs:s.size≤1099511627776)(w:World):Calls Tryz.prog 108 #[.string s] w fun e w'=>e=.returned (.bool (nameB s))∧Fr0 w w':=by
 refine Jbl (args:=[.string s]) (fun _=>False) Tryz.func108 rfl Tryz.ntmps108 rfl rfl ?_
 refine Csr (Za rfl (Nn (Cs (Csr (Zm rfl (Zv (OV.mf rfl rfl) (Zm rfl ?_)))))))
 refine Zp (t:=6) rfl (fun g6=>?_) (fun g6=>?_)
 ·refine Zs rfl rfl rfl (Zs rfl rfl rfl (Zs rfl rfl rfl (Zv (OV.am rfl rfl) (Zm rfl (Zs rfl rfl rfl (Zs rfl rfl rfl (Zv (OV.am rfl rfl) (Zm rfl (Zs rfl rfl rfl (Zs rfl rfl rfl (Zs rfl rfl rfl (Zv (OV.am rfl rfl) (Zm rfl (Zs rfl rfl rfl (Zs rfl rfl rfl (Zs rfl rfl rfl (Zv (OV.am rfl rfl) (Nn (WC.cj rfl ?_)))))))))))))))))))
  refine Csr (Za rfl (Nn (WC.az ?_)))
  refine Xr ?_
  exact WX.ret1 rfl rfl rfl (fun w' hw=>⟨by clear hw;rw [show nameB s=false from by unfold nameB;rw [decide_eq_false_iff_not];rintro ⟨h1,h2,h3,h4,h5,h6⟩;first | exact h1 (by assumption) | exact h3 (by assumption) | omega],hw.fr⟩)
 refine Zg rfl rfl rfl (Zm rfl (Zg rfl rfl rfl (Zv (OV.dc rfl T.u9) (Zg rfl rfl rfl (Zv (OV.k7 rfl rfl) (Zv (OV.aj rfl rfl) (Zm rfl ?_)))))))
 refine Zp (t:=11) rfl (fun g11=>?_) (fun g11=>?_)
 ·refine Zs rfl rfl rfl (Zs rfl rfl rfl (Zv (OV.am rfl rfl) (Zm rfl (Zs rfl rfl rfl (Zs rfl rfl rfl (Zs rfl rfl rfl (Zv (OV.am rfl rfl) (Zm rfl (Zs rfl rfl rfl (Zs rfl rfl rfl (Zs rfl rfl rfl (Zv (OV.am rfl rfl) (Nn (WC.cj rfl ?_))))))))))))))
  refine Csr (Za rfl (Nn (WC.az ?_)))
  refine Xr ?_
  exact WX.ret1 rfl rfl rfl (fun w' hw=>⟨by clear hw;rw [show nameB s=false from by unfold nameB;rw [decide_eq_false_iff_not];rintro ⟨h1,h2,h3,h4,h5,h6⟩;first | exact h1 (by assumption) | exact h3 (by assumption) | omega],hw.fr⟩)
 refine Zg rfl rfl rfl (Zm rfl (Zg rfl rfl rfl (Zv (OV.mf rfl rfl) (Zv (OV.aj rfl rfl) (Zm rfl ?_)))))
 refine Zp (t:=15) rfl (fun g15=>?_) (fun g15=>?_)
 ·refine Zs rfl rfl rfl (Zs rfl rfl rfl (Zs rfl rfl rfl (Zv (OV.am rfl rfl) (Zm rfl (Zs rfl rfl rfl (Zs rfl rfl rfl (Zs rfl rfl rfl (Zv (OV.am rfl rfl) (Nn (WC.cj rfl ?_))))))))))
  refine Csr (Za rfl (Nn (WC.az ?_)))
  refine Xr ?_
  exact WX.ret1 rfl rfl rfl (fun w' hw=>⟨by clear hw;rw [show nameB s=false from by unfold nameB;rw [decide_eq_false_iff_not];rintro ⟨h1,h2,h3,h4,h5,h6⟩;first | exact h1 (by assumption) | exact h3 (by assumption) | omega],hw.fr⟩)
 refine Zg rfl rfl rfl (Zm rfl (Zg rfl rfl rfl ?_))
 have hsz:=size_pos g6
 refine Zv (OV.eo (r:=bAt s 0) rfl rfl T.u9 ⟨by omega,bget hsz⟩) (Zg rfl rfl rfl (Zv (OV.cm rfl rfl) (Zv (OV.aj rfl rfl) (Zm rfl ?_))))
 refine Zp (t:=20) rfl (fun g20=>?_) (fun g20=>?_)
 ·refine Zs rfl rfl rfl (Zs rfl rfl rfl (Zs rfl rfl rfl (Zv (OV.am rfl rfl) (Nn (WC.cj rfl ?_)))))
  refine Csr (Za rfl (Nn (WC.az ?_)))
  refine Xr ?_
  exact WX.ret1 rfl rfl rfl (fun w' hw=>⟨by clear hw;rw [show nameB s=false from by unfold nameB;rw [decide_eq_false_iff_not];rintro ⟨h1,h2,h3,h4,h5,h6⟩;first | exact h1 (by assumption) | exact h3 (by assumption) | omega],hw.fr⟩)
 refine Zg rfl rfl rfl (Zm rfl (Zg rfl rfl rfl (Zv (OV.eo (r:=bAt s 0) rfl rfl T.u9 ⟨by omega,bget hsz⟩) (Zg rfl rfl rfl (Zv (OV.k7 rfl rfl) (Zv (OV.aj rfl rfl) (Nn ?_)))))))
 refine Cc rfl (fun c24=>?_) (fun c24=>?_)
 ·refine Csr (Za rfl (Nn (WC.az ?_)))
  refine Xr ?_
  exact WX.ret1 rfl rfl rfl (fun w' hw=>⟨by clear hw;rw [show nameB s=false from by unfold nameB;rw [decide_eq_false_iff_not];rintro ⟨h1,h2,h3,h4,h5,h6⟩;first | exact h1 (by assumption) | exact h3 (by assumption) | omega],hw.fr⟩)
 refine Ck (Xn (Cs (Csr (Za rfl (Nn (Cb ?_))))))
 refine WC.cg (fun (i:Nat)=>[(0,.string s),(3,.int .i64 (i:Int))])
   (fun i w'=>(i≤s.size∧∀ j,j<i→letB (bAt s j)=true)∧Sat0 w ([]) w')
   (fun i=>s.size - i) 0 Y2 (fun w' hw=>⟨⟨by omega,by intro j hj;omega⟩,hw⟩) ?_
 intro i
 refine WC.pure (fun hi=>?_)
 obtain ⟨hi,hz⟩:=hi
 refine Cs (Csr (Zm rfl (Zm rfl (Zv (OV.dc rfl T.u9) (Zv (OV.cm rfl rfl) (Nn ?_))))))
 refine Cc rfl (fun c28=>?_) (fun c28=>?_)
 ·refine Ck (Xn (Cs (Cb (Csr (Zm rfl (Zm rfl ?_))))))
  obtain ⟨cb,hcb⟩:∃ cb,cb=bAt s i:=⟨_,rfl⟩
  refine Zv (OV.eo (r:=cb) rfl rfl T.u9 ⟨by omega,by rw [hcb];exact bget (by omega)⟩) (WL.au (v:=.bool (letB cb)) (by kernel_rfl) rfl rfl (fun w' hw'=>letter_calls cb w') ?_)
  refine Zv (OV.not rfl) (Nn ?_)
  refine Cc rfl (fun c35=>?_) (fun c35=>?_)
  ·refine Csr (Za rfl (Nn (WC.az ?_)))
   refine Xq (Xr (Xr (Xq (Xr ?_))))
   exact WX.ret1 rfl rfl rfl (fun w' hw=>⟨by clear hw;rw [Jfs (i:=i) (by omega) (by rw [← hcb];simpa using c35)],hw.fr⟩)
  refine Ck (Xb (Xn (Cr (Zm rfl (Zv (OV.bi (j:=1) rfl rfl (by omega)) (Za rfl (Nl ?_)))))))
  have hlt:letB (bAt s i)=true:=by rw [← hcb];simpa using c35
  exact WX.bg (i+1) Y2 (fun w' hw=>⟨⟨by omega,fun j hj=>by rcases Nat.lt_or_ge j i with h | h;exact hz j h;rw [show j=i by omega];exact hlt⟩,hw⟩) (by show s.size - (i+1)<s.size - i;omega)
 refine Ce (Xe (Xe (Xh (Xn (Csr (Za rfl (Nn (WC.az ?_))))))))
 exact WX.ret1 rfl rfl rfl (fun w' hw=>⟨by clear hw;rw [show nameB s=true from by unfold nameB;rw [decide_eq_true_eq];exact ⟨by assumption,by omega,by assumption,by omega,by omega,fun j hj=>hz j (by omega)⟩],hw.fr⟩)
theorem refChk_calls (x:At)(a:Option Addr)(c:Nat)(hl:x.args.length≤1099511627776)(hs:x.name.size≤1099511627776)(w:World)(hr:RT w a x.args):Calls Tryz.prog 72 #[atV x a c] w fun e w'=>e=.returned (.int .i64 (chkA x))∧Fr0 w w':=by
 refine Jbl (args:=[atV x a c]) (fun _=>False) Tryz.func72 rfl Tryz.ntmps72 rfl rfl ?_
 refine Csr (WL.box rfl rfl rfl ?_)
 intro b1
 refine Za rfl (Nn (Cs (Csr (Zv (OV.f0 3 rfl T.u29 rfl) (Zv (OV.l1 (v:=.string x.name) rfl T.u9 rfl (.head _) rfl) (WL.au (v:=.bool (nameB x.name)) (by kernel_rfl) rfl rfl (fun w' hw'=>refName_calls x.name hs w') ?_))))))
 refine Zv (OV.not rfl) (Nn ?_)
 refine Cc rfl (fun c7=>?_) (fun c7=>?_)
 ·refine Csr (Za rfl (Nn (WC.az ?_)))
  refine Xr ?_
  exact WX.ret1 rfl rfl rfl (fun w' hw=>⟨by clear hw;congr 2;first | (have hany:x.args.any badB=true:=(List.any_eq_true.2 ⟨t,htm,by unfold badB;simp_all⟩);unfold chkA;rw [hany];clear hany;(simp_all <;> (try omega))) | (have hany:x.args.any badB=false:=(List.any_eq_false.2 fun u hu=>by rw [hbad u (by rw [List.take_of_length_le (by omega)];exact hu)];simp);unfold chkA;rw [hany];clear hany;(simp_all <;> (try omega))) | (simp_all [chkA] <;> (repeat' split) <;> first | omega | (exfalso;omega) | simp_all),hw.fr⟩)
 refine Ck (Xn (Cs (Csr (Zv (OV.f0 4 rfl T.u29 rfl) (Zv (OV.l1 (v:=.slice a x.args.length c) rfl T.u27 rfl (.head _) rfl) (Zv (OV.ae rfl T.u27) (Zv (OV.k7 rfl rfl) (Nn ?_))))))))
 refine Cc rfl (fun c11=>?_) (fun c11=>?_)
 ·refine Csr (Za rfl (Nn (WC.az ?_)))
  refine Xr ?_
  exact WX.ret1 rfl rfl rfl (fun w' hw=>⟨by clear hw;congr 2;first | (have hany:x.args.any badB=true:=(List.any_eq_true.2 ⟨t,htm,by unfold badB;simp_all⟩);unfold chkA;rw [hany];clear hany;(simp_all <;> (try omega))) | (have hany:x.args.any badB=false:=(List.any_eq_false.2 fun u hu=>by rw [hbad u (by rw [List.take_of_length_le (by omega)];exact hu)];simp);unfold chkA;rw [hany];clear hany;(simp_all <;> (try omega))) | (simp_all [chkA] <;> (repeat' split) <;> first | omega | (exfalso;omega) | simp_all),hw.fr⟩)
 refine Ck (Xn (Cs (Csr (Zv (OV.f0 0 rfl T.u29 rfl) (Zv (OV.ai (cs:=tmC x.b) rfl T.u26 rfl T.z26 (fun _ hw j v hj=>by rw [Jap];exact Jbo hw (.head _) (o:=0) (cs':=tmC x.b) rfl j v hj)) (Zv (OV.ao (xs:=[]) (pl:=[(0,1),(1,1),(2,1)]) (cs:=tmC T0) T.u26 T.zr26 (by kernel_rfl) rfl rfl) (Zv (OV.ky (a:=x.b) (b:=T0) rfl rfl) (Zm rfl ?_))))))))
 refine Zp (t:=16) rfl (fun g16=>?_) (fun g16=>?_)
 ·refine Zg rfl rfl rfl (Zv (OV.f0 0 rfl T.u29 rfl) (Zg rfl rfl rfl (Zv (OV.ai (cs:=tmC x.b) rfl T.u26 rfl T.z26 (fun _ hw j v hj=>by rw [Jap];exact Jbo hw (.head _) (o:=0) (cs':=tmC x.b) rfl j v hj)) (Zg rfl rfl rfl (WL.au (v:=.bool (prinB x.b)) (by kernel_rfl) rfl rfl (fun w' hw'=>refPrin_calls x.b w') ?_)))))
  refine Zg rfl rfl rfl (Zv (OV.not rfl) (Zv (OV.am rfl rfl) (Zm rfl ?_)))
  refine Zp (t:=22) rfl (fun g22=>?_) (fun g22=>?_)
  ·refine Zg rfl rfl rfl (Zv (OV.f0 0 rfl T.u29 rfl) (Zg rfl rfl rfl (Zv (OV.ai (cs:=tmC x.b) rfl T.u26 rfl T.z26 (fun _ hw j v hj=>by rw [Jap];exact Jbo hw (.head _) (o:=0) (cs':=tmC x.b) rfl j v hj)) (Zg rfl rfl rfl (WL.au (v:=.bool (varB x.b)) (by kernel_rfl) rfl rfl (fun w' hw'=>Jdb x.b w') ?_)))))
   refine Zg rfl rfl rfl (Zv (OV.not rfl) (Zv (OV.am rfl rfl) (Nn ?_)))
   refine Cc rfl (fun c27=>?_) (fun c27=>?_)
   ·refine Csr (Za rfl (Nn (WC.az ?_)))
    refine Xr ?_
    exact WX.ret1 rfl rfl rfl (fun w' hw=>⟨by clear hw;congr 2;first | (have hany:x.args.any badB=true:=(List.any_eq_true.2 ⟨t,htm,by unfold badB;simp_all⟩);unfold chkA;rw [hany];clear hany;(simp_all <;> (try omega))) | (have hany:x.args.any badB=false:=(List.any_eq_false.2 fun u hu=>by rw [hbad u (by rw [List.take_of_length_le (by omega)];exact hu)];simp);unfold chkA;rw [hany];clear hany;(simp_all <;> (try omega))) | (simp_all [chkA] <;> (repeat' split) <;> first | omega | (exfalso;omega) | simp_all),hw.fr⟩)
   refine Ck (Xn (Cs (Csr (Za rfl (Nn (Cb ?_))))))
   refine WC.cg (fun (i:Nat)=>[(1,.pointer (some ⟨b1,0,none⟩)),(3,.int .i64 (i:Int))])
     (fun i w'=>(i≤x.args.length∧∀ t∈x.args.take i,badB t=false)∧Sat0 w (oQ b1 (atC x a c) 29::[]) w')
     (fun i=>x.args.length - i) 0 Y2 (fun w' hw=>⟨⟨by omega,fun t ht=>by simp at ht⟩,hw⟩) ?_
   intro i
   refine WC.pure (fun hi=>?_)
   obtain ⟨hi,hbad⟩:=hi
   refine Cs (Csr (Zm rfl (Zv (OV.f0 4 rfl T.u29 rfl) (Zv (OV.l1 (v:=.slice a x.args.length c) rfl T.u27 rfl (.head _) rfl) (Zv (OV.ae rfl T.u27) (Zv (OV.cm rfl rfl) (Nn ?_)))))))
   refine Cc rfl (fun c32=>?_) (fun c32=>?_)
   ·refine Ck (Xn (Cs (Cb (Csr (Zv (OV.f0 4 rfl T.u29 rfl) (Zv (OV.l1 (v:=.slice a x.args.length c) rfl T.u27 rfl (.head _) rfl) (Zm rfl ?_)))))))
    obtain ⟨q1,t,hq1,ht1,htm,_,hc1⟩:=hr.get (i:=i) (by omega)
    refine Zv ((OV.ad (show _=some (Value.slice (some q1) x.args.length c) by rw [← hq1];rfl) rfl T.u27 T.z26 (by omega)).cast (u:=.pointer (some (q1.add (i*3)))) (by rw [Int.toNat_natCast])) (Zv (OV.ai (cs:=tmC t) rfl T.u26 rfl T.z26 (fun _ hw j v hj=>hw.keeps _ _ (hc1 j v hj))) (WL.au (v:=.bool (Jcr t)) (by kernel_rfl) rfl rfl (fun w' hw'=>Jd3 t w') ?_))
    refine Zv (OV.not rfl) (Zm rfl ?_)
    refine Zp (t:=42) rfl (fun g42=>?_) (fun g42=>?_)
    ·refine Zg rfl rfl rfl (Zv (OV.f0 4 rfl T.u29 rfl) (Zg rfl rfl rfl (Zv (OV.l1 (v:=.slice a x.args.length c) rfl T.u27 rfl (.head _) rfl) (Zg rfl rfl rfl (Zm rfl (Zg rfl rfl rfl (Zv ((OV.ad (show _=some (Value.slice (some q1) x.args.length c) by rw [← hq1];rfl) rfl T.u27 T.z26 (by omega)).cast (u:=.pointer (some (q1.add (i*3)))) (by rw [Int.toNat_natCast])) (Zg rfl rfl rfl (Zv (OV.ai (cs:=tmC t) rfl T.u26 rfl T.z26 (fun _ hw j v hj=>hw.keeps _ _ (hc1 j v hj))) (Zg rfl rfl rfl (WL.au (v:=.bool (varB t)) (by kernel_rfl) rfl rfl (fun w' hw'=>Jdb t w') ?_)))))))))))
     refine Zg rfl rfl rfl (Zv (OV.not rfl) (Zv (OV.am rfl rfl) (Nn ?_)))
     refine Cc rfl (fun c50=>?_) (fun c50=>?_)
     ·refine Csr (Za rfl (Nn (WC.az ?_)))
      refine Xq (Xr (Xr (Xq (Xr ?_))))
      exact WX.ret1 rfl rfl rfl (fun w' hw=>⟨by clear hw;congr 2;first | (have hany:x.args.any badB=true:=(List.any_eq_true.2 ⟨t,htm,by unfold badB;simp_all⟩);unfold chkA;rw [hany];clear hany;(simp_all <;> (try omega))) | (have hany:x.args.any badB=false:=(List.any_eq_false.2 fun u hu=>by rw [hbad u (by rw [List.take_of_length_le (by omega)];exact hu)];simp);unfold chkA;rw [hany];clear hany;(simp_all <;> (try omega))) | (simp_all [chkA] <;> (repeat' split) <;> first | omega | (exfalso;omega) | simp_all),hw.fr⟩)
     refine Ck (Xb (Xn (Cr (Zm rfl (Zv (OV.bi (j:=1) rfl rfl (by omega)) (Za rfl (Nl ?_)))))))
     have hb:badB t=false:=by unfold badB;simp_all
     exact WX.bg (i+1) Y2 (fun w' hw=>⟨⟨by omega,fun u hu=>by
      rw [List.take_add_one,ht1] at hu
      rcases List.mem_append.1 hu with h | h
      ·exact hbad u h
      ·simp at h;subst h;exact hb⟩,hw⟩) (by show x.args.length - (i+1)<x.args.length - i;omega)
    refine Zs rfl rfl rfl (Zs rfl rfl rfl (Zs rfl rfl rfl (Zs rfl rfl rfl (Zs rfl rfl rfl (Zs rfl rfl rfl (Zs rfl rfl rfl (Zv (OV.aj rfl rfl) (Nn (WC.bu rfl ?_)))))))))
    refine Ck (Xb (Xn (Cr (Zm rfl (Zv (OV.bi (j:=1) rfl rfl (by omega)) (Za rfl (Nl ?_)))))))
    have hb:badB t=false:=by unfold badB;simp_all
    exact WX.bg (i+1) Y2 (fun w' hw=>⟨⟨by omega,fun u hu=>by
     rw [List.take_add_one,ht1] at hu
     rcases List.mem_append.1 hu with h | h
     ·exact hbad u h
     ·simp at h;subst h;exact hb⟩,hw⟩) (by show x.args.length - (i+1)<x.args.length - i;omega)
   refine Ce (Xe (Xe (Xh (Xn (Csr (Za rfl (Nn (WC.az ?_))))))))
   exact WX.ret1 rfl rfl rfl (fun w' hw=>⟨by clear hw;congr 2;first | (have hany:x.args.any badB=true:=(List.any_eq_true.2 ⟨t,htm,by unfold badB;simp_all⟩);unfold chkA;rw [hany];clear hany;(simp_all <;> (try omega))) | (have hany:x.args.any badB=false:=(List.any_eq_false.2 fun u hu=>by rw [hbad u (by rw [List.take_of_length_le (by omega)];exact hu)];simp);unfold chkA;rw [hany];clear hany;(simp_all <;> (try omega))) | (simp_all [chkA] <;> (repeat' split) <;> first | omega | (exfalso;omega) | simp_all),hw.fr⟩)
  refine Zs rfl rfl rfl (Zs rfl rfl rfl (Zs rfl rfl rfl (Zs rfl rfl rfl (Zv (OV.aj rfl rfl) (Nn (WC.bu rfl ?_))))))
  refine Ck (Xn (Cs (Csr (Za rfl (Nn (Cb ?_))))))
  refine WC.cg (fun (i:Nat)=>[(1,.pointer (some ⟨b1,0,none⟩)),(3,.int .i64 (i:Int))])
    (fun i w'=>(i≤x.args.length∧∀ t∈x.args.take i,badB t=false)∧Sat0 w (oQ b1 (atC x a c) 29::[]) w')
    (fun i=>x.args.length - i) 0 Y2 (fun w' hw=>⟨⟨by omega,fun t ht=>by simp at ht⟩,hw⟩) ?_
  intro i
  refine WC.pure (fun hi=>?_)
  obtain ⟨hi,hbad⟩:=hi
  refine Cs (Csr (Zm rfl (Zv (OV.f0 4 rfl T.u29 rfl) (Zv (OV.l1 (v:=.slice a x.args.length c) rfl T.u27 rfl (.head _) rfl) (Zv (OV.ae rfl T.u27) (Zv (OV.cm rfl rfl) (Nn ?_)))))))
  refine Cc rfl (fun c32=>?_) (fun c32=>?_)
  ·refine Ck (Xn (Cs (Cb (Csr (Zv (OV.f0 4 rfl T.u29 rfl) (Zv (OV.l1 (v:=.slice a x.args.length c) rfl T.u27 rfl (.head _) rfl) (Zm rfl ?_)))))))
   obtain ⟨q1,t,hq1,ht1,htm,_,hc1⟩:=hr.get (i:=i) (by omega)
   refine Zv ((OV.ad (show _=some (Value.slice (some q1) x.args.length c) by rw [← hq1];rfl) rfl T.u27 T.z26 (by omega)).cast (u:=.pointer (some (q1.add (i*3)))) (by rw [Int.toNat_natCast])) (Zv (OV.ai (cs:=tmC t) rfl T.u26 rfl T.z26 (fun _ hw j v hj=>hw.keeps _ _ (hc1 j v hj))) (WL.au (v:=.bool (Jcr t)) (by kernel_rfl) rfl rfl (fun w' hw'=>Jd3 t w') ?_))
   refine Zv (OV.not rfl) (Zm rfl ?_)
   refine Zp (t:=42) rfl (fun g42=>?_) (fun g42=>?_)
   ·refine Zg rfl rfl rfl (Zv (OV.f0 4 rfl T.u29 rfl) (Zg rfl rfl rfl (Zv (OV.l1 (v:=.slice a x.args.length c) rfl T.u27 rfl (.head _) rfl) (Zg rfl rfl rfl (Zm rfl (Zg rfl rfl rfl (Zv ((OV.ad (show _=some (Value.slice (some q1) x.args.length c) by rw [← hq1];rfl) rfl T.u27 T.z26 (by omega)).cast (u:=.pointer (some (q1.add (i*3)))) (by rw [Int.toNat_natCast])) (Zg rfl rfl rfl (Zv (OV.ai (cs:=tmC t) rfl T.u26 rfl T.z26 (fun _ hw j v hj=>hw.keeps _ _ (hc1 j v hj))) (Zg rfl rfl rfl (WL.au (v:=.bool (varB t)) (by kernel_rfl) rfl rfl (fun w' hw'=>Jdb t w') ?_)))))))))))
    refine Zg rfl rfl rfl (Zv (OV.not rfl) (Zv (OV.am rfl rfl) (Nn ?_)))
    refine Cc rfl (fun c50=>?_) (fun c50=>?_)
    ·refine Csr (Za rfl (Nn (WC.az ?_)))
     refine Xq (Xr (Xr (Xq (Xr ?_))))
     exact WX.ret1 rfl rfl rfl (fun w' hw=>⟨by clear hw;congr 2;first | (have hany:x.args.any badB=true:=(List.any_eq_true.2 ⟨t,htm,by unfold badB;simp_all⟩);unfold chkA;rw [hany];clear hany;(simp_all <;> (try omega))) | (have hany:x.args.any badB=false:=(List.any_eq_false.2 fun u hu=>by rw [hbad u (by rw [List.take_of_length_le (by omega)];exact hu)];simp);unfold chkA;rw [hany];clear hany;(simp_all <;> (try omega))) | (simp_all [chkA] <;> (repeat' split) <;> first | omega | (exfalso;omega) | simp_all),hw.fr⟩)
    refine Ck (Xb (Xn (Cr (Zm rfl (Zv (OV.bi (j:=1) rfl rfl (by omega)) (Za rfl (Nl ?_)))))))
    have hb:badB t=false:=by unfold badB;simp_all
    exact WX.bg (i+1) Y2 (fun w' hw=>⟨⟨by omega,fun u hu=>by
     rw [List.take_add_one,ht1] at hu
     rcases List.mem_append.1 hu with h | h
     ·exact hbad u h
     ·simp at h;subst h;exact hb⟩,hw⟩) (by show x.args.length - (i+1)<x.args.length - i;omega)
   refine Zs rfl rfl rfl (Zs rfl rfl rfl (Zs rfl rfl rfl (Zs rfl rfl rfl (Zs rfl rfl rfl (Zs rfl rfl rfl (Zs rfl rfl rfl (Zv (OV.aj rfl rfl) (Nn (WC.bu rfl ?_)))))))))
   refine Ck (Xb (Xn (Cr (Zm rfl (Zv (OV.bi (j:=1) rfl rfl (by omega)) (Za rfl (Nl ?_)))))))
   have hb:badB t=false:=by unfold badB;simp_all
   exact WX.bg (i+1) Y2 (fun w' hw=>⟨⟨by omega,fun u hu=>by
    rw [List.take_add_one,ht1] at hu
    rcases List.mem_append.1 hu with h | h
    ·exact hbad u h
    ·simp at h;subst h;exact hb⟩,hw⟩) (by show x.args.length - (i+1)<x.args.length - i;omega)
  refine Ce (Xe (Xe (Xh (Xn (Csr (Za rfl (Nn (WC.az ?_))))))))
  exact WX.ret1 rfl rfl rfl (fun w' hw=>⟨by clear hw;congr 2;first | (have hany:x.args.any badB=true:=(List.any_eq_true.2 ⟨t,htm,by unfold badB;simp_all⟩);unfold chkA;rw [hany];clear hany;(simp_all <;> (try omega))) | (have hany:x.args.any badB=false:=(List.any_eq_false.2 fun u hu=>by rw [hbad u (by rw [List.take_of_length_le (by omega)];exact hu)];simp);unfold chkA;rw [hany];clear hany;(simp_all <;> (try omega))) | (simp_all [chkA] <;> (repeat' split) <;> first | omega | (exfalso;omega) | simp_all),hw.fr⟩)
 refine Zs rfl rfl rfl (Zs rfl rfl rfl (Zs rfl rfl rfl (Zs rfl rfl rfl (Zv (OV.aj rfl rfl) (Zm rfl (Zs rfl rfl rfl (Zs rfl rfl rfl (Zs rfl rfl rfl (Zs rfl rfl rfl (Zv (OV.aj rfl rfl) (Nn (WC.bu rfl ?_))))))))))))
 refine Ck (Xn (Cs (Csr (Za rfl (Nn (Cb ?_))))))
 refine WC.cg (fun (i:Nat)=>[(1,.pointer (some ⟨b1,0,none⟩)),(3,.int .i64 (i:Int))])
   (fun i w'=>(i≤x.args.length∧∀ t∈x.args.take i,badB t=false)∧Sat0 w (oQ b1 (atC x a c) 29::[]) w')
   (fun i=>x.args.length - i) 0 Y2 (fun w' hw=>⟨⟨by omega,fun t ht=>by simp at ht⟩,hw⟩) ?_
 intro i
 refine WC.pure (fun hi=>?_)
 obtain ⟨hi,hbad⟩:=hi
 refine Cs (Csr (Zm rfl (Zv (OV.f0 4 rfl T.u29 rfl) (Zv (OV.l1 (v:=.slice a x.args.length c) rfl T.u27 rfl (.head _) rfl) (Zv (OV.ae rfl T.u27) (Zv (OV.cm rfl rfl) (Nn ?_)))))))
 refine Cc rfl (fun c32=>?_) (fun c32=>?_)
 ·refine Ck (Xn (Cs (Cb (Csr (Zv (OV.f0 4 rfl T.u29 rfl) (Zv (OV.l1 (v:=.slice a x.args.length c) rfl T.u27 rfl (.head _) rfl) (Zm rfl ?_)))))))
  obtain ⟨q1,t,hq1,ht1,htm,_,hc1⟩:=hr.get (i:=i) (by omega)
  refine Zv ((OV.ad (show _=some (Value.slice (some q1) x.args.length c) by rw [← hq1];rfl) rfl T.u27 T.z26 (by omega)).cast (u:=.pointer (some (q1.add (i*3)))) (by rw [Int.toNat_natCast])) (Zv (OV.ai (cs:=tmC t) rfl T.u26 rfl T.z26 (fun _ hw j v hj=>hw.keeps _ _ (hc1 j v hj))) (WL.au (v:=.bool (Jcr t)) (by kernel_rfl) rfl rfl (fun w' hw'=>Jd3 t w') ?_))
  refine Zv (OV.not rfl) (Zm rfl ?_)
  refine Zp (t:=42) rfl (fun g42=>?_) (fun g42=>?_)
  ·refine Zg rfl rfl rfl (Zv (OV.f0 4 rfl T.u29 rfl) (Zg rfl rfl rfl (Zv (OV.l1 (v:=.slice a x.args.length c) rfl T.u27 rfl (.head _) rfl) (Zg rfl rfl rfl (Zm rfl (Zg rfl rfl rfl (Zv ((OV.ad (show _=some (Value.slice (some q1) x.args.length c) by rw [← hq1];rfl) rfl T.u27 T.z26 (by omega)).cast (u:=.pointer (some (q1.add (i*3)))) (by rw [Int.toNat_natCast])) (Zg rfl rfl rfl (Zv (OV.ai (cs:=tmC t) rfl T.u26 rfl T.z26 (fun _ hw j v hj=>hw.keeps _ _ (hc1 j v hj))) (Zg rfl rfl rfl (WL.au (v:=.bool (varB t)) (by kernel_rfl) rfl rfl (fun w' hw'=>Jdb t w') ?_)))))))))))
   refine Zg rfl rfl rfl (Zv (OV.not rfl) (Zv (OV.am rfl rfl) (Nn ?_)))
   refine Cc rfl (fun c50=>?_) (fun c50=>?_)
   ·refine Csr (Za rfl (Nn (WC.az ?_)))
    refine Xq (Xr (Xr (Xq (Xr ?_))))
    exact WX.ret1 rfl rfl rfl (fun w' hw=>⟨by clear hw;congr 2;first | (have hany:x.args.any badB=true:=(List.any_eq_true.2 ⟨t,htm,by unfold badB;simp_all⟩);unfold chkA;rw [hany];clear hany;(simp_all <;> (try omega))) | (have hany:x.args.any badB=false:=(List.any_eq_false.2 fun u hu=>by rw [hbad u (by rw [List.take_of_length_le (by omega)];exact hu)];simp);unfold chkA;rw [hany];clear hany;(simp_all <;> (try omega))) | (simp_all [chkA] <;> (repeat' split) <;> first | omega | (exfalso;omega) | simp_all),hw.fr⟩)
   refine Ck (Xb (Xn (Cr (Zm rfl (Zv (OV.bi (j:=1) rfl rfl (by omega)) (Za rfl (Nl ?_)))))))
   have hb:badB t=false:=by unfold badB;simp_all
   exact WX.bg (i+1) Y2 (fun w' hw=>⟨⟨by omega,fun u hu=>by
    rw [List.take_add_one,ht1] at hu
    rcases List.mem_append.1 hu with h | h
    ·exact hbad u h
    ·simp at h;subst h;exact hb⟩,hw⟩) (by show x.args.length - (i+1)<x.args.length - i;omega)
  refine Zs rfl rfl rfl (Zs rfl rfl rfl (Zs rfl rfl rfl (Zs rfl rfl rfl (Zs rfl rfl rfl (Zs rfl rfl rfl (Zs rfl rfl rfl (Zv (OV.aj rfl rfl) (Nn (WC.bu rfl ?_)))))))))
  refine Ck (Xb (Xn (Cr (Zm rfl (Zv (OV.bi (j:=1) rfl rfl (by omega)) (Za rfl (Nl ?_)))))))
  have hb:badB t=false:=by unfold badB;simp_all
  exact WX.bg (i+1) Y2 (fun w' hw=>⟨⟨by omega,fun u hu=>by
   rw [List.take_add_one,ht1] at hu
   rcases List.mem_append.1 hu with h | h
   ·exact hbad u h
   ·simp at h;subst h;exact hb⟩,hw⟩) (by show x.args.length - (i+1)<x.args.length - i;omega)
 refine Ce (Xe (Xe (Xh (Xn (Csr (Za rfl (Nn (WC.az ?_))))))))
 exact WX.ret1 rfl rfl rfl (fun w' hw=>⟨by clear hw;congr 2;first | (have hany:x.args.any badB=true:=(List.any_eq_true.2 ⟨t,htm,by unfold badB;simp_all⟩);unfold chkA;rw [hany];clear hany;(simp_all <;> (try omega))) | (have hany:x.args.any badB=false:=(List.any_eq_false.2 fun u hu=>by rw [hbad u (by rw [List.take_of_length_le (by omega)];exact hu)];simp);unfold chkA;rw [hany];clear hany;(simp_all <;> (try omega))) | (simp_all [chkA] <;> (repeat' split) <;> first | omega | (exfalso;omega) | simp_all),hw.fr⟩)
abbrev rowS (a:Option Addr)(c:Nat)(ts:List Ts):Hw.Item:=row 61 7 a ts.length c (ts.flatMap tsC)
theorem T.apS:appB Tryz.prog 30 61 7 72=true:=by kernel_rfl
structure RS (w:World) (a:Option Addr) (ts:List Ts):Prop where
 nil:a=none→ts.length=0
 at_:∀ q,a=some q→∀ i t,ts[i]?=some t→∀ j v,(tsC t)[j]?=some v→w.cell? ((q.add (i*7)).add j)=some v
theorem RS.keeps {w w':World}{a:Option Addr}{ts:List Ts}(h:RS w a ts)(k:Keeps w w'):RS w' a ts:=⟨h.nil,fun q hq i t ht j v hv=>k _ _ (h.at_ q hq i t ht j v hv)⟩
theorem RS.get {w:World}{a:Option Addr}{ts:List Ts}(h:RS w a ts){i:Nat}(hi:i<ts.length):∃ q t,a=some q∧ts[i]?=some t∧t∈ts∧∀ j v,(tsC t)[j]?=some v→w.cell? ((q.add (i*7)).add j)=some v:=by
 cases a with
 | none=>have:=h.nil rfl;omega
 | some q=>exact ⟨q,ts[i],rfl,List.getElem?_eq_getElem hi,List.getElem_mem hi,h.at_ q rfl i _ (List.getElem?_eq_getElem hi)⟩
theorem RS.of_row {w0 ws w:World}{M I:Nat→Prop}{ow:List Hw.Item}{a:Option Addr}{c:Nat}{ts:List Ts}(hw:Sat w0 M I ws ow w)(hm:rowS a c ts∈ow):RS w a ts:=by
 refine ⟨fun ha=>?_,fun q hq i t ht j v hv=>?_⟩
 ·rcases (Jdt hw hm).2 with ⟨_,h,_⟩ | ⟨b,hb,_⟩
  ·exact h
  ·rw [ha] at hb;cases hb
 ·subst hq
  have hj:j<7:=(List.getElem?_eq_some_iff.1 hv).1
  have h1:=Jdf hw hm (i*7+j) v (by rw [Jco tsC_len ts i j t ht hj];exact hv)
  rwa [Jdm] at h1
structure CG where
 hd:AG
 ba:Option Addr
 bc:Nat
 bd:List AG
 ta:Option Addr
 tc:Nat
 ts:List Ts
def CG.cl (g:CG):Cl:=⟨g.hd.x,g.bd.map AG.x,g.ts⟩
def cgC (g:CG):List Value:=[.int .i64 g.hd.x.b.kind,.int .i64 g.hd.x.b.n,.string g.hd.x.b.s,.string g.hd.x.name,.slice g.hd.a g.hd.x.args.length g.hd.c,.slice g.ba g.bd.length g.bc,.slice g.ta g.ts.length g.tc]
abbrev cgV (g:CG):Value:=.agg (cgC g).toArray
def cgA (g:CG):List Hw.Item:=argA g.hd::(atsA g.ba g.bc g.bd++[rowS g.ta g.tc g.ts])
structure RC (w:World) (g:CG):Prop where
 hd:RT w g.hd.a g.hd.x.args
 bd:RA w g.ba g.bd
 ts:RS w g.ta g.ts
theorem RC.keeps {w w':World}{g:CG}(h:RC w g)(k:Keeps w w'):RC w' g:=⟨h.hd.keeps k,h.bd.keeps k,h.ts.keeps k⟩
theorem RC.of_items {w0 ws w:World}{M I:Nat→Prop}{ow:List Hw.Item}{g:CG}(hw:Sat w0 M I ws ow w)(hm:∀ i∈cgA g,i∈ow):RC w g:=
 ⟨RT.of_row (c:=g.hd.c) rfl hw (hm _ (.head _)),RA.of_row hw (fun i hi=>hm _ (.tail _ (List.mem_append_left _ hi))),RS.of_row hw (hm _ (.tail _ (List.mem_append_right _ (.head _))))⟩
theorem Jna {g:CG}{i:Nat}{y:AG}(h:g.bd[i]?=some y):clA g.cl i=y.x:=by
 unfold clA CG.cl
 rw [List.getD_eq_getElem?_getD,List.getElem?_map,h];rfl
theorem Jm9 {g:CG}{i:Nat}{t:Ts}(h:g.ts[i]?=some t):clT g.cl i=t:=by
 unfold clT CG.cl
 rw [List.getD_eq_getElem?_getD,h];rfl
theorem WC.snap {P:Program}{Q:Post}{n:Nat}{ds:DS}{e:Env}{c:Code}{w0 ws:World}{M I:Nat→Prop}{A ow:List Hw.Item} 
  (h:∀ w1,Sat w0 M I ws (A++ow) w1→WC P Q n ds e (Sat w0 M (fun b=>b<w1.heap.size∧∀ i∈ow,¬ i.D b) w1 ow) c):WC P Q n ds e (Sat w0 M I ws (A++ow)) c:=
 fun a w ha hw=>h w hw a w ha (Sat.resnap (Sat.part (List.sublist_append_right _ _) hw))
end Go.Proofs.YtgebaodagaecmaaGreatDoor
namespace Go.Hw
open Go
set_option linter.unusedSimpArgs false
set_option linter.unusedVariables false
section
variable {w0 ws:World} {M I:Nat→Prop} {ow:List Item}
variable {P:Program} {ops:Array Oper} {Q:Post} {n:Nat} {ds:DS} {e:Env} {rest:List Oper} {t lt:TypeId} {p:String} {af:Array Edge} {k:Nat} {x y:Operand} {v:Value}
theorem take_set_mid {α:Type}{l xs vs:List α}{o k:Nat}(h:l.take k=xs)(ho:o+vs.length≤xs.length)(hk:k≤l.length):(l.take o++vs++l.drop (o+vs.length)).take k=xs.take o++vs++xs.drop (o+vs.length):=by
 have hl:xs.length=k:=by rw [← h,List.length_take];omega
 subst h
 rw [List.take_take,Nat.min_eq_left (by omega),List.append_assoc,List.append_assoc,List.take_append,List.length_take,Nat.min_eq_left (by omega),List.take_of_length_le (l:=List.take o l) (by rw [List.length_take];omega)]
 congr 1
 rw [List.take_append,List.take_of_length_le (l:=vs) (by omega)]
 congr 1
 rw [List.drop_take]
 congr 1
 omega
theorem WL.ia {T size m cap o b:Nat}{a:Option Addr}{xs vs:List Value}(hx:ev e x=Option.some (.pointer (Option.some ⟨b,o,none⟩)))(ha:a=Option.some ⟨b,0,none⟩)(hy:ev e y=Option.some (.agg vs.toArray))(h1:vs.all (·.oneCell')=true)(hz:P.sz lt=Option.some vs.length)(ho:o+vs.length≤xs.length) 
  (h:WL P ops Q n ds e (Sat w0 M I ws (row T size a m cap (xs.take o++vs++xs.drop (o+vs.length))::ow)) rest) :
  WL P ops Q n ds e (Sat w0 M I ws (row T size a m cap xs::ow)) (⟨none,.store lt x y,t,p,af,none⟩::rest):=by
 subst ha
 refine WL.nv (S':=Sat w0 M I ws (row T size (Option.some ⟨b,0,none⟩) m cap (xs.take o++vs++xs.drop (o+vs.length))::ow)) (fun ac w ha hw=>?_) h
 have hown:w.ownsRow 0 T size (.slice (Option.some ⟨b,0,none⟩) m cap) m xs:=hw.it _ (.head _)
 rcases hown.2 with ⟨hv,_⟩ | ⟨g,c,cur,hv,hg0,hg,hmc,hcm,hcs,htake⟩
 ·cases hv
 ·simp only [Value.slice.injEq,Option.some.injEq,Addr.mk.injEq,and_true] at hv
  obtain ⟨rfl,_,rfl⟩:=hv
  have hlen:=hown.1
  have hle:m*size≤cur.size:=by rw [hcs];exact Nat.mul_le_mul_right _ hmc
  have hcl:cur.toList.length=cur.size:=Array.length_toList
  have ho':o+vs.length≤cur.toList.length:=by omega
  have hs:=run_storeCells_at P b o T vs 0 cur w hg (by simpa using (show o+vs.length≤cur.size by omega)) (by simpa using h1)
  simp only [Nat.zero_add,Nat.add_zero] at hs
  refine ⟨w.setRow b (cur.toList.take o++vs++cur.toList.drop (o+vs.length)).toArray,?_,?_⟩
  ·simp only [execOp,Instr.storeAt,Instr.sureAddr,storeVar,ha.eval hx,ha.eval hy,Value.cells]
   simp [run_sizeOf hz,hs]
  ·refine hw.turn ((Fr.setRow _ _ _).mono (fun i hi=>⟨_,rfl,by subst hi;rfl⟩)) ⟨by simp only [List.length_append,List.length_take,List.length_drop];omega,.inr ⟨b,cap,_,rfl,hg0,setRow_heap w b cur _ T (0,0) hg,hmc,hcm,?_,?_⟩⟩ (fun q hq=>.inl hq)
   ·simp only [List.size_toArray,List.length_append,List.length_take,List.length_drop]
    rw [← hcs];omega
   ·exact take_set_mid htake ho (by omega)
end
theorem WL.buildSliceB {P:Program}{w0 ws:World}{M I:Nat→Prop}{ow:List Item}{ops:Array Oper}{Q:Post}{n:Nat}{ds:DS}{e:Env}{rest:List Oper}{t lt T:TypeId}{p:String}{af:Array Edge}{k s m:Nat}{xs:List Operand}{css:List (List Value)}{parts:Array (Nat × Operand)}{zc:List Value} 
  (hp:parts=(xs.zipIdx.map fun (x,i)=>(i,x)).toArray) (hu:P.underlying lt=Option.some (.slice T)) (hz:P.sz T=Option.some s) (hzr:P.zr T=Option.some zc.toArray) (hv:evs e xs=Option.some (css.map fun c=>.agg c.toArray)) (hl:css.length=m) (hs:∀ c∈css,c.length=s) (h0:0<m*s) (hm:m*s≤16777216) (hk:Nat.blt k n=true)
  (h:∀ b,WL P ops Q n ds ((k,.slice (Option.some ⟨b,0,Option.none⟩) m m)::e) (Sat w0 M I ws (oQ b css.flatten T::ow)) rest) :
  WL P ops Q n ds e (Sat w0 M I ws ow) (⟨Option.some k,.buildSlice lt m parts,t,p,af,Option.none⟩::rest):=by
 refine WL.io (ι:=Nat) (vv:=fun b=>.slice (Option.some ⟨b,0,Option.none⟩) m m) (SS:=fun b=>Sat w0 M I ws (oQ b css.flatten T::ow)) ?_ hk h
 intro a w ha hw
 obtain ⟨zv,hzv,hc⟩:=Jf9 hzr w
 have key:∀ (us:List (List Value)) (i:Nat) (done cur:List Value),(∀ c∈us,c.length=s)→done.length=i*s→cur.length=us.length*s →
   Instr.fill (fun i=>Option.some (i*s,s)) (done++cur).toArray (((us.map fun c=>Value.agg c.toArray).zipIdx i).map fun (v,i)=>(i,v))=Option.some (done++us.flatten).toArray:=by
  intro us
  induction us with
  | nil=>intro i done cur _ _ hcu;have:cur=[]:=List.eq_nil_of_length_eq_zero (by simpa using hcu);subst this;simp [Instr.fill]
  | cons u us ih=>
   intro i done cur h1 hd hcu
   have hu1:u.length=s:=h1 u (.head _)
   have hcl:cur.length=us.length*s+s:=by rw [hcu,List.length_cons,Nat.add_mul,Nat.one_mul]
   have ih':=ih (i+1) (done++u) (cur.drop s) (fun c hc=>h1 c (.tail _ hc)) (by rw [List.length_append,hd,hu1,Nat.add_mul,Nat.one_mul]) (by rw [List.length_drop];omega)
   simp only [List.map_cons,List.zipIdx_cons]
   refine Jal (us:=u) rfl (by rw [hu1]) (by rw [List.length_append,hd,hu1];omega) ?_
   have e1:(done++cur).take (i*s)=done:=by rw [← hd,List.take_left'];rfl
   have e2:(done++cur).drop (i*s+u.length)=cur.drop s:=by rw [← hd,hu1,List.drop_append,Nat.add_sub_cancel_left,List.drop_eq_nil_of_le (by omega),List.nil_append]
   rw [e1,e2,ih']
   simp
 have hxs:=Jev ha hv
 have hmap:List.map ((fun x:Nat × Operand=>(x.fst,a.eval x.snd)) ∘ fun x:Operand × Nat=>(x.snd,x.fst)) xs.zipIdx=(css.map fun c=>Value.agg c.toArray).zipIdx.map fun (v,i)=>(i,v):=by
  rw [← hxs,List.zipIdx_map,List.map_map]
  rfl
 subst hp
 refine ⟨w.heap.size,w.alloc (.cells css.flatten.toArray T),?_,hw.fresh (Fr.alloc _ _) (Jc2 _ _) (fun b hb=>by simp only [own] at hb;subst hb;simp)⟩
 have hz2:∀ (f:Nat→Value),Instr.fill (fun i=>Option.some (i*s,s)) ((Array.range (m*s)).map f) ((css.map fun c=>Value.agg c.toArray).zipIdx.map fun (v,i)=>(i,v))=Option.some css.flatten.toArray:=by
  intro f
  have h2:=key css 0 [] ((Array.range (m*s)).map f).toList hs (by simp) (by simp [hl])
  rw [List.nil_append,List.nil_append,Array.toArray_toList] at h2
  exact h2
 have hs0:¬ (m*s=0):=by omega
 have hs3:¬ (m*s > 2 ^ 24):=by omega
 simp only [execOp,Instr.buildSlice,Sem.run_bind,run_underlying hu,Result.andThen_ok,run_sizeOf hz,if_neg hs3,if_neg hs0,hzv,Sem.run_pure]
 simp only [List.map_toArray,List.map_map,hmap,hz2]
 simp [newRow,newObj,Sem.run]
end Go.Hw
set_option maxRecDepth 10000
namespace Go.Proofs.YtgebaodagaecmaaGreatDoor
open Go Go.Hw
set_option linter.unusedSimpArgs false
set_option linter.unusedVariables false
theorem Src.of_rowT {w0 ws w:World}{M I:Nat→Prop}{ow:List Hw.Item}{a:Option Addr}{c:Nat}{ts:List Tm}(hw:Sat w0 M I ws ow w)(hm:rowT a c ts∈ow):Src (Sat w0 M I ws ow) a ts.length 3 (ts.flatMap tmC):=
 Src.of_rt (RT.of_row rfl hw hm).nil (fun _ h=>RT.of_row rfl h hm)
theorem el_part {w:World}{a:Addr}{cs cs':List Value}(hc:∀ j v,cs[j]?=some v→w.cell? (a.add j)=some v){o:Nat}(hp:(cs.drop o).take cs'.length=cs'):∀ j v,cs'[j]?=some v→w.cell? ((a.add o).add j)=some v:=by
 intro j v hj
 have hl:=(List.getElem?_eq_some_iff.1 hj).1
 rw [← hp,List.getElem?_take_of_lt hl,List.getElem?_drop] at hj
 rw [← Jdm]
 exact hc _ _ hj
def Jk8 (l:List Tm)(t:Tm):Int:=if t∈l then ((l.idxOf t:Nat):Int) else -1
theorem idx_first:∀ {l:List Tm} {i:Nat} {t:Tm},l[i]?=some t→(∀ u∈l.take i,u≠t)→l.idxOf t=i
 | u::l,0,t,h,_=>by
  simp only [List.getElem?_cons_zero,Option.some.injEq] at h
  subst h
  exact List.idxOf_cons_self
 | u::l,i+1,t,h,hn=>by
  rw [List.idxOf_cons,show (u == t)=false from beq_false_of_ne (hn u (by simp)),cond_false,idx_first (l:=l) (i:=i) (by simpa using h) (fun v hv=>hn v (by simp [hv]))]
theorem not_mem_take {l:List Tm}{i:Nat}{t:Tm}(hn:∀ u∈l.take i,u≠t)(hi:l.length≤i):t∉l:=fun h=>hn t (by rw [List.take_of_length_le hi];exact h) rfl
theorem Jb2 {α:Type}{l:List α}{i:Nat}{t:α}(h:l[i]?=some t):l.take (i+1)=l.take i++[t]:=by rw [List.take_add_one,h];rfl
theorem ne_step {l:List Tm}{i:Nat}{t u:Tm}(hn:∀ u∈l.take i,u≠t)(h:l[i]?=some u)(hne:u≠t):∀ u∈l.take (i+1),u≠t:=fun v hv=>by
 rw [Jb2 h] at hv
 rcases List.mem_append.1 hv with h1 | h1
 ·exact hn v h1
 ·simp only [List.mem_singleton] at h1;rw [h1];exact hne
theorem atomTerms_calls (x:At)(a:Option Addr)(c:Nat)(hl:x.args.length≤1048576)(w:World)(hr:RT w a x.args):Calls Tryz.prog 75 #[atV x a c] w fun e w'=>∃ z:Option Addr × Nat,e=.returned (.slice z.1 (plc x).length z.2)∧Turns [] [rowT z.1 z.2 (plc x)] w w':=by
 refine Jbl (args:=[atV x a c]) (fun _=>False) Tryz.func75 rfl Tryz.ntmps75 rfl rfl ?_
 refine Csr (WL.box rfl rfl rfl ?_)
 intro b1
 refine Za rfl (Nn (Csr (Zv (OV.f0 0 rfl T.u29 rfl) (Zv (OV.ai (cs:=tmC x.b) rfl T.u26 rfl T.z26 (fun _ hw j v hj=>by rw [Jap];exact Jbo hw (.head _) (o:=0) (cs':=tmC x.b) rfl j v hj)) (WL.bh (cs:=tmC x.b) T.u27 T.z26 T.zr26 rfl rfl (by omega) (by omega) rfl ?_)))))
 intro b6
 refine WL.weak (S':=Sat0 w (row 26 3 (some ⟨b6,0,none⟩) 1 1 (tmC x.b)::oQ b1 (atC x a c) 29::[])) (fun w' hw=>hw.asRow (m:=1) rfl (by decide)) ?_
 refine Za rfl (Nn (Csr (Zm rfl (Zv (OV.f0 4 rfl T.u29 rfl) (Zv (OV.l1 (v:=.slice a x.args.length c) rfl T.u27 rfl (.tail _ (.head _)) rfl) (WL.append (news:=x.args.flatMap tmC) rfl rfl T.apT (fun _ _=>Src.of_rt hr.nil (fun _ hw=>hr.keeps hw.keeps)) (Jjh _) ⟨by omega,by unfold maxLen;omega⟩ rfl ?_))))))
 intro a10 c10
 refine Za rfl (Nn (WC.az ?_))
 have el:1+x.args.length=(plc x).length:=by simp [plc];omega
 have ef:tmC x.b++x.args.flatMap tmC=(plc x).flatMap tmC:=rfl
 rw [el,ef]
 exact WX.ret1 rfl rfl rfl (fun w' hw=>⟨(a10,c10),rfl,(hw.pik [[rowT a10 c10 (plc x)],[oQ b1 (atC x a c) 29]] [0] 2).turned0⟩)
theorem within_calls (l:List Tm)(a:Option Addr)(c:Nat)(t:Tm)(hl:l.length≤1099511627776)(w:World)(hr:RT w a l):Calls Tryz.prog 76 #[.slice a l.length c,tmV t] w fun e w'=>e=.returned (.bool (decide (t∈l)))∧Fr0 w w':=by
 refine Jbl (args:=[.slice a l.length c,tmV t]) (fun _=>False) Tryz.func76 rfl Tryz.ntmps76 rfl rfl ?_
 refine Csr (WL.box rfl rfl rfl ?_)
 intro b3
 refine Za rfl (Nn (Cs (Csr (Za rfl (Nn (Cb ?_))))))
 refine WC.cg (fun (i:Nat)=>[(0,.slice a l.length c),(3,.pointer (some ⟨b3,0,none⟩)),(5,.int .i64 (i:Int))])
   (fun i w'=>(i≤l.length∧∀ u∈l.take i,u≠t)∧Sat0 w (oQ b3 (tmC t) 26::[]) w')
   (fun i=>l.length - i) 0 Y3 (fun w' hw=>⟨⟨by omega,fun u hu=>by simp at hu⟩,hw⟩) ?_
 intro i
 refine WC.pure (fun hi=>?_)
 obtain ⟨hi,hn⟩:=hi
 refine Cs (Csr (Zm rfl (Zm rfl (Zv (OV.ae rfl T.u27) (Zv (OV.cm rfl rfl) (Nn ?_))))))
 refine Cc rfl (fun c9=>?_) (fun c9=>?_)
 ·refine Ck (Xn (Cs (Cb (Cs (Hq [] (m:=6) rfl ?_)))))
  refine Hf 0 rfl (OV.aw rfl) (Hf 1 rfl (OV.aw rfl) ?_)
  obtain ⟨q1,u,hq,ht,htm,_,hc⟩:=hr.get (i:=i) (by omega)
  refine Hf 2 rfl ((OV.ad (show _=some (Value.slice (some q1) l.length c) by rw [← hq];rfl) rfl T.u27 T.z26 (by omega)).cast (u:=.pointer (some (q1.add (i*3)))) (by rw [Int.toNat_natCast])) (Ht 3 rfl (OV.ai (cs:=tmC u) rfl T.u26 rfl T.z26 (fun _ hw j v hj=>hw.keeps _ _ (hc j v hj))) (Ht 4 rfl (OV.lN (cs:=tmC t) rfl T.u26 rfl T.z26 (.head _)) (Hf 5 rfl (OV.eqlTm (a:=u) (b:=t) rfl rfl) (He (Xn ?_)))))
  refine Cc rfl (fun c17=>?_) (fun c17=>?_)
  ·refine Csr (Za rfl (Nn (WC.az ?_)))
   refine Xq (Xr (Xr (Xq (Xr ?_))))
   exact WX.ret1 rfl rfl rfl (fun w' hw=>⟨by rw [decide_eq_true (by rw [← c17];exact htm)],hw.drop.fr⟩)
  refine Ck (Xb (Xn (Cr (Zm rfl (Zv (OV.bi (j:=1) rfl rfl (by omega)) (Za rfl (Nl ?_)))))))
  exact WX.bg (i+1) Y3 (fun w' hw=>⟨⟨by omega,ne_step hn ht c17⟩,hw⟩) (by show l.length - (i+1)<l.length - i;omega)
 refine Ce (Xe (Xe (Xh (Xn (Csr (Za rfl (Nn (WC.az ?_))))))))
 exact WX.ret1 rfl rfl rfl (fun w' hw=>⟨by rw [decide_eq_false (not_mem_take hn (by omega))],hw.drop.fr⟩)
theorem place_calls (l:List Tm)(a:Option Addr)(c:Nat)(t:Tm)(hl:l.length≤1099511627776)(w:World)(hr:RT w a l):Calls Tryz.prog 80 #[.slice a l.length c,tmV t] w fun e w'=>e=.returned (.int .i64 (Jk8 l t))∧Fr0 w w':=by
 refine Jbl (args:=[.slice a l.length c,tmV t]) (fun _=>False) Tryz.func80 rfl Tryz.ntmps80 rfl rfl ?_
 refine Csr (WL.box rfl rfl rfl ?_)
 intro b3
 refine Za rfl (Nn (Cs (Csr (Za rfl (Nn (Cb ?_))))))
 refine WC.cg (fun (i:Nat)=>[(0,.slice a l.length c),(3,.pointer (some ⟨b3,0,none⟩)),(5,.int .i64 (i:Int))])
   (fun i w'=>(i≤l.length∧∀ u∈l.take i,u≠t)∧Sat0 w (oQ b3 (tmC t) 26::[]) w')
   (fun i=>l.length - i) 0 Y3 (fun w' hw=>⟨⟨by omega,fun u hu=>by simp at hu⟩,hw⟩) ?_
 intro i
 refine WC.pure (fun hi=>?_)
 obtain ⟨hi,hn⟩:=hi
 refine Cs (Csr (Zm rfl (Zm rfl (Zv (OV.ae rfl T.u27) (Zv (OV.cm rfl rfl) (Nn ?_))))))
 refine Cc rfl (fun c9=>?_) (fun c9=>?_)
 ·refine Ck (Xn (Cs (Cb (Cs (Hq [] (m:=6) rfl ?_)))))
  refine Hf 0 rfl (OV.aw rfl) (Hf 1 rfl (OV.aw rfl) ?_)
  obtain ⟨q1,u,hq,ht,htm,_,hc⟩:=hr.get (i:=i) (by omega)
  refine Hf 2 rfl ((OV.ad (show _=some (Value.slice (some q1) l.length c) by rw [← hq];rfl) rfl T.u27 T.z26 (by omega)).cast (u:=.pointer (some (q1.add (i*3)))) (by rw [Int.toNat_natCast])) (Ht 3 rfl (OV.ai (cs:=tmC u) rfl T.u26 rfl T.z26 (fun _ hw j v hj=>hw.keeps _ _ (hc j v hj))) (Ht 4 rfl (OV.lN (cs:=tmC t) rfl T.u26 rfl T.z26 (.head _)) (Hf 5 rfl (OV.eqlTm (a:=u) (b:=t) rfl rfl) (He (Xn ?_)))))
  refine Cc rfl (fun c17=>?_) (fun c17=>?_)
  ·refine Csr (Zm rfl (Za rfl (Nn (WC.az ?_))))
   refine Xq (Xr (Xr (Xq (Xr ?_))))
   exact WX.ret1 rfl rfl rfl (fun w' hw=>⟨by unfold Jk8;rw [if_pos (by rw [← c17];exact htm),idx_first (by rw [← c17];exact ht) hn],hw.drop.fr⟩)
  refine Ck (Xb (Xn (Cr (Zm rfl (Zv (OV.bi (j:=1) rfl rfl (by omega)) (Za rfl (Nl ?_)))))))
  exact WX.bg (i+1) Y3 (fun w' hw=>⟨⟨by omega,ne_step hn ht c17⟩,hw⟩) (by show l.length - (i+1)<l.length - i;omega)
 refine Ce (Xe (Xe (Xh (Xn (Csr (Za rfl (Nn (WC.az ?_))))))))
 exact WX.ret1 rfl rfl rfl (fun w' hw=>⟨by unfold Jk8;rw [if_neg (not_mem_take hn (by omega))],hw.drop.fr⟩)
theorem variables_calls (l:List Tm)(a:Option Addr)(c:Nat)(hl:l.length≤1048576)(w:World)(hr:RT w a l):Calls Tryz.prog 79 #[.slice a l.length c] w fun e w'=>∃ z:Option Addr × Nat,e=.returned (.slice z.1 (dedV l).length z.2)∧Turns [] [rowT z.1 z.2 (dedV l)] w w':=by
 refine Jbl (args:=[.slice a l.length c]) (fun _=>False) Tryz.func79 rfl Tryz.ntmps79 rfl rfl ?_
 refine Csr (Za rfl (Nn (Csr (Za rfl (Nn (Cs (Csr (Za rfl (Nn (Cb (WC.weak (S':=Sat0 w (row 26 3 none 0 0 []::[])) (fun w' hw=>hw.rowNil 26 3) ?_)))))))))))
 refine WC.da (fun (i:Nat) (la:Option Addr) (lc:Nat) (vs:List Tm)=>[(0,.slice a l.length c),(3,.slice la vs.length lc),(4,.int .i64 (i:Int))])
   (fun i la lc vs w'=>(i≤l.length∧vs=dedV (l.take i)∧vs.length≤i)∧Sat0 w (rowT la lc vs::[]) w')
   (fun i _ _ _=>l.length - i) 0 none 0 [] Y3 (fun w' hw=>⟨⟨by omega,rfl,by simp⟩,hw⟩) ?_
 intro i la lc vs
 refine WC.pure (fun hi=>?_)
 obtain ⟨hi,hvs,hvl⟩:=hi
 refine Cs (Csr (Zm rfl (Zm rfl (Zv (OV.ae rfl T.u27) (Zv (OV.cm rfl rfl) (Nn ?_))))))
 refine Cc rfl (fun c8=>?_) (fun c8=>?_)
 ·refine Ck (Xn (Cs (Cb (Csr (Zm rfl (Zm rfl ?_))))))
  obtain ⟨q1,t,hq,ht,htm,_,hc⟩:=hr.get (i:=i) (by omega)
  refine Zv ((OV.ad (show _=some (Value.slice (some q1) l.length c) by rw [← hq];rfl) rfl T.u27 T.z26 (by omega)).cast (u:=.pointer (some (q1.add (i*3)))) (by rw [Int.toNat_natCast])) (Zv (OV.ai (cs:=tmC t) rfl T.u26 rfl T.z26 (fun _ hw j v hj=>hw.keeps _ _ (hc j v hj))) (WL.au (v:=.bool (varB t)) (by kernel_rfl) rfl rfl (fun w' hw'=>Jdb t w') ?_))
  refine Zm rfl ?_
  refine Zp (t:=16) rfl (fun g16=>?_) (fun g16=>?_)
  ·refine Zg rfl rfl rfl (Zm rfl (Zg rfl rfl rfl (Zm rfl (Zg rfl rfl rfl (Zm rfl (Zg rfl rfl rfl (Zv ((OV.ad (show _=some (Value.slice (some q1) l.length c) by rw [← hq];rfl) rfl T.u27 T.z26 (by omega)).cast (u:=.pointer (some (q1.add (i*3)))) (by rw [Int.toNat_natCast])) (Zg rfl rfl rfl (Zv (OV.ai (cs:=tmC t) rfl T.u26 rfl T.z26 (fun _ hw j v hj=>hw.keeps _ _ (hc j v hj))) (Zg rfl rfl rfl (WL.au (v:=.bool (decide (t∈vs))) (by kernel_rfl) rfl rfl (fun w' hw'=>within_calls vs la lc t (by omega) w' (RT.of_row (c:=lc) rfl hw' (.head _))) ?_)))))))))))
   refine Zg rfl rfl rfl (Zv (OV.not rfl) (Zv (OV.am rfl rfl) (Nn ?_)))
   refine Cc rfl (fun c24=>?_) (fun c24=>?_)
   ·refine Cr (Zm rfl (Zm rfl (Zm rfl (Zv ((OV.ad (show _=some (Value.slice (some q1) l.length c) by rw [← hq];rfl) rfl T.u27 T.z26 (by omega)).cast (u:=.pointer (some (q1.add (i*3)))) (by rw [Int.toNat_natCast])) (Zv (OV.ai (cs:=tmC t) rfl T.u26 rfl T.z26 (fun _ hw j v hj=>hw.keeps _ _ (hc j v hj))) (WL.bh (cs:=tmC t) T.u27 T.z26 T.zr26 rfl rfl (by omega) (by omega) rfl ?_))))))
    intro b30
    refine WL.focus (ow':=rowT la lc vs::oQ b30 (tmC t) 26::[]) (pmP [_,_] [1,0]) ?_
    refine WL.append (news:=tmC t) rfl rfl T.apT (fun _ _=>Jcs (.tail _ (.head _)) rfl) (Jf6 _) ⟨by omega,by unfold maxLen;omega⟩ rfl ?_
    intro a31 c31
    refine Za rfl (Nl (Xb (Xn (Cr (Zm rfl (Zv (OV.bi (j:=1) rfl rfl (by omega)) (Za rfl (Nl ?_))))))))
    have el:vs.length+1=(vs++[t]).length:=by simp
    have ef:vs.flatMap tmC++tmC t=(vs++[t]).flatMap tmC:=by simp
    rw [el,ef]
    exact WX.ce (i+1) a31 c31 (vs++[t]) Y3 (fun w' hw=>⟨⟨by omega,by
     rw [Jb2 ht,Jdh,← hvs,if_pos ⟨g16,by simpa using c24⟩],by simp;omega⟩,by
     exact hw.pik [[rowT a31 c31 (vs++[t])],[oQ b30 (tmC t) 26]] [0] 2⟩) (by show l.length - (i+1)<l.length - i;omega)
   refine Ck (Xb (Xn (Cr (Zm rfl (Zv (OV.bi (j:=1) rfl rfl (by omega)) (Za rfl (Nl ?_)))))))
   exact WX.ce (i+1) la lc vs Y3 (fun w' hw=>⟨⟨by omega,by
    rw [Jb2 ht,Jdh,← hvs,if_neg (fun hh=>hh.2 (by simpa using c24))],by omega⟩,hw⟩) (by show l.length - (i+1)<l.length - i;omega)
  refine Zs rfl rfl rfl (Zs rfl rfl rfl (Zs rfl rfl rfl (Zs rfl rfl rfl (Zs rfl rfl rfl (Zs rfl rfl rfl (Zs rfl rfl rfl (Zv (OV.aj rfl rfl) (Nn (WC.bu (show _=some (Value.bool false) from by rfl) ?_)))))))))
  refine Ck (Xb (Xn (Cr (Zm rfl (Zv (OV.bi (j:=1) rfl rfl (by omega)) (Za rfl (Nl ?_)))))))
  exact WX.ce (i+1) la lc vs Y3 (fun w' hw=>⟨⟨by omega,by
   rw [Jb2 ht,Jdh,← hvs,if_neg (fun hh=>by rw [g16] at hh;cases hh.1)],by omega⟩,hw⟩) (by show l.length - (i+1)<l.length - i;omega)
 refine Ce (Xe (Xe (Xh (Xn (Csr (Zm rfl (Za rfl (Nn (WC.az ?_)))))))))
 rw [List.take_of_length_le (by omega)] at hvs
 subst hvs
 exact WX.ret1 rfl rfl rfl (fun w' hw=>⟨(la,lc),rfl,hw.turned0⟩)
theorem Jff {g:CG}{i:Nat}{y:AG}(h:g.bd[i]?=some y):(g.bd.take (i+1)).flatMap (fun y=>plc y.x)=(g.bd.take i).flatMap (fun y=>plc y.x)++plc y.x:=by
 rw [Jb2 h,List.flatMap_append];simp
theorem Jgy (g:CG):Jcf g.cl=g.bd.flatMap fun y=>plc y.x:=by
 unfold Jcf CG.cl
 rw [List.flatMap_map]
theorem Jlg (g:CG):Jds g.cl=g.ts.flatMap plT:=rfl
theorem Jj0 (c:Cl):(Jds c).length=2*c.ts.length:=by
 unfold Jds
 induction c.ts with
 | nil=>rfl
 | cons t l ih=>rw [List.flatMap_cons,List.length_append,ih,List.length_cons];simp only [plT,List.length_cons,List.length_nil];omega
theorem Jfw {α β:Type}(f:α→List β)(l:List α)(i:Nat):((l.take i).flatMap f).length≤(l.flatMap f).length:=by
 conv=>rhs;rw [← List.take_append_drop i l,List.flatMap_append,List.length_append]
 omega
theorem bodyTerms_calls (g:CG)(hm:(Jcf g.cl).length≤1048576)(hl:g.bd.length≤1048576)(w:World)(hr:RC w g):Calls Tryz.prog 31 #[cgV g] w fun e w'=>∃ z:Option Addr × Nat,e=.returned (.slice z.1 (Jcf g.cl).length z.2)∧Turns [] [rowT z.1 z.2 (Jcf g.cl)] w w':=by
 refine Jbl (args:=[cgV g]) (fun _=>False) Tryz.func31 rfl Tryz.ntmps31 rfl rfl ?_
 refine Csr (WL.box rfl rfl rfl ?_)
 intro b1
 refine Za rfl (Nn (Csr (Za rfl (Nn (Cs (Csr (Za rfl (Nn (Cb (WC.weak (S':=Sat0 w (row 26 3 none 0 0 []::oQ b1 (cgC g) 32::[])) (fun w' hw=>hw.rowNil 26 3) ?_))))))))))
 refine WC.da (fun (i:Nat) (la:Option Addr) (lc:Nat) (l:List Tm)=>[(1,.pointer (some ⟨b1,0,none⟩)),(3,.slice la l.length lc),(4,.int .i64 (i:Int))])
   (fun i la lc l w'=>(i≤g.bd.length∧l=(g.bd.take i).flatMap fun y=>plc y.x)∧Sat0 w (rowT la lc l::oQ b1 (cgC g) 32::[]) w')
   (fun i _ _ _=>g.bd.length - i) 0 none 0 [] Y3 (fun w' hw=>⟨⟨by omega,rfl⟩,hw⟩) ?_
 intro i la lc l
 refine WC.pure (fun hi=>?_)
 obtain ⟨hi,hlv⟩:=hi
 refine Cs (Csr (Zm rfl (Zv (OV.f0 5 rfl T.u32 rfl) (Zv (OV.l1 (v:=.slice g.ba g.bd.length g.bc) rfl T.u22 rfl (.tail _ (.head _)) rfl) (Zv (OV.ae rfl T.u22) (Zv (OV.cm rfl rfl) (Nn ?_)))))))
 refine Cc rfl (fun c9=>?_) (fun c9=>?_)
 ·refine Ck (Xn (Cs (Cb (Cr (Zm rfl (Zv (OV.f0 5 rfl T.u32 rfl) (Zv (OV.l1 (v:=.slice g.ba g.bd.length g.bc) rfl T.u22 rfl (.tail _ (.head _)) rfl) (Zm rfl ?_))))))))
  obtain ⟨q1,y,hq,ht,htm,hra,hc⟩:=hr.bd.get (i:=i) (by omega)
  refine Zv ((OV.ad (show _=some (Value.slice (some q1) g.bd.length g.bc) by rw [← hq];rfl) rfl T.u22 T.z29 (by omega)).cast (u:=.pointer (some (q1.add (i*5)))) (by rw [Int.toNat_natCast])) (Zv (OV.ai (cs:=atC y.x y.a y.c) rfl T.u29 rfl T.z29 (fun _ hw j v hj=>hw.keeps _ _ (hc j v hj))) ?_)
  have hbt:=Jff ht
  have hle:=Jfw (fun y:AG=>plc y.x) g.bd (i+1)
  rw [hbt,← Jgy,List.length_append,← hlv] at hle
  have hpl:(plc y.x).length=y.x.args.length+1:=by simp [plc]
  refine WL.cT (ι:=Option Addr × Nat) (vs:=[atV y.x y.a y.c]) (vv:=fun z=>.slice z.1 (plc y.x).length z.2) (pp:=fun _=>True) [] (AA:=fun z=>[rowT z.1 z.2 (plc y.x)]) rfl (fun w' hw' _=>(atomTerms_calls y.x y.a y.c (by omega) w' (hra.keeps hw'.keeps)).mono (fun en w'' ⟨z,h1,h2⟩=>⟨z,h1,trivial,h2⟩)) ?_
  rintro ⟨za,zc⟩ _
  refine WL.focus (ow':=rowT la lc l::rowT za zc (plc y.x)::oQ b1 (cgC g) 32::[]) (pmP [_,_,_] [1,0,2]) ?_
  refine WL.append (news:=(plc y.x).flatMap tmC) rfl rfl T.apT (fun w hw=>Src.of_rowT hw (.tail _ (.head _))) (Jjh _) ⟨by omega,by unfold maxLen;omega⟩ rfl ?_
  intro a19 c19
  refine Za rfl (Nl (Xb (Xn (Cr (Zm rfl (Zv (OV.bi (j:=1) rfl rfl (by omega)) (Za rfl (Nl ?_))))))))
  have el:l.length+(plc y.x).length=(l++plc y.x).length:=by simp
  have ef:l.flatMap tmC++(plc y.x).flatMap tmC=(l++plc y.x).flatMap tmC:=by simp
  rw [el,ef]
  exact WX.ce (i+1) a19 c19 (l++plc y.x) Y3 (fun w' hw=>⟨⟨by omega,by rw [hbt,hlv]⟩,by
   exact hw.pik [[rowT a19 c19 (l++plc y.x)],[rowT za zc (plc y.x)],[oQ b1 (cgC g) 32]] [0,2] 3⟩) (by show g.bd.length - (i+1)<g.bd.length - i;omega)
 refine Ce (Xe (Xe (Xh (Xn (Csr (Zm rfl (Za rfl (Nn (WC.az ?_)))))))))
 rw [List.take_of_length_le (by omega),← Jgy] at hlv
 subst hlv
 exact WX.ret1 rfl rfl rfl (fun w' hw=>⟨(la,lc),rfl,(hw.pik [[rowT la lc (Jcf g.cl)],[oQ b1 (cgC g) 32]] [0] 2).turned0⟩)
theorem testTerms_calls (g:CG)(hl:g.ts.length≤524288)(w:World)(hr:RC w g):Calls Tryz.prog 111 #[cgV g] w fun e w'=>∃ z:Option Addr × Nat,e=.returned (.slice z.1 (Jds g.cl).length z.2)∧Turns [] [rowT z.1 z.2 (Jds g.cl)] w w':=by
 refine Jbl (args:=[cgV g]) (fun _=>False) Tryz.func111 rfl Tryz.ntmps111 rfl rfl ?_
 refine Csr (WL.box rfl rfl rfl ?_)
 intro b1
 refine Za rfl (Nn (Csr (Za rfl (Nn (Cs (Csr (Za rfl (Nn (Cb (WC.weak (S':=Sat0 w (row 26 3 none 0 0 []::oQ b1 (cgC g) 32::[])) (fun w' hw=>hw.rowNil 26 3) ?_))))))))))
 refine WC.da (fun (i:Nat) (la:Option Addr) (lc:Nat) (l:List Tm)=>[(1,.pointer (some ⟨b1,0,none⟩)),(3,.slice la l.length lc),(4,.int .i64 (i:Int))])
   (fun i la lc l w'=>(i≤g.ts.length∧l=(g.ts.take i).flatMap plT∧l.length=2*i)∧Sat0 w (rowT la lc l::oQ b1 (cgC g) 32::[]) w')
   (fun i _ _ _=>g.ts.length - i) 0 none 0 [] Y3 (fun w' hw=>⟨⟨by omega,rfl,rfl⟩,hw⟩) ?_
 intro i la lc l
 refine WC.pure (fun hi=>?_)
 obtain ⟨hi,hlv,hll⟩:=hi
 refine Cs (Csr (Zm rfl (Zv (OV.f0 6 rfl T.u32 rfl) (Zv (OV.l1 (v:=.slice g.ta g.ts.length g.tc) rfl T.u30 rfl (.tail _ (.head _)) rfl) (Zv (OV.ae rfl T.u30) (Zv (OV.cm rfl rfl) (Nn ?_)))))))
 refine Cc rfl (fun c9=>?_) (fun c9=>?_)
 ·refine Ck (Xn (Cs (Cb (Hd (fun w'=>w'.heap[b1]?=some (.cells (cgC g).toArray 32 (0,0))∧Keeps w w') [] (fun _ hw=>⟨hw.it (oQ b1 (cgC g) 32) (by simp),hw.keeps⟩) (m:=16) rfl ?_))))
  refine Hf 0 rfl (OV.aw rfl) (Hf 1 rfl (OV.f0 6 rfl T.u32 rfl) (Ht 2 rfl (OV.ah (v:=.slice g.ta g.ts.length g.tc) rfl T.u30 rfl (fun _ hw=>(Jav hw.1 (o:=6) rfl).1)) (Hf 3 rfl (OV.aw rfl) ?_)))
  obtain ⟨q1,t,hq,ht,htm,hc⟩:=hr.ts.get (i:=i) (by omega)
  refine Hf 4 rfl ((OV.ad (show _=some (Value.slice (some q1) g.ts.length g.tc) by rw [← hq];rfl) rfl T.u30 T.z61 (by omega)).cast (u:=.pointer (some (q1.add (i*7)))) (by rw [Int.toNat_natCast])) (Hf 5 rfl ((OV.fieldAddrA (off:=1) rfl T.u61 rfl).cast (u:=.pointer (some ((q1.add (i*7)).add 1))) (rfl)) (Ht 6 rfl (OV.ai (cs:=tmC t.l) rfl T.u26 rfl T.z26 (fun _ hw j v hj=>hw.2 _ _ (el_part hc (o:=1) (cs':=tmC t.l) rfl j v hj))) (Hf 7 rfl (OV.f0 6 rfl T.u32 rfl) (Ht 8 rfl (OV.ah (v:=.slice g.ta g.ts.length g.tc) rfl T.u30 rfl (fun _ hw=>(Jav hw.1 (o:=6) rfl).1)) (Hf 9 rfl (OV.aw rfl) (Hf 10 rfl ((OV.ad (show _=some (Value.slice (some q1) g.ts.length g.tc) by rw [← hq];rfl) rfl T.u30 T.z61 (by omega)).cast (u:=.pointer (some (q1.add (i*7)))) (by rw [Int.toNat_natCast])) (Hf 11 rfl ((OV.fieldAddrA (off:=4) rfl T.u61 rfl).cast (u:=.pointer (some ((q1.add (i*7)).add 4))) (rfl)) (Ht 12 rfl (OV.ai (cs:=tmC t.r) rfl T.u26 rfl T.z26 (fun _ hw j v hj=>hw.2 _ _ (el_part hc (o:=4) (cs':=tmC t.r) rfl j v hj))) (Ho 13 rfl (fl':=false) rfl ?_)))))))))
  refine WL.buildSliceB (xs:=[.tmp 18,.tmp 24]) (css:=[tmC t.l,tmC t.r]) rfl T.u27 T.z26 T.zr26 rfl rfl (by simp [tmC]) (by decide) (by decide) rfl ?_
  intro b25
  refine Hc (fun _=>(fun _ hw=>⟨hw.it (oQ b1 (cgC g) 32) (by simp),hw.keeps⟩)) ?_
  refine Ho 14 rfl (fl':=false) rfl ?_
  refine WL.focus (ow':=rowT la lc l::own b25 (.cells [tmC t.l,tmC t.r].flatten.toArray 26 (0,0))::oQ b1 (cgC g) 32::[]) (pmP [_,_,_] [1,0,2]) ?_
  refine WL.append (news:=[tmC t.l,tmC t.r].flatten) rfl rfl T.apT (fun _ _=>Jcs (.tail _ (.head _)) rfl) (by simp [tmC,Value.oneCell']) ⟨by omega,by unfold maxLen;omega⟩ rfl ?_
  intro a26 c26
  refine Hc (fun _=>(fun _ hw=>⟨hw.it (oQ b1 (cgC g) 32) (by simp),hw.keeps⟩)) ?_
  refine Hf 15 rfl (OV.assign rfl) (He (Xb (Xn (Cr (Zm rfl (Zv (OV.bi (j:=1) rfl rfl (by omega)) (Za rfl (Nl ?_))))))))
  have el:l.length+2=(l++[t.l,t.r]).length:=by simp
  have ef:l.flatMap tmC++[tmC t.l,tmC t.r].flatten=(l++[t.l,t.r]).flatMap tmC:=by simp
  rw [el,ef]
  exact WX.ce (i+1) a26 c26 (l++[t.l,t.r]) Y3 (fun w' hw=>⟨⟨by omega,by rw [Jb2 ht,List.flatMap_append,← hlv];simp [plT],by simp;omega⟩,by
   exact hw.pik [[rowT a26 c26 (l++[t.l,t.r])],[own b25 (.cells [tmC t.l,tmC t.r].flatten.toArray 26 (0,0))],[oQ b1 (cgC g) 32]] [0,2] 3⟩) (by show g.ts.length - (i+1)<g.ts.length - i;omega)
 refine Ce (Xe (Xe (Xh (Xn (Csr (Zm rfl (Za rfl (Nn (WC.az ?_)))))))))
 rw [List.take_of_length_le (by omega),← Jlg] at hlv
 subst hlv
 exact WX.ret1 rfl rfl rfl (fun w' hw=>⟨(la,lc),rfl,(hw.pik [[rowT la lc (Jds g.cl)],[oQ b1 (cgC g) 32]] [0] 2).turned0⟩)
theorem terms_calls (g:CG)(hm:(Ja1 g.cl).length≤1048576)(hl:g.bd.length≤1048576)(w:World)(hr:RC w g):Calls Tryz.prog 78 #[cgV g] w fun e w'=>∃ z:Option Addr × Nat,e=.returned (.slice z.1 (Ja1 g.cl).length z.2)∧Turns [] [rowT z.1 z.2 (Ja1 g.cl)] w w':=by
 refine Jbl (args:=[cgV g]) (fun _=>False) Tryz.func78 rfl Tryz.ntmps78 rfl rfl ?_
 refine Csr (WL.box rfl rfl rfl ?_)
 intro b1
 refine Za rfl (Nn (Csr (Zv (OV.f0 0 rfl T.u32 rfl) ?_)))
 have htl:(plc g.hd.x).length+((Jcf g.cl).length+(Jds g.cl).length)≤1048576:=by
  have e:(Ja1 g.cl).length=(plc g.hd.x).length+((Jcf g.cl).length+(Jds g.cl).length):=by unfold Ja1;rw [List.length_append,List.length_append];rfl
  omega
 have hpl:(plc g.hd.x).length=g.hd.x.args.length+1:=by simp [plc]
 have htt:(Jds g.cl).length=2*g.ts.length:=by exact Jj0 g.cl
 refine Zv (OV.ai (cs:=atC g.hd.x g.hd.a g.hd.c) rfl T.u29 rfl T.z29 (fun _ hw j v hj=>by rw [Jap];exact Jbo hw (.head _) (o:=0) (cs':=atC g.hd.x g.hd.a g.hd.c) rfl j v hj)) (WL.cT (ι:=Option Addr × Nat) (vs:=[atV g.hd.x g.hd.a g.hd.c]) (vv:=fun z=>.slice z.1 (plc g.hd.x).length z.2) (pp:=fun _=>True) [] (AA:=fun z=>[rowT z.1 z.2 (plc g.hd.x)]) rfl (fun w' hw' _=>(atomTerms_calls g.hd.x g.hd.a g.hd.c (by omega) w' (hr.hd.keeps hw'.keeps)).mono (fun en w'' ⟨z,h1,h2⟩=>⟨z,h1,trivial,h2⟩)) ?_)
 rintro ⟨ha,hc⟩ _
 refine Za rfl (Nn (Csr (Zm rfl (Zv (OV.lN (cs:=cgC g) rfl T.u32 rfl T.z32 (.tail _ (.head _))) (WL.du (ι:=Option Addr × Nat) (vv:=fun z=>.slice z.1 (Jcf g.cl).length z.2) (pp:=fun _=>True) [] (AA:=fun z=>[rowT z.1 z.2 (Jcf g.cl)]) rfl (by kernel_rfl) rfl rfl (fun w' hw' _=>(bodyTerms_calls g (by omega) hl w' (hr.keeps hw'.keeps)).mono (fun en w'' ⟨z,h1,h2⟩=>⟨z,h1,trivial,h2⟩)) ?_)))))
 rintro ⟨ba,bc⟩ _
 refine WL.focus (ow':=rowT ha hc (plc g.hd.x)::rowT ba bc (Jcf g.cl)::oQ b1 (cgC g) 32::[]) (pmP [_,_,_] [1,0,2]) ?_
 refine WL.append (news:=(Jcf g.cl).flatMap tmC) rfl rfl T.apT (fun w hw=>Src.of_rowT hw (.tail _ (.head _))) (Jjh _) ⟨by omega,by unfold maxLen;omega⟩ rfl ?_
 intro a10 c10
 refine Za rfl (Nn (Csr (Zm rfl (Zv (OV.lN (cs:=cgC g) rfl T.u32 rfl T.z32 (.tail _ (.tail _ (.head _)))) (WL.du (ι:=Option Addr × Nat) (vv:=fun z=>.slice z.1 (Jds g.cl).length z.2) (pp:=fun _=>True) [] (AA:=fun z=>[rowT z.1 z.2 (Jds g.cl)]) rfl (by kernel_rfl) rfl rfl (fun w' hw' _=>(testTerms_calls g (by omega) w' (hr.keeps hw'.keeps)).mono (fun en w'' ⟨z,h1,h2⟩=>⟨z,h1,trivial,h2⟩)) ?_)))))
 rintro ⟨xa,xc⟩ _
 refine WL.focus (ow':=row 26 3 a10 ((plc g.hd.x).length+(Jcf g.cl).length) c10 ((plc g.hd.x).flatMap tmC++(Jcf g.cl).flatMap tmC)::rowT xa xc (Jds g.cl)::rowT ba bc (Jcf g.cl)::oQ b1 (cgC g) 32::[]) (pmP [_,_,_,_] [1,0,2,3]) ?_
 refine WL.append (news:=(Jds g.cl).flatMap tmC) rfl rfl T.apT (fun w hw=>Src.of_rowT hw (.tail _ (.head _))) (Jjh _) ⟨by omega,by unfold maxLen;omega⟩ rfl ?_
 intro a14 c14
 refine Za rfl (Nn (WC.az ?_))
 have el:(plc g.hd.x).length+(Jcf g.cl).length+(Jds g.cl).length=(Ja1 g.cl).length:=by unfold Ja1;rw [List.length_append,List.length_append,Nat.add_assoc];rfl
 have ef:(plc g.hd.x).flatMap tmC++(Jcf g.cl).flatMap tmC++(Jds g.cl).flatMap tmC=(Ja1 g.cl).flatMap tmC:=by unfold Ja1;rw [List.flatMap_append,List.flatMap_append,List.append_assoc];rfl
 rw [el,ef]
 exact WX.ret1 rfl rfl rfl (fun w' hw=>⟨(a14,c14),rfl,(hw.pik [[rowT a14 c14 (Ja1 g.cl)],[rowT xa xc (Jds g.cl)],[rowT ba bc (Jcf g.cl)],[oQ b1 (cgC g) 32]] [0] 4).turned0⟩)
end Go.Proofs.YtgebaodagaecmaaGreatDoor
