/- Contracts of functions of the program: what each returns and leaves in memory. Printed by gen.py and walk.py. The library's sorts of structs lie in the loaded program as on the kit's shelf. -/
import Derived.Test.YtgebaodagaecmaaGreatDoorMg14
import Derived.Test.YtgebaodagaecmaaGreatDoorHxA
import Derived.Test.YtgebaodagaecmaaGreatDoorProg
set_option maxRecDepth 10000
namespace Go.Proofs.YtgebaodagaecmaaGreatDoor
open Go Go.Hw
set_option linter.unusedSimpArgs false
set_option linter.unusedVariables false
theorem _root_.Go.Hw.Sat.asRow {w0 ws w:World}{M I:Nat→Prop}{ow:List Hw.Item}{b:Nat}{cs:List Value}{T:TypeId}{k m:Nat}(h:Sat w0 M I ws (oQ b cs T::ow) w)(hl:cs.length=m*k)(hm:m≤maxLen):Sat w0 M I ws (row T k (some ⟨b,0,none⟩) m m cs::ow) w:=by
 refine h.turn (Fr.refl _ w) ?_ ?_
 ·refine ⟨hl,.inr ⟨b,m,cs.toArray,rfl,Nat.zero_le _,h.it _ yH,Nat.le_refl _,hm,by simp [hl],?_⟩⟩;show cs.toArray.toList.take (m*k)=cs;rw [List.toList_toArray,← hl,List.take_length]
 ·rintro i ⟨q,hq,rfl⟩;simp only [Option.some.injEq] at hq;subst hq;exact .inl rfl
theorem Jlt {g:BaseG}{b:Nat}(h:g.nb=some b):tabA g=[oQ g.p [.map (some b),.slice g.va g.vs.length g.vc,.map (some g.rb)] 105,rowT g.va g.vc g.vs,own b (mapK tmV (numKV g.vs))]:=by
 simp [tabA,hdB,baseC,nbA,h]
theorem _root_.Go.Hw.OV.eqlMN {P:Program}{n:Nat}{ds:DS}{e:Env}{S:World→Prop}{dst:Option Tmp}{t xt yt:TypeId}{p:String}{af:Array Edge}{g:Option (Nat × Bool)}{x y:Operand}{m:Option Nat}{kt el:TypeId}(hu:P.underlying xt=some (.map kt el))(hx:ev e x=some (.map m))(hy:ev e y=some (.map none)):OV P n ds e S ⟨dst,.binOp .eql xt x y yt,t,p,af,g⟩ (.bool m.isNone):=fun _ w ha _=>by
 have h:=run_equalIn_map_nil w 9999 xt kt el m hu
 have hg:(eqGuard .eql xt x y (.map m) (.map none)).run P w=.ok () w:=by
  simp [eqGuard,run_program]
 simp [execOp,ha.eval hx,ha.eval hy,hg,binOp,Op.equal,Op.maxDepth,h]
def numX (vs:List Tm)(t:Tm):List Tm:=if t∈vs then vs else vs++[t]
theorem Jln {vs:List Tm}{t:Tm}(h:t∉vs):numX vs t=vs++[t]:=if_neg h
theorem Jl5 {vs:List Tm}{t:Tm}(h:t∈vs):numX vs t=vs:=if_pos h
theorem numX_nodup {vs:List Tm}{t:Tm}(h:vs.Nodup):(numX vs t).Nodup:=by
 by_cases ht:t∈vs
 ·rw [Jl5 ht];exact h
 ·rw [Jln ht,List.nodup_append];exact ⟨h,by simp,fun a ha b hb=>by simp only [xI] at hb;subst hb;exact fun e=>ht (e ▸ ha)⟩
theorem Jks (vs:List Tm)(t:Tm):(numX vs t).length≤vs.length+1:=by unfold numX;split <;> simp
theorem Jiv (vs:List Tm)(t:Tm):vs <+: numX vs t:=by unfold numX;split <;> simp
theorem numX_num {vs:List Tm}(hn:vs.Nodup){t:Tm}(h:t∉vs):numOf (vs++[t]) t=some vs.length:=Jih (Jln h ▸ numX_nodup hn) (by simp)
theorem numKV_snoc {vs:List Tm}{t:Tm}(h:t∉vs):ups (numKV vs) t (.int .i64 (vs.length:Int))=numKV (vs++[t]):=by
 rw [Jkf]
 ·simp [numKV,List.zipIdx_append]
 ·intro q hq e;obtain ⟨z,hz,rfl⟩:=List.mem_map.1 hq;exact h (e ▸ (List.mem_zipIdx' hz).2 ▸ List.getElem_mem _)
theorem T.apT:appB Tryz.prog 27 26 3 32=true:=by kernel_rfl
set_option maxHeartbeats 1000000 in
theorem Jf8 (g:BaseG)(h0:g.nb=none→g.vs=[])(hn:g.vs.Nodup)(hl:g.vs.length≤1099511627776)(t:Tm)(w:World)(hA:Holds (tabA g) w):Calls Tryz.prog 93 #[ptr g.p,tmV t] w fun e w'=>∃ i nb va vc,e=.returned (.int .i64 ((i:Nat):Int))∧numOf (numX g.vs t) t=some i∧(nb=none→numX g.vs t=[])∧Turns (tabA g) (tabA { g with nb:=nb,va:=va,vc:=vc,vs:=numX g.vs t }) w w':=by
 refine Jdt hA (args:=[ptr g.p,tmV t]) Tryz.func93 rfl Tryz.ntmps93 rfl rfl ?_;refine Csr (WL.box rfl rfl rfl ?_);intro b3;refine Za rfl (Nn (Cs (Hq [] (m:=11) rfl ?_)));refine Hf 0 rfl (OV.aw rfl) (Hf 1 rfl (OV.ak rfl) (Hf 2 rfl (OV.f0 0 rfl T.u102 rfl) (Ht 3 rfl (OV.ah (v:=.map g.nb) rfl T.u100 rfl (fun _ hw=>(Jax (hw.it (hdB g) yI) (o:=0) rfl).1)) (Ht 4 rfl (OV.lN (cs:=tmC t) rfl T.u26 rfl T.z26 yH) (Ht 5 rfl (OV.lookupNum rfl rfl h0 (fun _ hw=>nb_get hw (fun i hi=>.tail _ (yV (.tail _ hi))))) (Hf 6 rfl (OV.aw rfl) (Hf 7 rfl (OV.extract rfl rfl) (Hf 8 rfl (OV.extract rfl rfl) (Hf 9 rfl (OV.assign rfl) (Hf 10 rfl (OV.assign rfl) (He (Xn (Cs (Csr (Zm rfl (Zv (OV.not rfl) (Nn ?_)))))))))))))))));refine Cc rfl (fun c17=>?_) (fun c17=>?_)
 ·refine Cs (Csr (Zm rfl (Zv (OV.ak rfl) (Zv (OV.f0 0 rfl T.u102 rfl) (Zv (OV.ah (v:=.map g.nb) rfl T.u100 rfl (fun _ hw=>(Jax (hw.it (hdB g) yI) (o:=0) rfl).1)) (Zv (OV.eqlMN T.u100 rfl rfl) (Nn ?_)))))));refine Cc rfl (fun c22=>?_) (fun c22=>?_)
  ·refine Cr (Zm rfl (WL.makeMap (tmV) rfl ?_));intro m24;refine Zv (OV.ak rfl) (Zv (OV.f0 0 rfl T.u102 rfl) ?_);refine WL.focus perm2 (WL.bw (o:=0) rfl rfl rfl T.z100 (by show 0<3;omega) ?_);refine Nn (Cs ?_);obtain ⟨nb,hnb24⟩:∃ nb,nb=m24:=⟨_,rfl⟩
   subst hnb24;have hnt:t∉g.vs:=numOf_none.1 (by simpa using c17);have hv:g.vs=[]:=h0 (by simpa using c22)
   refine WC.weak (S':=SatA w (tabA g) (oQ b3 (tmC t) 26::oQ g.p [.map (some nb),.slice g.va g.vs.length g.vc,.map (some g.rb)] 105::row 26 3 g.va g.vs.length g.vc (g.vs.flatMap tmC)::own nb (mapK tmV (numKV g.vs))::[])) (fun w' hw=>by
    rw [show numKV g.vs=[] by rw [hv];rfl];exact hw.pik [[oQ g.p [.map (some nb),.slice g.va g.vs.length g.vc,.map (some g.rb)] 105],[own nb (mapK tmV [])],[oQ b3 (tmC t) 26],[rowT g.va g.vc g.vs],nbA g] [2,0,3,1] 5) ?_
   refine Cr (Zm rfl (Zv (OV.ak rfl) (Zv (OV.f0 1 rfl T.u102 rfl) (Zv (OV.l1 (v:=.slice g.va g.vs.length g.vc) rfl T.u27 rfl yI rfl) (Zv (OV.ae rfl T.u27) (Za rfl (Nn (Cs (Hd (fun w'=>w'.heap[g.p]?=some (.cells [.map (some nb),.slice g.va g.vs.length g.vc,.map (some g.rb)].toArray 105 (0,0))∧w'.heap[b3]?=some (.cells (tmC t).toArray 26 (0,0))) [] (fun _ hw=>⟨hw.it (own g.p _) (by simp),hw.it (own b3 _) (by simp)⟩) (m:=7) rfl ?_)))))))));refine Hf 0 rfl (OV.aw rfl) (Hf 1 rfl (OV.ak rfl) (Hf 2 rfl (OV.f0 0 rfl T.u102 rfl) (Ht 3 rfl (OV.ah (v:=.map (some nb)) rfl T.u100 rfl (fun _ hw=>(Jax hw.1 (o:=0) rfl).1)) (Ht 4 rfl (OV.ai (cs:=tmC t) rfl T.u26 rfl T.z26 (fun _ hw j v hj=>by rw [Jap];exact Jch hw.2 (o:=0) (cs':=tmC t) rfl j v hj)) (Hf 5 rfl (OV.aw rfl) (Ho 6 rfl (fl':=false) rfl ?_))))));refine WL.focus perm3 (WL.mapUpdate tmKey T.u100 rfl rfl rfl ?_);rw [numKV_snoc hnt];refine Hc (fun _=>(fun _ hw=>⟨hw.it (own g.p _) (by simp),hw.it (own b3 _) (by simp)⟩)) ?_;refine He (Xn (Hd (fun w'=>w'.heap[g.p]?=some (.cells [.map (some nb),.slice g.va g.vs.length g.vc,.map (some g.rb)].toArray 105 (0,0))∧w'.heap[b3]?=some (.cells (tmC t).toArray 26 (0,0))) [10] (fun _ hw=>⟨hw.it (own g.p _) (by simp),hw.it (own b3 _) (by simp)⟩) (m:=11) rfl ?_));refine Hf 0 rfl (OV.aw rfl) (Hf 1 rfl (OV.aw rfl) (Hf 2 rfl (OV.ak rfl) (Hf 3 rfl (OV.f0 1 rfl T.u102 rfl) (Ht 4 rfl (OV.ah (v:=.slice g.va g.vs.length g.vc) rfl T.u27 rfl (fun _ hw=>(Jax hw.1 (o:=1) rfl).1)) (Ht 5 rfl (OV.ai (cs:=tmC t) rfl T.u26 rfl T.z26 (fun _ hw j v hj=>by rw [Jap];exact Jch hw.2 (o:=0) (cs':=tmC t) rfl j v hj)) (Ho 6 rfl (fl':=false) rfl ?_))))));refine WL.bg (cs:=tmC t) T.u27 T.z26 T.zr26 rfl rfl (by omega) (by omega) rfl ?_;intro b44;refine Hc (fun _=>(fun _ hw=>⟨hw.it (own g.p _) (by simp),hw.it (own b3 _) (by simp)⟩)) ?_;refine Ho 7 rfl (fl':=false) rfl ?_;refine WL.focus (ow':=row 26 3 g.va g.vs.length g.vc (g.vs.flatMap tmC)::oQ b44 (tmC t) 26::own nb (mapK tmV (numKV (g.vs++[t])))::oQ g.p [.map (some nb),.slice g.va g.vs.length g.vc,.map (some g.rb)] 105::oQ b3 (tmC t) 26::[]) (pmP [_,_,_,_,_] [4,0,1,3,2]) ?_;refine WL.append (news:=tmC t) rfl rfl T.apT (fun _ _=>Jcw yI rfl) (Jgi t) ⟨by omega,by unfold maxLen;omega⟩ rfl ?_;intro a45 c45;refine Hc (fun _=>(fun _ hw=>⟨hw.it (own g.p _) (by simp),hw.it (own b3 _) (by simp)⟩)) ?_;refine Hf 8 rfl (OV.ak rfl) (Hf 9 rfl (OV.f0 1 rfl T.u102 rfl) (Ho 10 rfl (fl':=true) rfl ?_));refine WL.focus perm3 (WL.bw (o:=1) rfl rfl rfl T.z27 (by show 1<3;omega) ?_);refine Hc (fun h=>by cases h) ?_;refine He (Xn (Csr (Zm rfl (Za rfl (Nn (WC.az ?_))))));refine WX.ret1 rfl rfl rfl (fun w' hw=>⟨g.vs.length,some nb,a45,c45,rfl,?_,fun h=>(by cases h),?_⟩)
   ·rw [Jln hnt];exact numX_num hn hnt
   ·have el:g.vs.length+1=(g.vs++[t]).length:=by simp
    have ef:g.vs.flatMap tmC++tmC t=(g.vs++[t]).flatMap tmC:=by simp
    rw [Jln hnt,Jlt (g:={ g with nb:=some nb,va:=a45,vc:=c45,vs:=g.vs++[t] }) rfl];rw [el,ef] at hw;exact Hw.Sat.turned (hw.pik [[oQ g.p [.map (some nb),.slice a45 (g.vs++[t]).length c45,.map (some g.rb)] 105],[rowT a45 c45 (g.vs++[t])],[oQ b44 (tmC t) 26],[own nb (mapK tmV (numKV (g.vs++[t])))],[oQ b3 (tmC t) 26]] [0,1,3] 5)
  refine Ck (Xn (Cs ?_));have hnt:t∉g.vs:=numOf_none.1 (by simpa using c17)
  obtain ⟨nb,hnb⟩:∃ nb,g.nb=some nb:=by
   cases hq:g.nb with
   | none=>rw [hq] at c22;simp at c22
   | some nb=>exact ⟨nb,rfl⟩
  refine WC.weak (S':=SatA w (tabA g) (oQ b3 (tmC t) 26::oQ g.p [.map (some nb),.slice g.va g.vs.length g.vc,.map (some g.rb)] 105::row 26 3 g.va g.vs.length g.vc (g.vs.flatMap tmC)::own nb (mapK tmV (numKV g.vs))::[])) (fun w' hw=>hw.perm (List.Perm.of_eq (by rw [Jlt hnb]))) ?_;refine Cr (Zm rfl (Zv (OV.ak rfl) (Zv (OV.f0 1 rfl T.u102 rfl) (Zv (OV.l1 (v:=.slice g.va g.vs.length g.vc) rfl T.u27 rfl yI rfl) (Zv (OV.ae rfl T.u27) (Za rfl (Nn (Cs (Hd (fun w'=>w'.heap[g.p]?=some (.cells [.map (some nb),.slice g.va g.vs.length g.vc,.map (some g.rb)].toArray 105 (0,0))∧w'.heap[b3]?=some (.cells (tmC t).toArray 26 (0,0))) [] (fun _ hw=>⟨hw.it (own g.p _) (by simp),hw.it (own b3 _) (by simp)⟩) (m:=7) rfl ?_)))))))));refine Hf 0 rfl (OV.aw rfl) (Hf 1 rfl (OV.ak rfl) (Hf 2 rfl (OV.f0 0 rfl T.u102 rfl) (Ht 3 rfl (OV.ah (v:=.map (some nb)) rfl T.u100 rfl (fun _ hw=>(Jax hw.1 (o:=0) rfl).1)) (Ht 4 rfl (OV.ai (cs:=tmC t) rfl T.u26 rfl T.z26 (fun _ hw j v hj=>by rw [Jap];exact Jch hw.2 (o:=0) (cs':=tmC t) rfl j v hj)) (Hf 5 rfl (OV.aw rfl) (Ho 6 rfl (fl':=false) rfl ?_))))));refine WL.focus perm3 (WL.mapUpdate tmKey T.u100 rfl rfl rfl ?_);rw [numKV_snoc hnt];refine Hc (fun _=>(fun _ hw=>⟨hw.it (own g.p _) (by simp),hw.it (own b3 _) (by simp)⟩)) ?_;refine He (Xn (Hd (fun w'=>w'.heap[g.p]?=some (.cells [.map (some nb),.slice g.va g.vs.length g.vc,.map (some g.rb)].toArray 105 (0,0))∧w'.heap[b3]?=some (.cells (tmC t).toArray 26 (0,0))) [10] (fun _ hw=>⟨hw.it (own g.p _) (by simp),hw.it (own b3 _) (by simp)⟩) (m:=11) rfl ?_));refine Hf 0 rfl (OV.aw rfl) (Hf 1 rfl (OV.aw rfl) (Hf 2 rfl (OV.ak rfl) (Hf 3 rfl (OV.f0 1 rfl T.u102 rfl) (Ht 4 rfl (OV.ah (v:=.slice g.va g.vs.length g.vc) rfl T.u27 rfl (fun _ hw=>(Jax hw.1 (o:=1) rfl).1)) (Ht 5 rfl (OV.ai (cs:=tmC t) rfl T.u26 rfl T.z26 (fun _ hw j v hj=>by rw [Jap];exact Jch hw.2 (o:=0) (cs':=tmC t) rfl j v hj)) (Ho 6 rfl (fl':=false) rfl ?_))))));refine WL.bg (cs:=tmC t) T.u27 T.z26 T.zr26 rfl rfl (by omega) (by omega) rfl ?_;intro b44;refine Hc (fun _=>(fun _ hw=>⟨hw.it (own g.p _) (by simp),hw.it (own b3 _) (by simp)⟩)) ?_;refine Ho 7 rfl (fl':=false) rfl ?_;refine WL.focus (ow':=row 26 3 g.va g.vs.length g.vc (g.vs.flatMap tmC)::oQ b44 (tmC t) 26::own nb (mapK tmV (numKV (g.vs++[t])))::oQ g.p [.map (some nb),.slice g.va g.vs.length g.vc,.map (some g.rb)] 105::oQ b3 (tmC t) 26::[]) (pmP [_,_,_,_,_] [4,0,1,3,2]) ?_;refine WL.append (news:=tmC t) rfl rfl T.apT (fun _ _=>Jcw yI rfl) (Jgi t) ⟨by omega,by unfold maxLen;omega⟩ rfl ?_;intro a45 c45;refine Hc (fun _=>(fun _ hw=>⟨hw.it (own g.p _) (by simp),hw.it (own b3 _) (by simp)⟩)) ?_;refine Hf 8 rfl (OV.ak rfl) (Hf 9 rfl (OV.f0 1 rfl T.u102 rfl) (Ho 10 rfl (fl':=true) rfl ?_));refine WL.focus perm3 (WL.bw (o:=1) rfl rfl rfl T.z27 (by show 1<3;omega) ?_);refine Hc (fun h=>by cases h) ?_;refine He (Xn (Csr (Zm rfl (Za rfl (Nn (WC.az ?_))))));refine WX.ret1 rfl rfl rfl (fun w' hw=>⟨g.vs.length,some nb,a45,c45,rfl,?_,fun h=>(by cases h),?_⟩)
  ·rw [Jln hnt];exact numX_num hn hnt
  ·have el:g.vs.length+1=(g.vs++[t]).length:=by simp
   have ef:g.vs.flatMap tmC++tmC t=(g.vs++[t]).flatMap tmC:=by simp
   rw [Jln hnt,Jlt (g:={ g with nb:=some nb,va:=a45,vc:=c45,vs:=g.vs++[t] }) rfl];rw [el,ef] at hw;exact Hw.Sat.turned (hw.pik [[oQ g.p [.map (some nb),.slice a45 (g.vs++[t]).length c45,.map (some g.rb)] 105],[rowT a45 c45 (g.vs++[t])],[oQ b44 (tmC t) 26],[own nb (mapK tmV (numKV (g.vs++[t])))],[oQ b3 (tmC t) 26]] [0,1,3] 5)
 refine Ck (Xn (Csr (Zm rfl (Za rfl (Nn (WC.az ?_))))))
 obtain ⟨i,hi⟩:∃ i,numOf g.vs t=some i:=by
  cases hq:numOf g.vs t with
  | none=>rw [hq] at c17;simp at c17
  | some i=>exact ⟨i,rfl⟩
 have ht:t∈g.vs:=xC (Jje hi);refine WX.ret1 rfl rfl rfl (fun w' hw=>⟨i,g.nb,g.va,g.vc,by rw [hi];rfl,by rw [Jl5 ht];exact hi,by rw [Jl5 ht];exact h0,?_⟩);rw [Jl5 ht];exact hw.drop.turned
theorem Jed {w:World}{T c m s:Nat}{a:Option Addr}{xs:List Value}(h:(row T s a m c xs).φ w)(hm:0<m):∃ b,a=some ⟨b,0,none⟩:=by
 have h1:w.ownsRow 0 T s (.slice a m c) m xs:=h;rcases h1.2 with ⟨hv,h0⟩ | ⟨g,cc,cur,hv,_⟩
 ·omega
 ·simp only [Value.slice.injEq] at hv;exact ⟨g,hv.1⟩
def rowOf (vs:List Tm):List Tm→Option (List Int)
 | []=>some []
 | t::ts=>match numOf vs t,rowOf vs ts with
  | some n,some l=>some (((n:Nat):Int)::l)
  | _,_=>none
theorem rowOf_cons {vs:List Tm}{t:Tm}{ts:List Tm}{l:List Int}:rowOf vs (t::ts)=some l↔∃ n m,numOf vs t=some n∧rowOf vs ts=some m∧l=((n:Nat):Int)::m:=by
 rw [rowOf];cases numOf vs t with
 | none=>simp
 | some n=>
  cases rowOf vs ts with
  | none=>simp
  | some m=>simp [eq_comm]
theorem Jkp {vs:List Tm}{t:Tm}{n:Nat}(hn:numOf vs t=some n):∀ {ts:List Tm} {l:List Int},rowOf vs ts=some l→rowOf vs (ts++[t])=some (l++[((n:Nat):Int)])
 | [],l,h=>by simp [rowOf] at h;subst h;simp [rowOf,hn]
 | u::ts,l,h=>by
  obtain ⟨k,m,h1,h2,rfl⟩:=rowOf_cons.1 h;rw [xX,rowOf,h1,Jkp hn h2];rfl
theorem Jif {vs:List Tm}:∀ {ts:List Tm} {l:List Int},rowOf vs ts=some l→l.length=ts.length
 | [],l,h=>by simp [rowOf] at h;simp [h]
 | t::ts,l,h=>by
  obtain ⟨k,m,h1,h2,rfl⟩:=rowOf_cons.1 h;simp [Jif h2]
def tsOf (x:At):List Tm:=x.b::x.args
def cut (a:Option Addr)(c k:Nat):Option Addr:=if c=k then a else a.map (·.add (k*1))
theorem OV.sliceFrom {P:Program}{n:Nat}{ds:DS}{e:Env}{S:World→Prop}{dst:Option Tmp}{t lt:TypeId}{p:String}{af:Array Edge}{x:Operand}{g:Option (Nat × Bool)}{a:Option Addr}{m cp k:Nat}{el:TypeId}{lo:Operand}(hx:ev e x=some (.slice a m cp))(hu:P.underlying lt=some (.slice el))(hz:P.sz el=some 1)(hlo:ev e lo=some (.int .i64 (k:Int)))(h1:k≤m∧m≤cp):
  OV P n ds e S ⟨dst,.slice lt x (some lo) none none,t,p,af,g⟩ (.slice (cut a cp k) (m - k) (cp - k)):=
 (OV.mr (lo:=some lo) (hi:=none) (ml:=some k) (mh:=none) (l:=k) (h:=m) hx hu hz (by simp only [bnd,hlo]) rfl rfl rfl ⟨h1.1,h1.2⟩)
def valAt (vs:List Tm)(k:Int):Tm:=vs.getD k.toNat default
def Jbs (vs:List Tm)(p:Pd)(l:List Int):At:=⟨valAt vs (l.getD 0 0),p.name,(l.drop 1).map (valAt vs)⟩
def inVs (vs:List Tm)(l:List Int):Prop:=∀ k:Int,k∈l→0≤k∧k<(vs.length:Int)
theorem Jkz {vs:List Tm}{l:List Int}(h:inVs vs l){i:Nat}(hi:i<l.length):∃ n:Nat,l.getD i 0=(n:Int)∧vs[n]?=some (valAt vs (l.getD i 0)):=by
 have hm:l.getD i 0∈l:=by rw [yF,xD hi];exact List.getElem_mem hi
 generalize l.getD i 0=k at hm
 obtain ⟨h1,h2⟩:=h _ hm;refine ⟨k.toNat,by omega,?_⟩;unfold valAt;rw [yF,xD (by omega)];rfl
theorem RI.cut1 {w:World}{a:Option Addr}{c:Nat}{l:List Int}(h:RI w a l.length l)(hc:l.length≤c)(h0:0<l.length):RI w (cut a c 1) (l.length - 1) (l.drop 1):=by
 refine ⟨by simp,fun ha=>?_,fun q hq j k hj=>?_⟩
 ·unfold cut at ha
  split at ha
  ·omega
  ·cases a with
   | none=>have:=h.2.1 rfl;omega
   | some q=>cases ha
 ·have hjl:j<l.length - 1:=by have:=(List.getElem?_eq_some_iff.1 hj).1;simpa using this
  unfold cut at hq
  split at hq
  ·omega
  ·cases a with
   | none=>cases hq
   | some q0=>
    simp only [Option.map_some,Option.some.injEq] at hq;subst hq;have h1:=h.2.2 q0 rfl (1+j) k (by rw [List.getElem?_drop] at hj;exact hj);rw [Jdy] at h1;exact h1
set_option maxHeartbeats 1000000 in
theorem bfact_calls (g:BaseG)(ok:BaseOK g)(p:Pd)(l:List Int)(a:Option Addr)(c:Nat)(hl:l.length≤1099511627776)(h0:0<l.length)(hc:l.length≤c)(hin:inVs g.vs l)(w:World)(hr:RI w a l.length l)(hA:Holds (tabA g) w):Calls Tryz.prog 53 #[ptr g.p,pdV p,.slice a l.length c] w fun e w'=>∃ la lc,e=.returned (atV (Jbs g.vs p l) la lc)∧Turns [] [rowT la lc (Jbs g.vs p l).args] w w':=by
 refine Jbo (args:=[ptr g.p,pdV p,.slice a l.length c]) (fun _=>False) Tryz.func53 rfl Tryz.ntmps53 rfl rfl ?_;refine Csr (WL.box rfl rfl rfl ?_);intro b4;refine WL.alloc T.zr29 rfl ?_;intro b6;refine Nn (Cs (Hd (fun w'=>Keeps w w'∧w'.heap[b4]?=some (.cells (pdC p).toArray 107 (0,0))) [] (fun _ hw=>⟨hw.keeps,hw.it (own b4 _) (by simp)⟩) (m:=12) rfl ?_));refine Hf 0 rfl (OV.aw rfl) (Hf 1 rfl (OV.ak rfl) (Hf 2 rfl (OV.f0 0 rfl T.u105 rfl) (Hf 3 rfl (OV.aw rfl) ?_)));obtain ⟨n0,hn0,ht0⟩:=Jkz hin h0;obtain ⟨t0,htt⟩:∃ t0,t0=valAt g.vs (l.getD 0 0):=⟨_,rfl⟩
 rw [← htt] at ht0;obtain ⟨q,rfl⟩:=hr.some h0;refine Hf 4 rfl ((OV.cd (i:=0) rfl rfl T.u51 T.z3 h0).cast (u:=.pointer (some q)) (by rw [Jd2])) (Ht 5 rfl (OV.ah (v:=.int .i64 ((n0:Nat):Int)) rfl T.u3 rfl (fun _ hw=>hw.1 _ _ (by have h1:=hr.cell h0;rw [hn0,Jd2] at h1;exact h1))) (Hf 7 rfl (OV.f0 0 rfl T.u107 rfl) (Ht 8 rfl (OV.ah (v:=.string p.name) rfl T.u9 rfl (fun _ hw=>(Jax hw.2 (o:=0) rfl).1)) ?_)));refine Hr (WH.two 6 10 rfl rfl (by kernel_rfl) (listed1:=[true,true,true,true,true,true,true,true,true,false,false,false]) rfl (listed2:=[true,true,true,true,true,true,false,true,true,false,true,false]) rfl (fl1:=false) rfl (fl2:=false) rfl ?_ ?_)
 ·refine WL.c0 (v:=tmV t0) (vs:=[ptr g.p,.int .i64 ((n0:Nat):Int)]) (fun w' hw'=>Jid g ok n0 t0 ht0 w' (hA.fr0 hw'.fr)) ?_;refine Hc (fun _=>(fun _ hw=>⟨hw.keeps,hw.it (own b4 _) (by simp)⟩)) ?_;refine Hf 9 rfl (OV.ao (xs:=[(0,.tmp 16),(1,.tmp 18)]) (pl:=[(0,3),(3,1),(4,1)]) (cs:=atC ⟨t0,p.name,[]⟩ none 0) T.u29 T.zr29 (by kernel_rfl) rfl (Jal (us:=tmC t0) rfl rfl yW (Jal (us:=[_]) rfl rfl yW rfl))) (Ho 10 rfl (fl':=false) rfl ?_);refine WL.alloc T.zr29 rfl ?_;intro b7;refine Hc (fun _=>(fun _ hw=>⟨hw.keeps,hw.it (own b4 _) (by simp)⟩)) ?_;refine Ho 11 rfl (fl':=false) rfl ?_;refine WL.ag (vs:=atC ⟨t0,p.name,[]⟩ none 0) rfl rfl rfl T.z29 rfl ?_;refine Hc (fun _=>(fun _ hw=>⟨hw.keeps,hw.it (own b4 _) (by simp)⟩)) ?_;refine He (Xn (Cs (Csr (Zm rfl (Zv (OV.sliceFrom (k:=1) rfl T.u51 T.z3 rfl ⟨by omega,hc⟩) (Zv (OV.ae rfl T.u51) (Zm rfl (Nn (Cb ?_)))))))));have hcut:=RI.cut1 hr hc h0;refine WC.weak (S':=Sat0 w (oQ b7 (atC ⟨t0,p.name,[]⟩ none 0) 29::oQ b6 (atC ⟨T0,E0,[]⟩ none 0) 29::oQ b4 (pdC p) 107::row 26 3 none 0 0 []::[])) (fun w' hw=>(hw.rowNil 26 3).perm (pmP [_,_,_,_] [1,2,3,0])) ?_
  refine WC.dd (fun (i:Nat) (la:Option Addr) (lc:Nat) (args:List Tm)=>[(0,ptr g.p),(6,yZ b6),(7,yZ b7),(21,.slice (cut (some q) c 1) (l.length - 1) (c - 1)),(22,.int .i64 ((l.length - 1:Nat):Int)),(23,.int .i64 (i:Int))])
    (fun i la lc args w'=>(i≤l.length - 1∧args.length=i∧args=((l.drop 1).take i).map (valAt g.vs))∧Sat0 w (oQ b7 (atC ⟨t0,p.name,args⟩ la lc) 29::oQ b6 (atC ⟨T0,E0,[]⟩ none 0) 29::oQ b4 (pdC p) 107::rowT la lc args::[]) w')
    (fun i _ _ _=>l.length - 1 - i) 0 none 0 [] Y6 (fun w' hw=>⟨⟨by omega,rfl,rfl⟩,hw⟩) ?_
  intro i la lc args;refine WC.pure (fun hi=>?_);obtain ⟨hi,hal,hae⟩:=hi;refine Csr (Zv (OV.cq rfl rfl) (Nn (Cs ?_)));refine Cc rfl (fun c24=>?_) (fun c24=>?_)
  ·refine Ck (Xn (Cs (Cb (Csr ?_))));have hil:i<(l.drop 1).length:=by simp;omega
   have hi1:i+1<l.length:=by omega
   obtain ⟨n,hn,ht⟩:=Jkz hin hi1;obtain ⟨q1,hq1⟩:=hcut.some (by omega);refine Zv (OV.cd (a:=q1) (i:=i) (show _=some (Value.slice (some q1) (l.length - 1) (c - 1)) by rw [← hq1];rfl) rfl T.u51 T.z3 (by omega)) ?_;refine WL.val (OV.ah (v:=.int .i64 ((n:Nat):Int)) rfl T.u3 rfl (fun _ hw=>hw.keeps _ _ (by have h1:=(hq1 ▸ hcut).cell hil;rw [show (l.drop 1).getD i 0=((n:Nat):Int) by rw [← hn];simp [yF,Nat.add_comm]] at h1;exact h1))) rfl ?_;refine Za rfl (Nn (Hd (fun w'=>w'.heap[b7]?=some (.cells (atC ⟨t0,p.name,args⟩ la lc).toArray 29 (0,0))) [10] (fun _ hw=>hw.it (own b7 _) (by simp)) (m:=11) rfl ?_));refine Hf 0 rfl (OV.f0 4 rfl T.u29 rfl) (Ht 1 rfl (OV.ah (v:=.slice la args.length lc) rfl T.u27 rfl (fun _ hw=>(Jax hw (o:=4) rfl).1)) (Hf 2 rfl (OV.aw rfl) (Hf 3 rfl (OV.ak rfl) (Hf 4 rfl (OV.f0 0 rfl T.u105 rfl) (Hf 5 rfl (OV.aw rfl) (Ho 6 rfl (fl':=false) rfl ?_))))));refine WL.c0 (v:=tmV (valAt g.vs (l.getD (i+1) 0))) (vs:=[ptr g.p,.int .i64 ((n:Nat):Int)]) (fun w' hw'=>Jid g ok n (valAt g.vs (l.getD (i+1) 0)) ht w' (hA.fr0 hw'.fr)) ?_;refine Hc (fun _=>(fun _ hw=>hw.it (own b7 _) (by simp))) ?_;refine Ho 7 rfl (fl':=false) rfl ?_;refine WL.bg (cs:=tmC (valAt g.vs (l.getD (i+1) 0))) T.u27 T.z26 T.zr26 rfl rfl (by omega) (by omega) rfl ?_;intro b34;refine Hc (fun _=>(fun _ hw=>hw.it (own b7 _) (by simp))) ?_;refine Ho 8 rfl (fl':=false) rfl ?_;refine WL.focus (ow':=rowT la lc args::oQ b34 (tmC (valAt g.vs (l.getD (i+1) 0))) 26::oQ b7 (atC ⟨t0,p.name,args⟩ la lc) 29::oQ b6 (atC ⟨T0,E0,[]⟩ none 0) 29::oQ b4 (pdC p) 107::[]) (pmP [_,_,_,_,_] [4,0,1,2,3]) ?_;refine WL.append (news:=tmC (valAt g.vs (l.getD (i+1) 0))) rfl rfl T.apT (fun _ _=>Jcw yI rfl) (Jgi _) ⟨by omega,by unfold maxLen;omega⟩ rfl ?_;intro a35 c35;refine Hc (fun _=>(fun _ hw=>hw.it (own b7 _) (by simp))) ?_;refine Hf 9 rfl (OV.f0 4 rfl T.u29 rfl) (Ho 10 rfl (fl':=true) rfl ?_);refine WL.focus perm2 (WL.bw (o:=4) rfl rfl rfl T.z27 (by show 4<5;omega) ?_);refine Hc (fun h=>by cases h) ?_;refine He (Xb (Xn (Cr (Zv (OV.bm (j:=1) rfl rfl (by omega)) (Zm rfl (Nl ?_))))));have el:args.length+1=(args++[valAt g.vs (l.getD (i+1) 0)]).length:=by simp
   have ef:args.flatMap tmC++tmC (valAt g.vs (l.getD (i+1) 0))=(args++[valAt g.vs (l.getD (i+1) 0)]).flatMap tmC:=by simp
   exact WX.cg (i+1) a35 c35 (args++[valAt g.vs (l.getD (i+1) 0)]) Y6 (fun w' hw=>⟨⟨by omega,by simp [hal],by
    rw [List.take_add_one,xU,← hae,xD hil];simp [yF,Nat.add_comm,xD hi1]⟩,by
    rw [el,ef] at hw;exact hw.pik [[oQ b7 (atC ⟨t0,p.name,args++[valAt g.vs (l.getD (i+1) 0)]⟩ a35 c35) 29],[rowT a35 c35 (args++[valAt g.vs (l.getD (i+1) 0)])],[oQ b34 (tmC (valAt g.vs (l.getD (i+1) 0))) 26],[oQ b6 (atC ⟨T0,E0,[]⟩ none 0) 29],[oQ b4 (pdC p) 107]] [0,3,4,1] 5⟩) (by show l.length - 1 - (i+1)<l.length - 1 - i;omega)
  refine Ce (Xe (Xe (Xh (Xn (Csr (Zv (OV.lN (cs:=atC ⟨t0,p.name,args⟩ la lc) rfl T.u29 rfl T.z29 yH) ?_))))));refine WL.focus perm1 (WL.ag (vs:=atC ⟨t0,p.name,args⟩ la lc) rfl rfl rfl T.z29 rfl ?_);refine Nn (WC.az ?_);rw [xK (by simp;omega)] at hae;have hat:Jbs g.vs p l=⟨t0,p.name,args⟩:=by rw [hae,htt];rfl
  rw [hat];refine WX.retC (cs:=atC ⟨t0,p.name,args⟩ la lc) rfl rfl rfl T.u29 rfl T.z29 (fun w' hw j v hj=>Jbh hw yH j v hj) (fun w' hw=>⟨la,lc,rfl,?_⟩);exact (hw.pik [[oQ b6 (atC ⟨t0,p.name,args⟩ la lc) 29],[oQ b7 (atC ⟨t0,p.name,args⟩ la lc) 29],[oQ b4 (pdC p) 107],[rowT la lc args]] [3] 4).turned0
 refine WL.alloc T.zr29 rfl ?_;intro b7;refine Hc (fun _=>(fun _ hw=>⟨hw.keeps,hw.it (own b4 _) (by simp)⟩)) ?_;refine Ho 6 rfl (fl':=false) rfl ?_;refine WL.c0 (v:=tmV t0) (vs:=[ptr g.p,.int .i64 ((n0:Nat):Int)]) (fun w' hw'=>Jid g ok n0 t0 ht0 w' (hA.fr0 hw'.fr)) ?_;refine Hc (fun _=>(fun _ hw=>⟨hw.keeps,hw.it (own b4 _) (by simp)⟩)) ?_;refine Hf 9 rfl (OV.ao (xs:=[(0,.tmp 16),(1,.tmp 18)]) (pl:=[(0,3),(3,1),(4,1)]) (cs:=atC ⟨t0,p.name,[]⟩ none 0) T.u29 T.zr29 (by kernel_rfl) rfl (Jal (us:=tmC t0) rfl rfl yW (Jal (us:=[_]) rfl rfl yW rfl))) (Ho 11 rfl (fl':=false) rfl ?_);refine WL.ag (vs:=atC ⟨t0,p.name,[]⟩ none 0) rfl rfl rfl T.z29 rfl ?_;refine Hc (fun _=>(fun _ hw=>⟨hw.keeps,hw.it (own b4 _) (by simp)⟩)) ?_;refine He (Xn (Cs (Csr (Zm rfl (Zv (OV.sliceFrom (k:=1) rfl T.u51 T.z3 rfl ⟨by omega,hc⟩) (Zv (OV.ae rfl T.u51) (Zm rfl (Nn (Cb ?_)))))))));have hcut:=RI.cut1 hr hc h0;refine WC.weak (S':=Sat0 w (oQ b7 (atC ⟨t0,p.name,[]⟩ none 0) 29::oQ b6 (atC ⟨T0,E0,[]⟩ none 0) 29::oQ b4 (pdC p) 107::row 26 3 none 0 0 []::[])) (fun w' hw=>(hw.rowNil 26 3).perm (pmP [_,_,_,_] [1,2,3,0])) ?_
 refine WC.dd (fun (i:Nat) (la:Option Addr) (lc:Nat) (args:List Tm)=>[(0,ptr g.p),(6,yZ b6),(7,yZ b7),(21,.slice (cut (some q) c 1) (l.length - 1) (c - 1)),(22,.int .i64 ((l.length - 1:Nat):Int)),(23,.int .i64 (i:Int))])
   (fun i la lc args w'=>(i≤l.length - 1∧args.length=i∧args=((l.drop 1).take i).map (valAt g.vs))∧Sat0 w (oQ b7 (atC ⟨t0,p.name,args⟩ la lc) 29::oQ b6 (atC ⟨T0,E0,[]⟩ none 0) 29::oQ b4 (pdC p) 107::rowT la lc args::[]) w')
   (fun i _ _ _=>l.length - 1 - i) 0 none 0 [] Y6 (fun w' hw=>⟨⟨by omega,rfl,rfl⟩,hw⟩) ?_
 intro i la lc args;refine WC.pure (fun hi=>?_);obtain ⟨hi,hal,hae⟩:=hi;refine Csr (Zv (OV.cq rfl rfl) (Nn (Cs ?_)));refine Cc rfl (fun c24=>?_) (fun c24=>?_)
 ·refine Ck (Xn (Cs (Cb (Csr ?_))));have hil:i<(l.drop 1).length:=by simp;omega
  have hi1:i+1<l.length:=by omega
  obtain ⟨n,hn,ht⟩:=Jkz hin hi1;obtain ⟨q1,hq1⟩:=hcut.some (by omega);refine Zv (OV.cd (a:=q1) (i:=i) (show _=some (Value.slice (some q1) (l.length - 1) (c - 1)) by rw [← hq1];rfl) rfl T.u51 T.z3 (by omega)) ?_;refine WL.val (OV.ah (v:=.int .i64 ((n:Nat):Int)) rfl T.u3 rfl (fun _ hw=>hw.keeps _ _ (by have h1:=(hq1 ▸ hcut).cell hil;rw [show (l.drop 1).getD i 0=((n:Nat):Int) by rw [← hn];simp [yF,Nat.add_comm]] at h1;exact h1))) rfl ?_;refine Za rfl (Nn (Hd (fun w'=>w'.heap[b7]?=some (.cells (atC ⟨t0,p.name,args⟩ la lc).toArray 29 (0,0))) [10] (fun _ hw=>hw.it (own b7 _) (by simp)) (m:=11) rfl ?_));refine Hf 0 rfl (OV.f0 4 rfl T.u29 rfl) (Ht 1 rfl (OV.ah (v:=.slice la args.length lc) rfl T.u27 rfl (fun _ hw=>(Jax hw (o:=4) rfl).1)) (Hf 2 rfl (OV.aw rfl) (Hf 3 rfl (OV.ak rfl) (Hf 4 rfl (OV.f0 0 rfl T.u105 rfl) (Hf 5 rfl (OV.aw rfl) (Ho 6 rfl (fl':=false) rfl ?_))))));refine WL.c0 (v:=tmV (valAt g.vs (l.getD (i+1) 0))) (vs:=[ptr g.p,.int .i64 ((n:Nat):Int)]) (fun w' hw'=>Jid g ok n (valAt g.vs (l.getD (i+1) 0)) ht w' (hA.fr0 hw'.fr)) ?_;refine Hc (fun _=>(fun _ hw=>hw.it (own b7 _) (by simp))) ?_;refine Ho 7 rfl (fl':=false) rfl ?_;refine WL.bg (cs:=tmC (valAt g.vs (l.getD (i+1) 0))) T.u27 T.z26 T.zr26 rfl rfl (by omega) (by omega) rfl ?_;intro b34;refine Hc (fun _=>(fun _ hw=>hw.it (own b7 _) (by simp))) ?_;refine Ho 8 rfl (fl':=false) rfl ?_;refine WL.focus (ow':=rowT la lc args::oQ b34 (tmC (valAt g.vs (l.getD (i+1) 0))) 26::oQ b7 (atC ⟨t0,p.name,args⟩ la lc) 29::oQ b6 (atC ⟨T0,E0,[]⟩ none 0) 29::oQ b4 (pdC p) 107::[]) (pmP [_,_,_,_,_] [4,0,1,2,3]) ?_;refine WL.append (news:=tmC (valAt g.vs (l.getD (i+1) 0))) rfl rfl T.apT (fun _ _=>Jcw yI rfl) (Jgi _) ⟨by omega,by unfold maxLen;omega⟩ rfl ?_;intro a35 c35;refine Hc (fun _=>(fun _ hw=>hw.it (own b7 _) (by simp))) ?_;refine Hf 9 rfl (OV.f0 4 rfl T.u29 rfl) (Ho 10 rfl (fl':=true) rfl ?_);refine WL.focus perm2 (WL.bw (o:=4) rfl rfl rfl T.z27 (by show 4<5;omega) ?_);refine Hc (fun h=>by cases h) ?_;refine He (Xb (Xn (Cr (Zv (OV.bm (j:=1) rfl rfl (by omega)) (Zm rfl (Nl ?_))))));have el:args.length+1=(args++[valAt g.vs (l.getD (i+1) 0)]).length:=by simp
  have ef:args.flatMap tmC++tmC (valAt g.vs (l.getD (i+1) 0))=(args++[valAt g.vs (l.getD (i+1) 0)]).flatMap tmC:=by simp
  exact WX.cg (i+1) a35 c35 (args++[valAt g.vs (l.getD (i+1) 0)]) Y6 (fun w' hw=>⟨⟨by omega,by simp [hal],by
   rw [List.take_add_one,xU,← hae,xD hil];simp [yF,Nat.add_comm,xD hi1]⟩,by
   rw [el,ef] at hw;exact hw.pik [[oQ b7 (atC ⟨t0,p.name,args++[valAt g.vs (l.getD (i+1) 0)]⟩ a35 c35) 29],[rowT a35 c35 (args++[valAt g.vs (l.getD (i+1) 0)])],[oQ b34 (tmC (valAt g.vs (l.getD (i+1) 0))) 26],[oQ b6 (atC ⟨T0,E0,[]⟩ none 0) 29],[oQ b4 (pdC p) 107]] [0,3,4,1] 5⟩) (by show l.length - 1 - (i+1)<l.length - 1 - i;omega)
 refine Ce (Xe (Xe (Xh (Xn (Csr (Zv (OV.lN (cs:=atC ⟨t0,p.name,args⟩ la lc) rfl T.u29 rfl T.z29 yH) ?_))))));refine WL.focus perm1 (WL.ag (vs:=atC ⟨t0,p.name,args⟩ la lc) rfl rfl rfl T.z29 rfl ?_);refine Nn (WC.az ?_);rw [xK (by simp;omega)] at hae;have hat:Jbs g.vs p l=⟨t0,p.name,args⟩:=by rw [hae,htt];rfl
 rw [hat];refine WX.retC (cs:=atC ⟨t0,p.name,args⟩ la lc) rfl rfl rfl T.u29 rfl T.z29 (fun w' hw j v hj=>Jbh hw yH j v hj) (fun w' hw=>⟨la,lc,rfl,?_⟩);exact (hw.pik [[oQ b6 (atC ⟨t0,p.name,args⟩ la lc) 29],[oQ b7 (atC ⟨t0,p.name,args⟩ la lc) 29],[oQ b4 (pdC p) 107],[rowT la lc args]] [3] 4).turned0
def Jay (x:At):Pd:=⟨x.name,x.args.length⟩
def relOf (rs:List (Pd × RelG))(p:Pd):Option RelG:=(rs.find? fun x=>decide (x.1=p)).map (·.2)
def Jcj (g:BaseG):List (At × Nat):=g.rs.flatMap fun x=>(rp x.2).map fun q=>(Jbs g.vs x.1 q.1,q.2)
def addF (F:List (At × Nat))(x:At):List (At × Nat):=if factB x=true∧x∉F.map (·.1) then F++[(x,4)] else F
theorem valAt_num {vs:List Tm}{t:Tm}{n:Nat}(h:numOf vs t=some n):valAt vs (n:Int)=t:=by
 have:=Jje h;unfold valAt;rw [yF,xN,this];rfl
theorem rowOf_vals {vs:List Tm}:∀ {ts:List Tm} {l:List Int},rowOf vs ts=some l→l.map (valAt vs)=ts
 | [],l,h=>by simp [rowOf] at h;subst h;rfl
 | t::ts,l,h=>by
  obtain ⟨n,m,h1,h2,rfl⟩:=rowOf_cons.1 h;rw [yC,valAt_num h1,rowOf_vals h2]
theorem Jlb {vs:List Tm}{x:At}{l:List Int}(h:rowOf vs (tsOf x)=some l):Jbs vs (Jay x) l=x:=by
 obtain ⟨n,m,h1,h2,rfl⟩:=rowOf_cons.1 h;have h3:=rowOf_vals h2;obtain ⟨b,name,args⟩:=x;simp only [Jbs,Jay,List.getD_cons_zero,List.drop_one,List.tail_cons,valAt_num h1,At.mk.injEq,true_and];exact h3
theorem Jl1 {vs:List Tm}:∀ {ts:List Tm} {l:List Int},rowOf vs ts=some l→inVs vs l
 | [],l,h=>by simp [rowOf] at h;subst h;intro k hk;cases hk
 | t::ts,l,h=>by
  obtain ⟨n,m,h1,h2,rfl⟩:=rowOf_cons.1 h;intro k hk;rcases List.mem_cons.1 hk with rfl | hk
  ·have:=numOf_lt h1;omega
  ·exact Jl1 h2 k hk
theorem rowOf_map {vs:List Tm}(hn:vs.Nodup):∀ {l:List Int},inVs vs l→rowOf vs (l.map (valAt vs))=some l
 | [],_=>rfl
 | k::l,h=>by
  obtain ⟨h1,h2⟩:=h k yH
  have h3:vs[k.toNat]?=some (valAt vs k):=by
   unfold valAt;rw [yF,xD (by omega)];rfl
  rw [yC,rowOf,Jih hn h3,rowOf_map hn (fun j hj=>h j (.tail _ hj))];simp only [Option.some.injEq,List.cons.injEq,and_true];omega
theorem tsOf_atomOf {vs:List Tm}{p:Pd}{l:List Int}(h0:0<l.length):tsOf (Jbs vs p l)=l.map (valAt vs):=by
 cases l with
 | nil=>simp at h0
 | cons k l=>simp [tsOf,Jbs]
theorem Jgq {vs:List Tm}{p:Pd}{l:List Int}(h:l.length=p.ar+1):Jay (Jbs vs p l)=p:=by
 obtain ⟨n,a⟩:=p;simp only [Jay,Jbs,xE,List.length_drop,h,Pd.mk.injEq,true_and];simp
theorem Jlc {vs:List Tm}(hn:vs.Nodup){p:Pd}{l:List Int}(hin:inVs vs l)(hl:l.length=p.ar+1)(x:At):Jbs vs p l=x↔p=Jay x∧rowOf vs (tsOf x)=some l:=by
 constructor
 ·rintro rfl;exact ⟨(Jgq hl).symm,by rw [tsOf_atomOf (by omega)];exact rowOf_map hn hin⟩
 ·rintro ⟨rfl,h⟩;exact Jlb h
theorem Jl2 {rs:List (Pd × RelG)}{p:Pd}{g:RelG}(h:relOf rs p=some g):(p,g)∈rs:=by
 obtain ⟨x,hx,rfl⟩:=Option.map_eq_some_iff.1 h;have h1:=List.mem_of_find?_eq_some hx;have h2:=List.find?_some hx;simp only [decide_eq_true_eq] at h2;rw [← h2];exact h1
theorem Jne {rs:List (Pd × RelG)}(hn:(rs.map (·.1)).Nodup){p:Pd}{g:RelG}(h:(p,g)∈rs):relOf rs p=some g:=by
 induction rs with
 | nil=>cases h
 | cons x rs ih=>
  rw [yC,List.nodup_cons] at hn;rw [relOf];rcases List.mem_cons.1 h with rfl | h
  ·simp
  ·have hne:¬ x.1=p:=fun e=>hn.1 (List.mem_map.2 ⟨(p,g),h,e.symm⟩)
   rw [List.find?_cons_of_neg (by simpa using hne)];exact ih hn.2 h
theorem relOf_none {rs:List (Pd × RelG)}{p:Pd}(h:relOf rs p=none):∀ x∈rs,x.1≠p:=by
 intro x hx e;unfold relOf at h;rw [Option.map_eq_none_iff,List.find?_eq_none] at h;have:=h x hx;simp [e] at this
theorem relKV_spot (p:Pd):∀ (rs:List (Pd × RelG)) (i:Nat),(spot (relKV rs) p i).map (·.2)=(relOf rs p).map fun g=>ptr g.r
 | [],i=>rfl
 | x::rs,i=>by
  rw [relKV,yC,spot,relOf]
  by_cases h:p=x.1
  ·simp [h]
  ·have h':¬ x.1=p:=fun e=>h e.symm
   simp only [h,if_false];rw [List.find?_cons_of_neg (by simpa using h')];exact relKV_spot p rs (i+1)
theorem relKV_got (rs:List (Pd × RelG))(p:Pd):got (relKV rs) p=(relOf rs p).map fun g=>ptr g.r:=relKV_spot p rs 0
theorem relKV_new {rs:List (Pd × RelG)}{p:Pd}{g:RelG}(h:relOf rs p=none):ups (relKV rs) p (ptr g.r)=relKV (rs++[(p,g)]):=by
 rw [Jkf]
 ·simp [relKV]
 ·intro q hq e;obtain ⟨z,hz,rfl⟩:=List.mem_map.1 hq;exact relOf_none h z hz e
theorem Jgp {g:BaseG}(ok:BaseOK g){x:Pd × RelG}(hx:x∈g.rs){q:List Int × Nat}(hq:q∈rp x.2):q.1.length=x.1.ar+1∧inVs g.vs q.1:=by
 refine ⟨?_,ok.inr x hx q.1 (List.mem_map.2 ⟨q,hq,rfl⟩)⟩;obtain ⟨e,he,rfl⟩:=List.mem_map.1 hq;rw [← ok.wd x hx];exact (ok.ok x hx).wid e he
theorem mem_facts {g:BaseG}(ok:BaseOK g)(x:At)(n:Nat):(x,n)∈Jcj g↔∃ gr l,relOf g.rs (Jay x)=some gr∧rowOf g.vs (tsOf x)=some l∧(l,n)∈rp gr:=by
 unfold Jcj;rw [List.mem_flatMap];constructor
 ·rintro ⟨⟨p,gr⟩,hm,h⟩;obtain ⟨q,hq,he⟩:=List.mem_map.1 h;simp only [Prod.mk.injEq] at he;obtain ⟨h1,h2⟩:=Jgp ok hm hq;obtain ⟨rfl,h3⟩:=(Jlc ok.vn h2 h1 x).1 he.1;exact ⟨gr,q.1,Jne ok.rn hm,h3,he.2 ▸ hq⟩
 ·rintro ⟨gr,l,h1,h2,h3⟩;exact ⟨(Jay x,gr),Jl2 h1,List.mem_map.2 ⟨(l,n),h3,by rw [Jlb h2]⟩⟩
theorem mem_facts1 {g:BaseG}(ok:BaseOK g)(x:At):x∈(Jcj g).map (·.1)↔∃ gr l,relOf g.rs (Jay x)=some gr∧rowOf g.vs (tsOf x)=some l∧l∈(rp gr).map (·.1):=by
 constructor
 ·intro h;obtain ⟨⟨y,n⟩,hy,rfl⟩:=List.mem_map.1 h;obtain ⟨gr,l,h1,h2,h3⟩:=(mem_facts ok y n).1 hy;exact ⟨gr,l,h1,h2,List.mem_map.2 ⟨_,h3,rfl⟩⟩
 ·rintro ⟨gr,l,h1,h2,h3⟩;obtain ⟨⟨l',n⟩,h4,rfl⟩:=List.mem_map.1 h3;exact List.mem_map.2 ⟨(x,n),(mem_facts ok x n).2 ⟨gr,l',h1,h2,h4⟩,rfl⟩
theorem valAt_pre {vs vs':List Tm}(h:vs <+: vs'){k:Int}(h1:0≤k∧k<(vs.length:Int)):valAt vs' k=valAt vs k:=by
 obtain ⟨t,rfl⟩:=h;unfold valAt;rw [yF,yF,List.getElem?_append_left (by omega)]
theorem atomOf_pre {vs vs':List Tm}(h:vs <+: vs'){p:Pd}{l:List Int}(hin:inVs vs l)(h0:0<l.length):Jbs vs' p l=Jbs vs p l:=by
 cases l with
 | nil=>simp at h0
 | cons k l=>
  simp only [Jbs,List.getD_cons_zero,List.drop_one,List.tail_cons,At.mk.injEq,true_and];exact ⟨valAt_pre h (hin k yH),List.map_congr_left fun j hj=>valAt_pre h (hin j (.tail _ hj))⟩
theorem Jjk {g:BaseG}(ok:BaseOK g){nb va vc}{vs':List Tm}(h:g.vs <+: vs'):Jcj { g with nb:=nb,va:=va,vc:=vc,vs:=vs' }=Jcj g:=by
 unfold Jcj;simp only [List.flatMap_def];refine congrArg List.flatten (List.map_congr_left fun x hx=>List.map_congr_left fun q hq=>?_);obtain ⟨h1,h2⟩:=Jgp ok hx hq;rw [atomOf_pre h h2 (by omega)]
theorem BaseOK.vals {g:BaseG}(ok:BaseOK g){nb va vc}{vs':List Tm}(h:g.vs <+: vs')(h0:nb=none→vs'=[])(hn:vs'.Nodup)(hl:vs'.length≤1099511627776):BaseOK { g with nb:=nb,va:=va,vc:=vc,vs:=vs' } where
 nb:=h0
 vn:=hn
 rn:=ok.rn
 ok:=ok.ok
 wd:=ok.wd
 ar:=ok.ar
 inr x hx r hr k hk:=by
  have h1:=ok.inr x hx r hr k hk;have:=h.length_le;exact ⟨h1.1,by show k<(vs'.length:Int);omega⟩
 vl:=hl
 rl:=ok.rl
 fl:=ok.fl
theorem BaseOK.newRel {g:BaseG}(ok:BaseOK g){p:Pd}{gr:RelG}(h:relOf g.rs p=none)(hok:RelOK gr)(hw:gr.width=p.ar+1)(ha:p.ar≤8)(he:gr.es=[])(hl:g.rs.length<1099511627776):BaseOK { g with rs:=g.rs++[(p,gr)] } where
 nb:=ok.nb
 vn:=ok.vn
 rn:=by
  show ((g.rs++[(p,gr)]).map (·.1)).Nodup;rw [xU,List.nodup_append];refine ⟨ok.rn,by simp,fun a hma b hb=>?_⟩;simp only [yC,yD,xI] at hb;subst hb;obtain ⟨z,hz,rfl⟩:=List.mem_map.1 hma;exact relOf_none h z hz
 ok x hx:=by
  rcases List.mem_append.1 hx with h1 | h1
  ·exact ok.ok x h1
  ·simp only [xI] at h1;subst h1;exact hok
 wd x hx:=by
  rcases List.mem_append.1 hx with h1 | h1
  ·exact ok.wd x h1
  ·simp only [xI] at h1;subst h1;exact hw
 ar x hx:=by
  rcases List.mem_append.1 hx with h1 | h1
  ·exact ok.ar x h1
  ·simp only [xI] at h1;subst h1;exact ha
 inr x hx:=by
  rcases List.mem_append.1 hx with h1 | h1
  ·exact ok.inr x h1
  ·simp only [xI] at h1;subst h1;intro r hr;simp [rp,he] at hr
 vl:=ok.vl
 rl:=by show (g.rs++[(p,gr)]).length≤_;rw [xL];simp only [List.length_cons,List.length_nil];omega
 fl:=by
  show ((g.rs++[(p,gr)]).map fun x=>x.2.es.length).sum≤_;rw [xU,List.sum_append];have:=ok.fl;simp [he];exact this
theorem factsB_newRel {g:BaseG}{p:Pd}{gr:RelG}(he:gr.es=[]):Jcj { g with rs:=g.rs++[(p,gr)] }=Jcj g:=by
 unfold Jcj;show (g.rs++[(p,gr)]).flatMap _=_;rw [List.flatMap_append];simp [rp,he]
theorem relOf_split {rs:List (Pd × RelG)}{p:Pd}{gr:RelG}(h:relOf rs p=some gr):∃ r1 r2,rs=r1++(p,gr)::r2:=List.append_of_mem (Jl2 h)
theorem BaseOK.setRel {g:BaseG}(ok:BaseOK g){p:Pd}{gr gr':RelG}{r1 r2:List (Pd × RelG)}(hs:g.rs=r1++(p,gr)::r2)(hok:RelOK gr')(hw:gr'.width=gr.width)(hin:∀ r∈(rp gr').map (·.1),inVs g.vs r)(hf:((r1.map fun x=>x.2.es.length).sum+(gr'.es.length+(r2.map fun x=>x.2.es.length).sum))≤1099511627776):BaseOK { g with rs:=r1++(p,gr')::r2 }:=by
 have hm:∀ {C:Pd × RelG→Prop},(∀ x∈g.rs,C x)→C (p,gr')→∀ x∈r1++(p,gr')::r2,C x:=by
  intro C h1 h2 x hx;rcases List.mem_append.1 hx with h | h
  ·exact h1 x (by rw [hs];exact xA _ h)
  ·rcases List.mem_cons.1 h with rfl | h
   ·exact h2
   ·exact h1 x (by rw [hs];exact xB _ (.tail _ h))
 have hmem:(p,gr)∈g.rs:=by rw [hs];exact xB _ yH
 refine ⟨ok.nb,ok.vn,?_,hm ok.ok hok,hm ok.wd (show gr'.width=p.ar+1 by rw [hw];exact ok.wd _ hmem),hm ok.ar (show p.ar≤8 from ok.ar _ hmem),hm ok.inr (fun r hr k hk=>hin r hr k hk),ok.vl,?_,?_⟩
 ·have:=ok.rn;rw [hs] at this
  simpa using this
 ·have:=ok.rl;rw [hs] at this
  simpa using this
 ·show ((r1++(p,gr')::r2).map _).sum≤_
  simpa using hf
theorem factsB_set {g:BaseG}{p:Pd}{gr gr':RelG}{r1 r2:List (Pd × RelG)}(hs:g.rs=r1++(p,gr)::r2){E:List (At × Nat)}(he:((rp gr').map fun q=>(Jbs g.vs p q.1,q.2))=((rp gr).map fun q=>(Jbs g.vs p q.1,q.2))++E):(Jcj { g with rs:=r1++(p,gr')::r2 }).Perm (Jcj g++E):=by
 unfold Jcj;rw [hs];show ((r1++(p,gr')::r2).flatMap _).Perm _;rw [List.flatMap_append,List.flatMap_cons,List.flatMap_append,List.flatMap_cons];simp only [he];rw [xF,xF,xF];exact List.Perm.append_left _ (List.Perm.append_left _ List.perm_append_comm)
theorem Jdb.satA {w w':World}{A ow:List Hw.Item}(h:Jdb w)(hn:¬ DD A 0)(hw:Sat w (DD A) (fun b=>b<w.heap.size∧¬ DD A b) w ow w'):Jdb w':=by
 intro j v hj;have h1:=h j v hj;have hlt:0<w.heap.size:=World.block_lt_of_cell? w ⟨0,j,none⟩ h1;have h2:=hw.fr.keep 0 hlt hn;unfold World.cell? at h1 ⊢;rw [h2];exact h1
theorem RT.lt {w:World}{a:Option Addr}{ts:List Tm}(h:RT w a ts){q:Addr}(hq:a=some q)(hl:0<ts.length):q.block<w.heap.size:=by
 have h1:=h.at_ q hq 0 _ (xD hl) 0 _ rfl;have h2:=World.block_lt_of_cell? w _ h1;rwa [Jcv,Jcv] at h2
theorem RT.satA {w w':World}{A ow:List Hw.Item}{a:Option Addr}{ts:List Tm}(h:RT w a ts)(hne:∀ q,a=some q→0<ts.length→¬ DD A q.block)(hw:Sat w (DD A) (fun b=>b<w.heap.size∧¬ DD A b) w ow w'):RT w' a ts:=by
 refine ⟨h.nil,fun q hq i t ht j v hv=>?_⟩;have hl:0<ts.length:=by have:=(List.getElem?_eq_some_iff.1 ht).1;omega
 have h1:=h.at_ q hq i t ht j v hv;have h2:=hw.fr.keep q.block (h.lt hq hl) (hne q hq hl);unfold World.cell? at h1 ⊢;rw [Jcv,Jcv] at h1 ⊢;rw [h2];exact h1
theorem fact_args {x:At}(h:factB x=true):x.args.length≤8:=by
 unfold factB chkA at h;rcases Nat.lt_or_ge 8 x.args.length with h8 | h8
 ·simp [h8] at h
  split at h <;> simp at h
 ·exact h8
theorem numOf_pre {vs vs':List Tm}(h:vs <+: vs'){t:Tm}{n:Nat}(hn:numOf vs t=some n):numOf vs' t=some n:=by
 obtain ⟨m,rfl⟩:=h;unfold numOf at *;rw [List.findIdx?_append,hn];rfl
theorem Jl0 {vs vs':List Tm}(h:vs <+: vs'):∀ {ts:List Tm} {l:List Int},rowOf vs ts=some l→rowOf vs' ts=some l
 | [],l,hl=>hl
 | t::ts,l,hl=>by
  obtain ⟨n,m,h1,h2,rfl⟩:=rowOf_cons.1 hl;exact rowOf_cons.2 ⟨n,m,numOf_pre h h1,Jl0 h h2,rfl⟩
theorem relsA_snoc (rs:List (Pd × RelG))(p:Pd)(gr:RelG):relsA (rs++[(p,gr)])=relsA rs++relA gr:=by simp [relsA]
theorem Jez (r1 r2:List (Pd × RelG))(p:Pd)(gr:RelG):relsA (r1++(p,gr)::r2)=relsA r1++(relA gr++relsA r2):=by simp [relsA]
theorem Jk4 (g:BaseG):(Jcj g).length=(g.rs.map fun x=>x.2.es.length).sum:=by
 unfold Jcj;rw [List.length_flatMap];congr 1;exact List.map_congr_left fun x _=>by simp [Jly]
theorem inVs_i64 {vs:List Tm}{l:List Int}(h:inVs vs l)(hv:vs.length≤1099511627776):i64s l:=fun k hk=>by have:=h k hk;constructor <;> omega
abbrev Jf6 (g:BaseG)(nb:Option Nat)(va:Option Addr)(vc:Nat)(vs:List Tm):BaseG:={ g with nb:=nb,va:=va,vc:=vc,vs:=vs }
theorem Jo7 {g:BaseG}(ok:BaseOK g){t:Tm}{nb va vc}(h0:nb=none→numX g.vs t=[])(hl:g.vs.length<1099511627776):BaseOK (Jf6 g nb va vc (numX g.vs t)):=
 ok.vals (Jiv _ _) h0 (numX_nodup ok.vn) (by have:=Jks g.vs t;omega)
theorem add_plain {g g2:BaseG}(ok2:BaseOK g2)(hf:Jcj g2=Jcj g){x:At}(hx:factB x=true){l:List Int}(hl:rowOf g2.vs (tsOf x)=some l){gr gr':RelG}{r1 r2:List (Pd × RelG)}(hs:g2.rs=r1++(Jay x,gr)::r2)(hrp:rp gr'=addRP gr.width (rp gr) l)(hok:RelOK gr')(hw:gr'.width=gr.width)(hfl:(Jcj g).length<1099511627776):
  addV gr.width (rp gr) l=decide (x∉(Jcj g).map (·.1))∧addE gr.width l=0∧BaseOK { g2 with rs:=r1++(Jay x,gr')::r2 }∧(Jcj { g2 with rs:=r1++(Jay x,gr')::r2 }).Perm (addF (Jcj g) x):=by
 have hmem:(Jay x,gr)∈g2.rs:=by rw [hs];exact xB _ yH
 have hwd:=ok2.wd _ hmem;have hlen:=Jif hl;have hlw:l.length=gr.width:=by rw [hlen,hwd];rfl
 have hrel:=Jne ok2.rn hmem
 have hiff:x∈(Jcj g).map (·.1)↔l∈(rp gr).map (·.1):=by
  rw [← hf,mem_facts1 ok2];constructor
  ·rintro ⟨gr0,l0,h1,h2,h3⟩;rw [hrel] at h1;rw [hl] at h2;cases h1;cases h2;exact h3
  ·intro h;exact ⟨gr,l,hrel,hl,h⟩
 have hin:inVs g2.vs l:=Jl1 hl;have hfl2:=Jk4 g2;rw [hf,hs] at hfl2;simp only [xU,yC,List.sum_append,List.sum_cons] at hfl2
 have hel:gr'.es.length≤gr.es.length+1:=by
  have h1:=congrArg List.length hrp;rw [Jly] at h1;have h2:(addRP gr.width (rp gr) l).length≤(rp gr).length+1:=by unfold addRP;split <;> simp
  rw [Jly] at h2;omega
 refine ⟨?_,by unfold addE;rw [if_pos hlw],ok2.setRel hs hok hw ?_ (by omega),?_⟩
 ·unfold addV
  by_cases h:l∈(rp gr).map (·.1)
  ·rw [xP (show ¬ (l.length=gr.width∧l∉(rp gr).map (·.1)) from fun hh=>hh.2 h),xP (show ¬ x∉(Jcj g).map (·.1) from fun hh=>hh (hiff.2 h))]
  ·rw [xO (show l.length=gr.width∧l∉(rp gr).map (·.1) from ⟨hlw,h⟩),xO (show x∉(Jcj g).map (·.1) from fun hh=>h (hiff.1 hh))]
 ·intro r hr;rw [hrp] at hr;unfold addRP at hr
  split at hr
  ·rw [xU] at hr;rcases List.mem_append.1 hr with h | h
   ·exact fun k hk=>ok2.inr _ hmem r h k hk
   ·simp only [yC,yD,xI] at h;subst h;exact hin
  ·exact fun k hk=>ok2.inr _ hmem r hr k hk
 ·unfold addF
  by_cases h:l∈(rp gr).map (·.1)
  ·rw [if_neg (fun hh=>hh.2 (hiff.2 h))];have:=factsB_set (gr':=gr') hs (E:=[]) (by rw [hrp];unfold addRP;rw [if_neg (fun hh=>hh.2 h),xZ]);rw [xZ,hf] at this;exact this
  ·rw [if_pos ⟨hx,fun hh=>h (hiff.1 hh)⟩];have:=factsB_set (gr':=gr') hs (E:=[(x,4)]) (by rw [hrp];unfold addRP;rw [if_pos ⟨hlw,h⟩,xU,yC,yD,Jlb hl]);rw [hf] at this;exact this
set_option maxHeartbeats 2000000 in
theorem badd_calls (g:BaseG)(ok:BaseOK g)(x:At)(a:Option Addr)(c:Nat)(hl:x.args.length≤1099511627775)(hs:x.name.size≤1099511627776)(hvl:g.vs.length+9≤1099511627776)(hrl:g.rs.length<1099511627776)(hfl:(Jcj g).length<1099511627776)(w:World)(hN:Jdb w)(hN1:¬ DD (baseA g) 0)(hr:RT w a x.args)(hne:∀ q,a=some q→0<x.args.length→¬ DD (baseA g) q.block)(hA:Holds (baseA g) w):
 Calls Tryz.prog 49 #[ptr g.p,atV x a c] w fun e w'=>e=.returned (.tuple #[.bool (factB x && decide (x∉(Jcj g).map (·.1))),.int .i64 (if factB x=true then 0 else 81)])∧∃ g',BaseOK g'∧g'.p=g.p∧(Jcj g').Perm (addF (Jcj g) x)∧g'.vs.length≤g.vs.length+9∧g'.rs.length≤g.rs.length+1∧Turns (baseA g) (baseA g') w w':=by
 refine Jdt hA (args:=[ptr g.p,atV x a c]) Tryz.func49 rfl Tryz.ntmps49 rfl rfl ?_;refine Csr (WL.box rfl rfl rfl ?_);intro b3;refine Za rfl (Za rfl (Nn (Cs (Csr (Zv (OV.lN (cs:=atC x a c) rfl T.u29 rfl T.z29 yH) (WL.au (v:=.bool (factB x)) (by kernel_rfl) rfl rfl (fun w' hw'=>fact_calls x a c (by omega) hs w' (hN.satA hN1 hw') (hr.satA hne hw')) ?_))))));refine Zv (OV.not rfl) (Nn ?_);refine Cc rfl (fun c14=>?_) (fun c14=>?_)
 ·refine Csr (Za rfl (Za rfl (Nn (WC.az ?_))));refine Xr ?_;have hf0:factB x=false:=by simpa using c14
  exact WX.ret2 rfl rfl rfl rfl (fun w' hw=>⟨by rw [hf0];rfl,g,ok,rfl,by unfold addF;rw [if_neg (by rw [hf0];simp)],by omega,by omega,hw.drop.turned⟩)
 refine Ck (Xn (Cs ?_));have hx8:=fact_args (by simpa using c14:factB x=true);have hxf:factB x=true:=by simpa using c14
 refine Hd (fun w'=>w'.heap[g.p]?=some (.cells (baseC g).toArray 105 (0,0))∧w'.heap[g.rb]?=some (mapK pdV (relKV g.rs))∧w'.heap[b3]?=some (.cells (atC x a c).toArray 29 (0,0))) [] (fun _ hw=>⟨hw.it (hdB g) yI,hw.it (rbA g) (yV (xB _ yH)),hw.it (own b3 _) yH⟩) (m:=8) rfl ?_;refine Hf 0 rfl (OV.aw rfl) (Hf 1 rfl (OV.ak rfl) (Hf 2 rfl (OV.f0 2 rfl T.u105 rfl) (Ht 3 rfl (OV.ah (v:=.map (some g.rb)) rfl T.u103 rfl (fun _ hw=>(Jax hw.1 (o:=2) rfl).1)) (Ht 4 rfl (OV.ai (cs:=atC x a c) rfl T.u29 rfl T.z29 (fun _ hw j v hj=>by rw [Jap];exact Jch hw.2.2 (o:=0) (cs':=atC x a c) rfl j v hj)) (Ho 5 rfl (fl':=false) rfl ?_)))));refine WL.au (v:=pdV (Jay x)) (by kernel_rfl) rfl rfl (fun w' hw'=>Jkq x a c w') ?_;refine Hc (fun _=>(fun _ hw=>⟨hw.it (hdB g) yI,hw.it (rbA g) (yV (xB _ yH)),hw.it (own b3 _) yH⟩)) ?_;refine Ht 6 rfl ((OV.lookup pdKey T.u103 (show Program.zv Tryz.prog 108=some (.pointer none) by kernel_rfl) rfl rfl (fun _ hw=>hw.2.1)).cast (u:=.pointer ((relOf g.rs (Jay x)).map fun z=>⟨z.r,0,none⟩)) (by rw [relKV_got];cases relOf g.rs (Jay x) <;> rfl)) (Hf 7 rfl (OV.assign rfl) (He (Xn (Cs (Csr (Zm rfl (Zv (OV.lp T.u108 rfl rfl) (Nn ?_))))))));refine Cc rfl (fun c23=>?_) (fun c23=>?_)
 ·refine Cs ?_;have hnone:relOf g.rs (Jay x)=none:=by simpa using c23
  refine Cr (Zv (OV.f0 4 rfl T.u29 rfl) (Zv (OV.l1 (v:=.slice a x.args.length c) rfl T.u27 rfl yH rfl) (Zv (OV.ae rfl T.u27) (Zv (OV.bm (j:=1) rfl rfl (by omega)) (WL.cT (ι:=Nat × Nat × Nat) (vs:=[.int .i64 ((x.args.length+1:Nat):Int)]) (vv:=fun z=>.tuple #[ptr z.1,.int .i64 0]) (pp:=fun _=>True) [] (AA:=fun z=>relA (RelG.empty z.1 z.2.1 z.2.2 (x.args.length+1))) rfl (fun w' hw' hH=>(new_calls (x.args.length+1) w').mono (fun en w'' ⟨r,mb,ib,h1,h2⟩=>⟨(r,mb,ib),h1,trivial,h2⟩)) ?_)))));rintro ⟨r,mb,ib⟩ _;obtain ⟨gn,hgn⟩:∃ gn,gn=RelG.empty r mb ib (x.args.length+1):=⟨_,rfl⟩
  have hgr:ptr r=ptr gn.r:=by rw [hgn];rfl
  have hgo:RelOK gn:=by rw [hgn];exact RelOK.empty (by omega)
  have hgw:gn.width=(Jay x).ar+1:=by rw [hgn];rfl
  have hge:gn.es=[]:=by rw [hgn];rfl
  show WL _ _ _ _ _ _ (Sat w (DD (baseA g)) (fun b=>b<w.heap.size∧¬ DD (baseA g) b) w (relA (RelG.empty r mb ib (x.args.length+1))++(oQ b3 (atC x a c) 29::baseA g))) _;rw [← hgn];refine WL.focus (ow':=[oQ b3 (atC x a c) 29]++(tabA g++([rbA g]++(relsA g.rs++(relA gn))))) (pmC [relA gn,[oQ b3 (atC x a c) 29],tabA g,[rbA g],relsA g.rs] [1,2,3,4,0]) ?_;refine Zm rfl (Zv (OV.extract rfl rfl) (Zv (OV.extract rfl rfl) (Za rfl (Za rfl (Nn (Cs (Csr (Zm rfl (Zv (OV.iu rfl rfl) (Nn (WC.bu (show _=some (Value.bool false) from by rfl) ?_)))))))))));refine Ck (Xn (Csr (Zm rfl (Za rfl (Nn (Hd (fun w'=>w'.heap[g.p]?=some (.cells (baseC g).toArray 105 (0,0))∧w'.heap[b3]?=some (.cells (atC x a c).toArray 29 (0,0))) [] (fun _ hw=>⟨hw.it (hdB g) (by simp [tabA]),hw.it (own b3 _) (by simp)⟩) (m:=8) rfl ?_))))));refine Hf 0 rfl (OV.aw rfl) (Hf 1 rfl (OV.ak rfl) (Hf 2 rfl (OV.f0 2 rfl T.u105 rfl) (Ht 3 rfl (OV.ah (v:=.map (some g.rb)) rfl T.u103 rfl (fun _ hw=>(Jax hw.1 (o:=2) rfl).1)) (Ht 4 rfl (OV.ai (cs:=atC x a c) rfl T.u29 rfl T.z29 (fun _ hw j v hj=>by rw [Jap];exact Jch hw.2 (o:=0) (cs':=atC x a c) rfl j v hj)) (Hf 6 rfl (OV.aw rfl) (Ho 5 rfl (fl':=false) rfl ?_))))));refine WL.au (v:=pdV (Jay x)) (by kernel_rfl) rfl rfl (fun w' hw'=>Jkq x a c w') ?_;refine Hc (fun _=>(fun _ hw=>⟨hw.it (hdB g) (by simp [tabA]),hw.it (own b3 _) (by simp)⟩)) ?_;refine Ho 7 rfl (fl':=false) rfl ?_;refine WL.focus (ow':=[rbA g]++([oQ b3 (atC x a c) 29]++(tabA g++(relsA g.rs++(relA gn))))) (pmC [[oQ b3 (atC x a c) 29],tabA g,[rbA g],relsA g.rs,relA gn] [2,0,1,3,4]) ?_;refine WL.mapUpdate (v:=ptr gn.r) pdKey T.u103 rfl rfl (by rw [← hgr];rfl) ?_;rw [relKV_new hnone];refine WL.focus (ow':=[oQ b3 (atC x a c) 29]++(tabA g++([own g.rb (mapK pdV (relKV (g.rs++[(Jay x,gn)])))]++(relsA g.rs++(relA gn))))) (pmC [[own g.rb (mapK pdV (relKV (g.rs++[(Jay x,gn)])))],[oQ b3 (atC x a c) 29],tabA g,relsA g.rs,relA gn] [1,2,0,3,4]) ?_;refine Hc (fun _=>(fun _ hw=>⟨hw.it (hdB g) (by simp [tabA]),hw.it (own b3 _) (by simp)⟩)) ?_;refine He (Xn (Cs ?_));obtain ⟨g1,hg1⟩:∃ g1:BaseG,g1={ g with rs:=g.rs++[(Jay x,gn)] }:=⟨_,rfl⟩
  obtain ⟨gr,hgrn⟩:∃ gr,gr=gn:=⟨_,rfl⟩
  have hp1:g1.p=g.p:=by rw [hg1]
  have hv1:g1.vs=g.vs:=by rw [hg1]
  have ok1:BaseOK g1:=by rw [hg1];exact ok.newRel hnone hgo hgw (by show x.args.length≤8;exact hx8) hge hrl
  have hf1:Jcj g1=Jcj g:=by rw [hg1];exact factsB_newRel hge
  have hrel:relOf g1.rs (Jay x)=some gr:=by rw [hgrn];exact Jne ok1.rn (by rw [hg1];exact xB _ yH)
  have hr1:g1.rs.length≤g.rs.length+1:=by rw [hg1];simp
  refine WC.weak (S':=SatA w (baseA g) (oQ b3 (atC x a c) 29::baseA g1)) (fun w' hw=>hw.perm (List.Perm.of_eq (by rw [hg1];unfold baseA rbA;simp only [relsA_snoc];rfl))) ?_;refine WC.sub (e':=[(0,ptr g1.p),(3,yZ b3),(6,ptr gr.r)]) ⟨by rw [hp1];rfl,rfl,by rw [hgrn,← hgr];rfl,trivial⟩ ?_;refine Hq [5] (m:=8) rfl ?_;refine Hf 0 rfl (OV.aw rfl) (Hf 1 rfl (OV.ak rfl) (Hf 2 rfl (OV.f0 0 rfl T.u105 rfl) (Hf 3 rfl (OV.f0 0 rfl T.u29 rfl) (Ht 4 rfl (OV.ai (cs:=tmC x.b) rfl T.u26 rfl T.z26 (fun _ hw j v hj=>by rw [Jap];exact Jbv hw yH (o:=0) (cs':=tmC x.b) rfl j v hj)) (Ho 5 rfl (fl':=true) rfl ?_)))));refine WL.focus (ow':=tabA g1++((rbA g1::relsA g1.rs)++([oQ b3 (atC x a c) 29]))) (pmC [[oQ b3 (atC x a c) 29],tabA g1,(rbA g1::relsA g1.rs)] [1,2,0]) ?_;refine WL.cT (ι:=Nat × Option Nat × Option Addr × Nat) (vs:=[ptr g1.p,tmV x.b]) (vv:=fun z=>.int .i64 ((z.1:Nat):Int)) (pp:=fun z=>numOf (numX g1.vs x.b) x.b=some z.1∧(z.2.1=none→numX g1.vs x.b=[])) (tabA g1) (AA:=fun z=>tabA (Jf6 g1 z.2.1 z.2.2.1 z.2.2.2 (numX g1.vs x.b))) rfl (fun w' hw' hH=>(Jf8 g1 ok1.nb ok1.vn ok1.vl x.b w' hH).mono (fun en w'' ⟨i,nb,va,vc,h1,h2,h3,h4⟩=>⟨(i,nb,va,vc),h1,⟨h2,h3⟩,h4⟩)) ?_;rintro ⟨k48,nb48,va48,vc48⟩ hpp;obtain ⟨hk48,hnb48⟩:numOf (numX g1.vs x.b) x.b=some k48∧(nb48=none→numX g1.vs x.b=[]):=hpp;refine Hc (fun h=>by cases h) ?_;refine Ho 6 rfl (fl':=true) rfl ?_;refine WL.br (v:=.int .i64 ((k48:Nat):Int)) T.u51 T.z3 T.zr3 rfl rfl rfl ?_;intro b49;refine Hc (fun h=>by cases h) ?_;refine Hf 7 rfl (OV.assign rfl) (He (Xn (Cs (Cs ?_))));have hxb:rowOf (numX g1.vs x.b) [x.b]=some [(k48:Int)]:=by rw [rowOf,hk48];rfl
  have ok3:=Jo7 ok1 (va:=va48) (vc:=vc48) hnb48 (by rw [hv1];omega)
  refine WC.weak (S':=SatA w (baseA g) (row 3 1 (some ⟨b49,0,none⟩) 1 1 [.int .i64 ((k48:Nat):Int)]::oQ b3 (atC x a c) 29::baseA (Jf6 g1 nb48 va48 vc48 (numX g1.vs x.b)))) (fun w' hw=>by
   have h2:=hw.asRow (m:=1) (k:=1) rfl (by decide);exact h2.pik [[row 3 1 (some ⟨b49,0,none⟩) 1 1 [.int .i64 ((k48:Nat):Int)]],tabA (Jf6 g1 nb48 va48 vc48 (numX g1.vs x.b)),(rbA g1::relsA g1.rs),[oQ b3 (atC x a c) 29]] [0,3,1,2] 4) ?_
  refine Cr (Zv (OV.f0 4 rfl T.u29 rfl) (Zv (OV.l1 (v:=.slice a x.args.length c) rfl T.u27 rfl yI rfl) (Zv (OV.ae rfl T.u27) (Zm rfl (Nn (Cb ?_))))))
  refine WC.n4 (fun (i:Nat) (la:Option Addr) (lc:Nat) (l:List Int) (g2:BaseG)=>[(0,ptr g1.p),(3,yZ b3),(6,ptr gr.r),(9,.slice la l.length lc),(51,.slice a x.args.length c),(52,.int .i64 (x.args.length:Int)),(53,.int .i64 (i:Int))])
    (fun i la lc l g2 w'=>(i≤x.args.length∧BaseOK g2∧g2.p=g1.p∧g2.rs=g1.rs∧Jcj g2=Jcj g∧g2.vs.length≤g1.vs.length+1+i∧rowOf g2.vs (x.b::x.args.take i)=some l)∧SatA w (baseA g) (row 3 1 la l.length lc (ints l)::oQ b3 (atC x a c) 29::baseA g2) w')
    (fun i _ _ _ _=>x.args.length - i) 0 (some ⟨b49,0,none⟩) 1 [(k48:Int)] (Jf6 g1 nb48 va48 vc48 (numX g1.vs x.b)) Y7 (fun w' hw=>⟨⟨by omega,ok3,rfl,rfl,by rw [← hf1];exact Jjk ok1 (Jiv _ _),by have:=Jks g1.vs x.b;show (numX g1.vs x.b).length≤_;omega,hxb⟩,hw⟩) ?_
  intro i la lc l g2;refine WC.pure (fun hi=>?_);obtain ⟨hi,ok2,hp2,hrs2,hf2,hvl2,hrow⟩:=hi;have hlen2:=Jif hrow;simp only [List.length_cons,xJ] at hlen2;refine Csr (Zv (OV.cq rfl rfl) (Nn (Cs ?_)));refine Cc rfl (fun c54=>?_) (fun c54=>?_)
  ·refine Ck (Xn (Cs (Cb (Csr ?_))));obtain ⟨q1,t,ha1,ht,htm,_,_⟩:=hr.get (i:=i) (by omega);refine Zv ((OV.ad (a:=q1) (show _=some (Value.slice (some q1) x.args.length c) by rw [← ha1];rfl) rfl T.u27 T.z26 (by omega)).cast (u:=.pointer (some (q1.add (i*3)))) (by rw [xN])) (Zv (OV.ai (cs:=tmC t) rfl T.u26 rfl T.z26 (fun _ hw j v hj=>(hr.satA hne hw).at_ _ ha1 i t ht j v hj)) (WL.alloc T.zr26 rfl ?_));intro b11;refine WL.ag (vs:=tmC t) rfl rfl rfl T.z26 rfl ?_;refine Nn (Hq [5] (m:=9) rfl ?_);refine Hf 0 rfl (OV.aw rfl) (Hf 1 rfl (OV.aw rfl) (Hf 2 rfl (OV.ak rfl) (Hf 3 rfl (OV.f0 0 rfl T.u105 rfl) (Ht 4 rfl (OV.lN (cs:=tmC t) rfl T.u26 rfl T.z26 yH) (Ho 5 rfl (fl':=true) rfl ?_)))));refine WL.focus (ow':=tabA g2++((rbA g2::relsA g2.rs)++([oQ b11 (tmC t) 26]++([row 3 1 la l.length lc (ints l)]++([oQ b3 (atC x a c) 29]))))) (pmC [[oQ b11 (tmC t) 26],[row 3 1 la l.length lc (ints l)],[oQ b3 (atC x a c) 29],tabA g2,(rbA g2::relsA g2.rs)] [3,4,0,1,2]) ?_;refine WL.dl (ι:=Nat × Option Nat × Option Addr × Nat) (vs:=[ptr g2.p,tmV t]) (vv:=fun z=>.int .i64 ((z.1:Nat):Int)) (pp:=fun z=>numOf (numX g2.vs t) t=some z.1∧(z.2.1=none→numX g2.vs t=[])) (tabA g2) (AA:=fun z=>tabA (Jf6 g2 z.2.1 z.2.2.1 z.2.2.2 (numX g2.vs t))) rfl (by kernel_rfl) (by rw [hp2];rfl) rfl (fun w' hw' hH=>(Jf8 g2 ok2.nb ok2.vn ok2.vl t w' hH).mono (fun en w'' ⟨i,nb,va,vc,h1,h2,h3,h4⟩=>⟨(i,nb,va,vc),h1,⟨h2,h3⟩,h4⟩)) ?_;rintro ⟨k62,nb62,va62,vc62⟩ hpp;obtain ⟨hk62,hnb62⟩:numOf (numX g2.vs t) t=some k62∧(nb62=none→numX g2.vs t=[]):=hpp;refine Hc (fun h=>by cases h) ?_;refine Ho 6 rfl (fl':=true) rfl ?_;refine WL.br (v:=.int .i64 ((k62:Nat):Int)) T.u51 T.z3 T.zr3 rfl rfl rfl ?_;intro b63;refine Hc (fun h=>by cases h) ?_;refine Ho 7 rfl (fl':=true) rfl ?_;refine WL.focus (ow':=[row 3 1 la l.length lc (ints l)]++([oQ b63 [Value.int .i64 ((k62:Nat):Int)] 3]++([oQ b3 (atC x a c) 29]++(tabA (Jf6 g2 nb62 va62 vc62 (numX g2.vs t))++((rbA g2::relsA g2.rs)++([oQ b11 (tmC t) 26])))))) (pmC [[oQ b63 [Value.int .i64 ((k62:Nat):Int)] 3],tabA (Jf6 g2 nb62 va62 vc62 (numX g2.vs t)),(rbA g2::relsA g2.rs),[oQ b11 (tmC t) 26],[row 3 1 la l.length lc (ints l)],[oQ b3 (atC x a c) 29]] [4,0,5,1,2,3]) ?_;refine WL.append (news:=[.int .i64 ((k62:Nat):Int)]) rfl rfl T.apI (fun _ _=>Jeg yI rfl) (Jes [(k62:Int)]) ⟨by omega,by unfold maxLen;omega⟩ rfl ?_;intro a64 c64;refine Hc (fun h=>by cases h) ?_;refine Hf 8 rfl (OV.assign rfl) (He (Xb (Xn (Cr (Zv (OV.bm (j:=1) rfl rfl (by omega)) (Zm rfl (Nl ?_)))))));have ok4:=Jo7 ok2 (va:=va62) (vc:=vc62) hnb62 (by rw [hv1] at hvl2;omega);have el:l.length+1=(l++[(k62:Int)]).length:=by simp
   have ef:ints l++[.int .i64 ((k62:Nat):Int)]=ints (l++[(k62:Int)]):=by simp [ints]
   exact WX.lf (i+1) a64 c64 (l++[(k62:Int)]) (Jf6 g2 nb62 va62 vc62 (numX g2.vs t)) ⟨rfl,rfl,rfl,by rw [← el];rfl,rfl,rfl,rfl,trivial⟩ (fun w' hw=>⟨⟨by omega,ok4,hp2,hrs2,by rw [← hf2];exact Jjk ok2 (Jiv _ _),by have:=Jks g2.vs t;show (numX g2.vs t).length≤_;omega,by
    show rowOf (numX g2.vs t) (x.b::x.args.take (i+1))=_;rw [List.take_add_one,ht];exact Jkp hk62 (ts:=x.b::x.args.take i) (Jl0 (Jiv _ _) hrow)⟩,by
    rw [el,ef] at hw;exact hw.pik [[row 3 1 a64 (l++[(k62:Int)]).length c64 (ints (l++[(k62:Int)]))],[oQ b63 [Value.int .i64 ((k62:Nat):Int)] 3],[oQ b3 (atC x a c) 29],tabA (Jf6 g2 nb62 va62 vc62 (numX g2.vs t)),(rbA g2::relsA g2.rs),[oQ b11 (tmC t) 26]] [0,2,3,4] 6⟩) (by show x.args.length - (i+1)<x.args.length - i;omega)
  refine Ce (Xe (Xe (Xh (Xn (Csr (Zm rfl (Zm rfl ?_)))))));obtain ⟨r1,r2,hs2⟩:=relOf_split (show relOf g2.rs (Jay x)=some gr by rw [hrs2];exact hrel);have hmem2:(Jay x,gr)∈g2.rs:=by rw [hs2];exact xB _ yH
  have okr:=ok2.ok _ hmem2;have hrow0:rowOf g2.vs (tsOf x)=some l:=by rw [xK (by omega)] at hrow;exact hrow
  have hll:=Jif hrow0;have hll2:l.length=x.args.length+1:=hll;have hin:=Jl1 hrow0;have hel:=Jk4 g2;rw [hf2,hs2] at hel;simp only [xU,yC,List.sum_append,List.sum_cons] at hel;refine WL.focus (ow':=row 3 1 la l.length lc (ints l)::oQ b3 (atC x a c) 29::(tabA g2++(rbA g2::(relsA r1++(relA gr++relsA r2))))) (List.Perm.of_eq (by rw [← Jez r1 r2 (Jay x) gr,← hs2];rfl)) ?_;refine WL.focus (ow':=relA gr++([row 3 1 la l.length lc (ints l),oQ b3 (atC x a c) 29]++(tabA g2++([rbA g2]++(relsA r1++(relsA r2)))))) (pmC [[row 3 1 la l.length lc (ints l),oQ b3 (atC x a c) 29],tabA g2,[rbA g2],relsA r1,relA gr,relsA r2] [4,0,1,2,3,5]) ?_;refine WL.cT (ι:=RelG) (vs:=[ptr gr.r,.slice la l.length lc]) (vv:=fun _=>.tuple #[.bool (addV gr.width (rp gr) l),.int .i64 (addE gr.width l)]) (pp:=fun q=>rp q=addRP gr.width (rp gr) l∧RelOK q∧RelLe gr q) (relA gr) (AA:=fun q=>relA q) rfl (fun w' hw' hH=>(add_calls gr okr l la l.length lc (inVs_i64 hin ok2.vl) (by omega) (by omega) w' (RI.of_row (c:=lc) hw' (xB _ yH)) (fun b hb _=>Sat.sepO hw' (i:=row 3 1 la l.length lc (ints l)) yH ⟨b,hb,rfl⟩) hH).mono (fun en w'' ⟨h1,g',h2,h3,h4,h5⟩=>⟨g',h1,⟨h2,h3,h4⟩,h5⟩)) ?_;rintro gq hpp;obtain ⟨hrpq,okq,leq⟩:rp gq=addRP gr.width (rp gr) l∧RelOK gq∧RelLe gr gq:=hpp;refine Zv (OV.extract rfl rfl) (Zv (OV.extract rfl rfl) (Za rfl (Za rfl (Nn (WC.az ?_)))));obtain ⟨hv,he,hok,hpm⟩:=add_plain ok2 hf2 hxf hrow0 hs2 hrpq okq leq.width hfl
  refine WX.ret2 rfl rfl rfl rfl (fun w' hw=>⟨by rw [hv,he,hxf,if_pos rfl,Bool.true_and],{ g2 with rs:=r1++(Jay x,gq)::r2 },hok,by show g2.p=g.p;rw [hp2,hp1],hpm,by show g2.vs.length≤_;rw [hv1] at hvl2;omega,by
   show (r1++(Jay x,gq)::r2).length≤_;have:(r1++(Jay x,gr)::r2).length≤g.rs.length+1:=by rw [← hs2,hrs2];exact hr1
   simpa using this,?_⟩)
  have hkv:relKV g2.rs=relKV (r1++(Jay x,gq)::r2):=by rw [hs2];simp [relKV,leq.r]
  have h2:=hw.pik [relA gq,[row 3 1 la l.length lc (ints l),oQ b3 (atC x a c) 29],tabA g2,[rbA g2],relsA r1,relsA r2] [2,3,4,0,5] 6;refine Hw.Sat.turned (h2.perm (List.Perm.of_eq ?_));unfold baseA rbA;simp only [Jez,← hkv];rfl
 refine Ck (Xn (Cs ?_))
 obtain ⟨gr,hrel⟩:∃ gr,relOf g.rs (Jay x)=some gr:=by
  cases hq:relOf g.rs (Jay x) with
  | none=>rw [hq] at c23;simp at c23
  | some gr=>exact ⟨gr,rfl⟩
 obtain ⟨g1,hg1⟩:∃ g1:BaseG,g1=g:=⟨_,rfl⟩
 have hp1:g1.p=g.p:=by rw [hg1]
 have hv1:g1.vs=g.vs:=by rw [hg1]
 have ok1:BaseOK g1:=by rw [hg1];exact ok
 have hf1:Jcj g1=Jcj g:=by rw [hg1]
 have hr1:g1.rs.length≤g.rs.length+1:=by rw [hg1];omega
 have hrel0:=hrel;rw [← hg1] at hrel;refine WC.weak (S':=SatA w (baseA g) (oQ b3 (atC x a c) 29::baseA g1)) (fun w' hw=>by rw [hg1];exact hw) ?_;refine WC.sub (e':=[(0,ptr g1.p),(3,yZ b3),(6,ptr gr.r)]) ⟨by rw [hp1];rfl,rfl,by rw [hrel0];rfl,trivial⟩ ?_;refine Hq [5] (m:=8) rfl ?_;refine Hf 0 rfl (OV.aw rfl) (Hf 1 rfl (OV.ak rfl) (Hf 2 rfl (OV.f0 0 rfl T.u105 rfl) (Hf 3 rfl (OV.f0 0 rfl T.u29 rfl) (Ht 4 rfl (OV.ai (cs:=tmC x.b) rfl T.u26 rfl T.z26 (fun _ hw j v hj=>by rw [Jap];exact Jbv hw yH (o:=0) (cs':=tmC x.b) rfl j v hj)) (Ho 5 rfl (fl':=true) rfl ?_)))));refine WL.focus (ow':=tabA g1++((rbA g1::relsA g1.rs)++([oQ b3 (atC x a c) 29]))) (pmC [[oQ b3 (atC x a c) 29],tabA g1,(rbA g1::relsA g1.rs)] [1,2,0]) ?_;refine WL.cT (ι:=Nat × Option Nat × Option Addr × Nat) (vs:=[ptr g1.p,tmV x.b]) (vv:=fun z=>.int .i64 ((z.1:Nat):Int)) (pp:=fun z=>numOf (numX g1.vs x.b) x.b=some z.1∧(z.2.1=none→numX g1.vs x.b=[])) (tabA g1) (AA:=fun z=>tabA (Jf6 g1 z.2.1 z.2.2.1 z.2.2.2 (numX g1.vs x.b))) rfl (fun w' hw' hH=>(Jf8 g1 ok1.nb ok1.vn ok1.vl x.b w' hH).mono (fun en w'' ⟨i,nb,va,vc,h1,h2,h3,h4⟩=>⟨(i,nb,va,vc),h1,⟨h2,h3⟩,h4⟩)) ?_;rintro ⟨k48,nb48,va48,vc48⟩ hpp;obtain ⟨hk48,hnb48⟩:numOf (numX g1.vs x.b) x.b=some k48∧(nb48=none→numX g1.vs x.b=[]):=hpp;refine Hc (fun h=>by cases h) ?_;refine Ho 6 rfl (fl':=true) rfl ?_;refine WL.br (v:=.int .i64 ((k48:Nat):Int)) T.u51 T.z3 T.zr3 rfl rfl rfl ?_;intro b49;refine Hc (fun h=>by cases h) ?_;refine Hf 7 rfl (OV.assign rfl) (He (Xn (Cs (Cs ?_))));have hxb:rowOf (numX g1.vs x.b) [x.b]=some [(k48:Int)]:=by rw [rowOf,hk48];rfl
 have ok3:=Jo7 ok1 (va:=va48) (vc:=vc48) hnb48 (by rw [hv1];omega)
 refine WC.weak (S':=SatA w (baseA g) (row 3 1 (some ⟨b49,0,none⟩) 1 1 [.int .i64 ((k48:Nat):Int)]::oQ b3 (atC x a c) 29::baseA (Jf6 g1 nb48 va48 vc48 (numX g1.vs x.b)))) (fun w' hw=>by
  have h2:=hw.asRow (m:=1) (k:=1) rfl (by decide);exact h2.pik [[row 3 1 (some ⟨b49,0,none⟩) 1 1 [.int .i64 ((k48:Nat):Int)]],tabA (Jf6 g1 nb48 va48 vc48 (numX g1.vs x.b)),(rbA g1::relsA g1.rs),[oQ b3 (atC x a c) 29]] [0,3,1,2] 4) ?_
 refine Cr (Zv (OV.f0 4 rfl T.u29 rfl) (Zv (OV.l1 (v:=.slice a x.args.length c) rfl T.u27 rfl yI rfl) (Zv (OV.ae rfl T.u27) (Zm rfl (Nn (Cb ?_))))))
 refine WC.n4 (fun (i:Nat) (la:Option Addr) (lc:Nat) (l:List Int) (g2:BaseG)=>[(0,ptr g1.p),(3,yZ b3),(6,ptr gr.r),(9,.slice la l.length lc),(51,.slice a x.args.length c),(52,.int .i64 (x.args.length:Int)),(53,.int .i64 (i:Int))])
   (fun i la lc l g2 w'=>(i≤x.args.length∧BaseOK g2∧g2.p=g1.p∧g2.rs=g1.rs∧Jcj g2=Jcj g∧g2.vs.length≤g1.vs.length+1+i∧rowOf g2.vs (x.b::x.args.take i)=some l)∧SatA w (baseA g) (row 3 1 la l.length lc (ints l)::oQ b3 (atC x a c) 29::baseA g2) w')
   (fun i _ _ _ _=>x.args.length - i) 0 (some ⟨b49,0,none⟩) 1 [(k48:Int)] (Jf6 g1 nb48 va48 vc48 (numX g1.vs x.b)) Y7 (fun w' hw=>⟨⟨by omega,ok3,rfl,rfl,by rw [← hf1];exact Jjk ok1 (Jiv _ _),by have:=Jks g1.vs x.b;show (numX g1.vs x.b).length≤_;omega,hxb⟩,hw⟩) ?_
 intro i la lc l g2;refine WC.pure (fun hi=>?_);obtain ⟨hi,ok2,hp2,hrs2,hf2,hvl2,hrow⟩:=hi;have hlen2:=Jif hrow;simp only [List.length_cons,xJ] at hlen2;refine Csr (Zv (OV.cq rfl rfl) (Nn (Cs ?_)));refine Cc rfl (fun c54=>?_) (fun c54=>?_)
 ·refine Ck (Xn (Cs (Cb (Csr ?_))));obtain ⟨q1,t,ha1,ht,htm,_,_⟩:=hr.get (i:=i) (by omega);refine Zv ((OV.ad (a:=q1) (show _=some (Value.slice (some q1) x.args.length c) by rw [← ha1];rfl) rfl T.u27 T.z26 (by omega)).cast (u:=.pointer (some (q1.add (i*3)))) (by rw [xN])) (Zv (OV.ai (cs:=tmC t) rfl T.u26 rfl T.z26 (fun _ hw j v hj=>(hr.satA hne hw).at_ _ ha1 i t ht j v hj)) (WL.alloc T.zr26 rfl ?_));intro b11;refine WL.ag (vs:=tmC t) rfl rfl rfl T.z26 rfl ?_;refine Nn (Hq [5] (m:=9) rfl ?_);refine Hf 0 rfl (OV.aw rfl) (Hf 1 rfl (OV.aw rfl) (Hf 2 rfl (OV.ak rfl) (Hf 3 rfl (OV.f0 0 rfl T.u105 rfl) (Ht 4 rfl (OV.lN (cs:=tmC t) rfl T.u26 rfl T.z26 yH) (Ho 5 rfl (fl':=true) rfl ?_)))));refine WL.focus (ow':=tabA g2++((rbA g2::relsA g2.rs)++([oQ b11 (tmC t) 26]++([row 3 1 la l.length lc (ints l)]++([oQ b3 (atC x a c) 29]))))) (pmC [[oQ b11 (tmC t) 26],[row 3 1 la l.length lc (ints l)],[oQ b3 (atC x a c) 29],tabA g2,(rbA g2::relsA g2.rs)] [3,4,0,1,2]) ?_;refine WL.dl (ι:=Nat × Option Nat × Option Addr × Nat) (vs:=[ptr g2.p,tmV t]) (vv:=fun z=>.int .i64 ((z.1:Nat):Int)) (pp:=fun z=>numOf (numX g2.vs t) t=some z.1∧(z.2.1=none→numX g2.vs t=[])) (tabA g2) (AA:=fun z=>tabA (Jf6 g2 z.2.1 z.2.2.1 z.2.2.2 (numX g2.vs t))) rfl (by kernel_rfl) (by rw [hp2];rfl) rfl (fun w' hw' hH=>(Jf8 g2 ok2.nb ok2.vn ok2.vl t w' hH).mono (fun en w'' ⟨i,nb,va,vc,h1,h2,h3,h4⟩=>⟨(i,nb,va,vc),h1,⟨h2,h3⟩,h4⟩)) ?_;rintro ⟨k62,nb62,va62,vc62⟩ hpp;obtain ⟨hk62,hnb62⟩:numOf (numX g2.vs t) t=some k62∧(nb62=none→numX g2.vs t=[]):=hpp;refine Hc (fun h=>by cases h) ?_;refine Ho 6 rfl (fl':=true) rfl ?_;refine WL.br (v:=.int .i64 ((k62:Nat):Int)) T.u51 T.z3 T.zr3 rfl rfl rfl ?_;intro b63;refine Hc (fun h=>by cases h) ?_;refine Ho 7 rfl (fl':=true) rfl ?_;refine WL.focus (ow':=[row 3 1 la l.length lc (ints l)]++([oQ b63 [Value.int .i64 ((k62:Nat):Int)] 3]++([oQ b3 (atC x a c) 29]++(tabA (Jf6 g2 nb62 va62 vc62 (numX g2.vs t))++((rbA g2::relsA g2.rs)++([oQ b11 (tmC t) 26])))))) (pmC [[oQ b63 [Value.int .i64 ((k62:Nat):Int)] 3],tabA (Jf6 g2 nb62 va62 vc62 (numX g2.vs t)),(rbA g2::relsA g2.rs),[oQ b11 (tmC t) 26],[row 3 1 la l.length lc (ints l)],[oQ b3 (atC x a c) 29]] [4,0,5,1,2,3]) ?_;refine WL.append (news:=[.int .i64 ((k62:Nat):Int)]) rfl rfl T.apI (fun _ _=>Jeg yI rfl) (Jes [(k62:Int)]) ⟨by omega,by unfold maxLen;omega⟩ rfl ?_;intro a64 c64;refine Hc (fun h=>by cases h) ?_;refine Hf 8 rfl (OV.assign rfl) (He (Xb (Xn (Cr (Zv (OV.bm (j:=1) rfl rfl (by omega)) (Zm rfl (Nl ?_)))))));have ok4:=Jo7 ok2 (va:=va62) (vc:=vc62) hnb62 (by rw [hv1] at hvl2;omega);have el:l.length+1=(l++[(k62:Int)]).length:=by simp
  have ef:ints l++[.int .i64 ((k62:Nat):Int)]=ints (l++[(k62:Int)]):=by simp [ints]
  exact WX.lf (i+1) a64 c64 (l++[(k62:Int)]) (Jf6 g2 nb62 va62 vc62 (numX g2.vs t)) ⟨rfl,rfl,rfl,by rw [← el];rfl,rfl,rfl,rfl,trivial⟩ (fun w' hw=>⟨⟨by omega,ok4,hp2,hrs2,by rw [← hf2];exact Jjk ok2 (Jiv _ _),by have:=Jks g2.vs t;show (numX g2.vs t).length≤_;omega,by
   show rowOf (numX g2.vs t) (x.b::x.args.take (i+1))=_;rw [List.take_add_one,ht];exact Jkp hk62 (ts:=x.b::x.args.take i) (Jl0 (Jiv _ _) hrow)⟩,by
   rw [el,ef] at hw;exact hw.pik [[row 3 1 a64 (l++[(k62:Int)]).length c64 (ints (l++[(k62:Int)]))],[oQ b63 [Value.int .i64 ((k62:Nat):Int)] 3],[oQ b3 (atC x a c) 29],tabA (Jf6 g2 nb62 va62 vc62 (numX g2.vs t)),(rbA g2::relsA g2.rs),[oQ b11 (tmC t) 26]] [0,2,3,4] 6⟩) (by show x.args.length - (i+1)<x.args.length - i;omega)
 refine Ce (Xe (Xe (Xh (Xn (Csr (Zm rfl (Zm rfl ?_)))))));obtain ⟨r1,r2,hs2⟩:=relOf_split (show relOf g2.rs (Jay x)=some gr by rw [hrs2];exact hrel);have hmem2:(Jay x,gr)∈g2.rs:=by rw [hs2];exact xB _ yH
 have okr:=ok2.ok _ hmem2;have hrow0:rowOf g2.vs (tsOf x)=some l:=by rw [xK (by omega)] at hrow;exact hrow
 have hll:=Jif hrow0;have hll2:l.length=x.args.length+1:=hll;have hin:=Jl1 hrow0;have hel:=Jk4 g2;rw [hf2,hs2] at hel;simp only [xU,yC,List.sum_append,List.sum_cons] at hel;refine WL.focus (ow':=row 3 1 la l.length lc (ints l)::oQ b3 (atC x a c) 29::(tabA g2++(rbA g2::(relsA r1++(relA gr++relsA r2))))) (List.Perm.of_eq (by rw [← Jez r1 r2 (Jay x) gr,← hs2];rfl)) ?_;refine WL.focus (ow':=relA gr++([row 3 1 la l.length lc (ints l),oQ b3 (atC x a c) 29]++(tabA g2++([rbA g2]++(relsA r1++(relsA r2)))))) (pmC [[row 3 1 la l.length lc (ints l),oQ b3 (atC x a c) 29],tabA g2,[rbA g2],relsA r1,relA gr,relsA r2] [4,0,1,2,3,5]) ?_;refine WL.cT (ι:=RelG) (vs:=[ptr gr.r,.slice la l.length lc]) (vv:=fun _=>.tuple #[.bool (addV gr.width (rp gr) l),.int .i64 (addE gr.width l)]) (pp:=fun q=>rp q=addRP gr.width (rp gr) l∧RelOK q∧RelLe gr q) (relA gr) (AA:=fun q=>relA q) rfl (fun w' hw' hH=>(add_calls gr okr l la l.length lc (inVs_i64 hin ok2.vl) (by omega) (by omega) w' (RI.of_row (c:=lc) hw' (xB _ yH)) (fun b hb _=>Sat.sepO hw' (i:=row 3 1 la l.length lc (ints l)) yH ⟨b,hb,rfl⟩) hH).mono (fun en w'' ⟨h1,g',h2,h3,h4,h5⟩=>⟨g',h1,⟨h2,h3,h4⟩,h5⟩)) ?_;rintro gq hpp;obtain ⟨hrpq,okq,leq⟩:rp gq=addRP gr.width (rp gr) l∧RelOK gq∧RelLe gr gq:=hpp;refine Zv (OV.extract rfl rfl) (Zv (OV.extract rfl rfl) (Za rfl (Za rfl (Nn (WC.az ?_)))));obtain ⟨hv,he,hok,hpm⟩:=add_plain ok2 hf2 hxf hrow0 hs2 hrpq okq leq.width hfl
 refine WX.ret2 rfl rfl rfl rfl (fun w' hw=>⟨by rw [hv,he,hxf,if_pos rfl,Bool.true_and],{ g2 with rs:=r1++(Jay x,gq)::r2 },hok,by show g2.p=g.p;rw [hp2,hp1],hpm,by show g2.vs.length≤_;rw [hv1] at hvl2;omega,by
  show (r1++(Jay x,gq)::r2).length≤_;have:(r1++(Jay x,gr)::r2).length≤g.rs.length+1:=by rw [← hs2,hrs2];exact hr1
  simpa using this,?_⟩)
 have hkv:relKV g2.rs=relKV (r1++(Jay x,gq)::r2):=by rw [hs2];simp [relKV,leq.r]
 have h2:=hw.pik [relA gq,[row 3 1 la l.length lc (ints l),oQ b3 (atC x a c) 29],tabA g2,[rbA g2],relsA r1,relsA r2] [2,3,4,0,5] 6;refine Hw.Sat.turned (h2.perm (List.Perm.of_eq ?_));unfold baseA rbA;simp only [Jez,← hkv];rfl
theorem ofInt_wrap (z:Int):BitVec.ofInt 64 (IntKind.i64.wrap z)=BitVec.ofInt 64 z:=by
 apply BitVec.eq_of_toNat_eq;rw [BitVec.toNat_ofInt,BitVec.toNat_ofInt]
 have h:IntKind.i64.wrap z=if 9223372036854775808≤z % 18446744073709551616 then z % 18446744073709551616 - 18446744073709551616 else z % 18446744073709551616:=by
  unfold IntKind.wrap;simp [IntKind.bits,IntKind.signed]
 rw [h];congr 1;simp only [Nat.reducePow]
 split <;> omega
theorem inP_and (parts:Int){n:Nat}(hn:n=1∨n=2∨n=4):inP (bits .and .i64 parts 7) n=inP parts n:=by
 have h:bits .and .i64 (bits .and .i64 parts 7) (n:Int)=bits .and .i64 parts (n:Int):=by
  show IntKind.i64.wrap (((BitVec.ofInt 64 (IntKind.i64.wrap (((BitVec.ofInt 64 parts &&& BitVec.ofInt 64 7).toNat:Nat):Int)) &&& BitVec.ofInt 64 (n:Int)).toNat:Nat):Int)=IntKind.i64.wrap (((BitVec.ofInt 64 parts &&& BitVec.ofInt 64 (n:Int)).toNat:Nat):Int);rw [ofInt_wrap];have h0:∀ c:BitVec 64,BitVec.ofInt 64 ((c.toNat:Nat):Int)=c:=fun c=>by apply BitVec.eq_of_toNat_eq;simp
  rw [h0,BitVec.and_assoc];rcases hn with rfl | rfl | rfl <;> rfl
 unfold inP;rw [h]
def selF (F:List (At × Nat))(parts:Int):List At:=(F.filter fun q=>inP parts q.2).map (·.1)
theorem facts_nodup {g:BaseG}(ok:BaseOK g):((Jcj g).map (·.1)).Nodup:=by
 have e:(Jcj g).map (·.1)=g.rs.flatMap fun x=>(rp x.2).map fun q=>Jbs g.vs x.1 q.1:=by
  unfold Jcj;rw [List.map_flatMap];simp [List.map_map,Function.comp_def]
 rw [e];show List.Pairwise _ _;rw [List.pairwise_flatMap];constructor
 ·intro x hx;rw [List.pairwise_map];have h1:=(ok.ok x hx).rows;have h2:((rp x.2).map (·.1)).Nodup:=by simpa [rp,List.map_map,Function.comp_def] using h1
  unfold List.Nodup at h2;rw [List.pairwise_map] at h2;refine List.Pairwise.imp_of_mem (fun {a b} ha hb hab e=>?_) h2;obtain ⟨a1,a2⟩:=Jgp ok hx ha;obtain ⟨b1,b2⟩:=Jgp ok hx hb;obtain ⟨_,h3⟩:=(Jlc ok.vn a2 a1 _).1 e;have h4:=(Jlc ok.vn b2 b1 (Jbs g.vs x.1 b.1)).1 rfl;exact hab (xH (h3.symm.trans h4.2))
 ·have h1:g.rs.Pairwise fun a b=>a.1≠b.1:=by have:=ok.rn;unfold List.Nodup at this;rw [List.pairwise_map] at this;exact this
  refine List.Pairwise.imp_of_mem (fun {a b} ha hb hab x hx y hy e=>?_) h1;obtain ⟨q,hq,rfl⟩:=List.mem_map.1 hx;obtain ⟨z,hz,rfl⟩:=List.mem_map.1 hy;obtain ⟨a1,a2⟩:=Jgp ok ha hq;obtain ⟨b1,b2⟩:=Jgp ok hb hz;have h2:=Jgq (vs:=g.vs) a1;have h3:=Jgq (vs:=g.vs) b1;rw [e,h3] at h2;exact hab h2.symm
def visL {α:Type}(rs:List α)(vis:List Nat):List α:=vis.filterMap fun i=>rs[i]?
theorem Ji7 {α:Type}{rs:List α}{vis:List Nat}{i:Nat}{x:α}(h:rs[i]?=some x):visL rs (vis++[i])=visL rs vis++[x]:=by
 unfold visL;rw [List.filterMap_append];simp [h]
theorem Jl3 {α:Type}:∀ rs:List α,(List.range rs.length).filterMap (fun i=>rs[i]?)=rs
 | []=>rfl
 | x::t=>by
  rw [List.length_cons,List.range_succ_eq_map,List.filterMap_cons];simp only [List.getElem?_cons_zero,List.filterMap_map,Function.comp_def,List.getElem?_cons_succ];rw [Jl3 t]
theorem visL_all {α:Type}{rs:List α}{vis:List Nat}(hn:vis.Nodup)(hl:∀ i∈vis,i<rs.length)(ha:∀ i,i<rs.length→i∈vis):(visL rs vis).Perm rs:=by
 have h1:vis.Perm (List.range rs.length):=(List.perm_ext_iff_of_nodup hn List.nodup_range).2 fun i=>⟨fun h=>List.mem_range.2 (hl i h),fun h=>ha i (List.mem_range.1 h)⟩
 have h2:=h1.filterMap fun i=>rs[i]?
 exact h2.trans (List.Perm.of_eq (Jl3 rs))
structure Vs {α:Type} (rs:List α) (vis:List Nat):Prop where
 nd:vis.Nodup
 lt:∀ i∈vis,i<rs.length
theorem Vs.start {α:Type}(rs:List α):Vs rs []:=⟨.nil,fun i hi=>by cases hi⟩
theorem Vs.step {α:Type}{rs:List α}{vis:List Nat}(h:Vs rs vis){i:Nat}(hi:i<rs.length)(hv:i∉vis):Vs rs (vis++[i]):=by
 refine ⟨?_,fun j hj=>?_⟩
 ·rw [List.nodup_append];exact ⟨h.nd,by simp,fun a ha b hb=>by simp only [xI] at hb;subst hb;exact fun e=>hv (e ▸ ha)⟩
 ·rcases List.mem_append.1 hj with h1 | h1
  ·exact h.lt j h1
  ·simp only [xI] at h1;subst h1;exact hi
theorem Vs.all {α:Type}{rs:List α}{vis:List Nat}(h:Vs rs vis)(ha:∀ i,i<rs.length→i∈vis):(visL rs vis).Perm rs:=visL_all h.nd h.lt ha
theorem Jj6 (rs:List (Pd × RelG)):(relKV rs).length=rs.length:=by simp [relKV]
theorem relKV_get {rs:List (Pd × RelG)}{i:Nat}{q:Pd × Value}(h:(relKV rs)[i]?=some q):∃ x,rs[i]?=some x∧x∈rs∧q=(x.1,ptr x.2.r)∧i<rs.length:=by
 rw [relKV,xG,Option.map_eq_some_iff] at h;obtain ⟨x,hx,rfl⟩:=h;exact ⟨x,hx,xC hx,rfl,(List.getElem?_eq_some_iff.1 hx).1⟩
theorem Joh:∀ {l m:List Nat},l.Sublist m→l.sum≤m.sum
 | _,_,.slnil=>Nat.le_refl _
 | _,_,.cons a h=>by have:=Joh h;simp only [List.sum_cons];omega
 | _,_,.cons_cons a h=>by have:=Joh h;simp only [List.sum_cons];omega
theorem vis_le {α:Type}{rs:List α}{vis:List Nat}{f f2:α→Nat}(hf:∀ x,f x≤f2 x)(h:Vs rs vis):((visL rs vis).map f).sum≤(rs.map f2).sum:=by
 have h1:((visL rs vis).map f).sum≤((visL rs vis).map f2).sum:=by
  generalize visL rs vis=l
  induction l with
  | nil=>simp
  | cons x l ih=>have:=hf x;simp only [yC,List.sum_cons];omega
 have h2:vis.Perm ((List.range rs.length).filter fun i=>decide (i∈vis)):=(List.perm_ext_iff_of_nodup h.nd (List.nodup_range.filter _)).2 fun i=>by
  simp only [List.mem_filter,List.mem_range,decide_eq_true_eq];exact ⟨fun hi=>⟨h.lt i hi,hi⟩,fun hi=>hi.2⟩
 have h3:((visL rs vis).map f2).sum=(((visL rs ((List.range rs.length).filter fun i=>decide (i∈vis)))).map f2).sum:=((h2.filterMap _).map f2).sum_nat
 have h4:(visL rs ((List.range rs.length).filter fun i=>decide (i∈vis))).Sublist rs:=by
  have h5:(visL rs ((List.range rs.length).filter fun i=>decide (i∈vis))).Sublist (visL rs (List.range rs.length)):=List.filter_sublist.filterMap _;rwa [show visL rs (List.range rs.length)=rs from Jl3 rs] at h5
 have h6:=Joh (h4.map f2);omega
def turnF (F:List (At × Nat)):List (At × Nat):=F.map fun q=>(q.1,if q.2=4 then 2 else 1)
def n4F (F:List (At × Nat)):Nat:=(F.filter fun q=>decide (q.2=4)).length
def turnV (rs:List (Pd × RelG))(vis:List Nat):List (Pd × RelG):=rs.mapIdx fun i x=>if i∈vis then (x.1,turnG x.2) else x
theorem turnV_nil (rs:List (Pd × RelG)):turnV rs []=rs:=by
 apply List.ext_getElem?;intro i;simp [turnV]
theorem Jj3 (rs:List (Pd × RelG))(vis:List Nat)(i:Nat):(turnV rs vis)[i]?=(rs[i]?).map fun x=>if i∈vis then (x.1,turnG x.2) else x:=by simp [turnV]
theorem turnV_kv (rs:List (Pd × RelG))(vis:List Nat):relKV (turnV rs vis)=relKV rs:=by
 apply List.ext_getElem?;intro i;simp only [relKV,xG,Jj3];cases rs[i]? with
 | none=>rfl
 | some x=>simp only [Option.map_some];split <;> rfl
theorem turnV_step {rs:List (Pd × RelG)}{vis:List Nat}{i:Nat}{x:Pd × RelG}(hx:rs[i]?=some x)(hv:i∉vis):∃ r1 r2,turnV rs vis=r1++x::r2∧turnV rs (vis++[i])=r1++(x.1,turnG x.2)::r2:=by
 have h1:(turnV rs vis)[i]?=some x:=by rw [Jj3,hx,Option.map_some,if_neg hv]
 obtain ⟨r1,r2,he,hl⟩:=Jlv h1;refine ⟨r1,r2,he,?_⟩;apply List.ext_getElem?;intro j;have h2:(turnV rs vis)[j]?=(r1++x::r2)[j]?:=by rw [he]
 rw [Jj3] at h2 ⊢;rcases Nat.lt_trichotomy j i with h | h | h
 ·rw [List.getElem?_append_left (by omega)] at h2 ⊢;rw [← h2];have:(j∈vis++[i])↔j∈vis:=by simp;omega
  simp only [this]
 ·subst h;rw [hx,Option.map_some,if_pos (by simp),List.getElem?_append_right (by omega),hl,Nat.sub_self];rfl
 ·rw [List.getElem?_append_right (by omega)] at h2 ⊢;obtain ⟨k,hk⟩:∃ k,j - r1.length=k+1:=⟨j - r1.length - 1,by omega⟩
  rw [hk,List.getElem?_cons_succ] at h2 ⊢;rw [← h2];have:(j∈vis++[i])↔j∈vis:=by simp;omega
  simp only [this]
theorem turnV_all {rs:List (Pd × RelG)}{vis:List Nat}(h:∀ i,i<rs.length→i∈vis):turnV rs vis=rs.map fun x=>(x.1,turnG x.2):=by
 apply List.ext_getElem?;intro i;rw [Jj3,xG]
 by_cases hi:i<rs.length
 ·rw [xD hi,Option.map_some,Option.map_some,if_pos (h i hi)]
 ·rw [xV (by omega)];rfl
theorem rp_turnG (g:RelG):rp (turnG g)=(rp g).map fun p=>(p.1,if p.2=4 then 2 else 1):=by
 simp [rp,turnG,turnE]
theorem ns_len4 {g:RelG}(ok:RelOK g):g.ns.length=((rp g).filter fun q=>decide (q.2=4)).length:=by
 rw [ok.ns,xE,rp,List.filter_map,xE];rfl
abbrev turnB (g:BaseG):BaseG:={ g with rs:=g.rs.map fun x=>(x.1,turnG x.2) }
theorem factsB_turn (g:BaseG):Jcj (turnB g)=turnF (Jcj g):=by
 unfold Jcj turnF;show (g.rs.map _).flatMap _=_;rw [List.flatMap_map,List.map_flatMap];congr 1;funext x;rw [rp_turnG,List.map_map,List.map_map];rfl
theorem turnB_ok {g:BaseG}(ok:BaseOK g):BaseOK (turnB g) where
 nb:=ok.nb
 vn:=ok.vn
 rn:=by
  show ((g.rs.map fun x=>(x.1,turnG x.2)).map (·.1)).Nodup;rw [List.map_map];exact ok.rn
 ok x hx:=by obtain ⟨y,hy,rfl⟩:=List.mem_map.1 hx;exact turnG_ok (ok.ok y hy)
 wd x hx:=by obtain ⟨y,hy,rfl⟩:=List.mem_map.1 hx;exact ok.wd y hy
 ar x hx:=by obtain ⟨y,hy,rfl⟩:=List.mem_map.1 hx;exact ok.ar y hy
 inr x hx r hr:=by
  obtain ⟨y,hy,rfl⟩:=List.mem_map.1 hx;rw [rp_turnG,List.map_map] at hr;exact ok.inr y hy r hr
 vl:=ok.vl
 rl:=by show (g.rs.map _).length≤_;rw [xE];exact ok.rl
 fl:=by
  show ((g.rs.map _).map _).sum≤_;rw [List.map_map];have e:((fun x:Pd × RelG=>x.2.es.length) ∘ fun x:Pd × RelG=>(x.1,turnG x.2))=fun x:Pd × RelG=>x.2.es.length:=by funext x;simp [turnG]
  rw [e];exact ok.fl
theorem n4_sum (g:BaseG):n4F (Jcj g)=(g.rs.map fun x=>((rp x.2).filter fun q=>decide (q.2=4)).length).sum:=by
 unfold n4F Jcj;rw [List.filter_flatMap,List.length_flatMap];congr 1;refine List.map_congr_left fun x _=>?_
 rw [List.filter_map,xE];rfl
theorem bturn_calls (g:BaseG)(ok:BaseOK g)(w:World)(hA:Holds (baseA g) w):Calls Tryz.prog 17 #[ptr g.p] w fun e w'=>e=.returned (.int .i64 ((n4F (Jcj g):Nat):Int))∧Turns (baseA g) (baseA (turnB g)) w w':=by
 refine Jdt hA (args:=[ptr g.p]) Tryz.func17 rfl Tryz.ntmps17 rfl rfl ?_;refine Csr (Za rfl (Nn (Csr (Za rfl (Nn (Cs (Csr (Zm rfl (Zv (OV.ak rfl) (Zv (OV.f0 2 rfl T.u105 rfl) (Zv (OV.l1 (v:=.map (some g.rb)) rfl T.u103 rfl yH rfl) (WL.range T.u103 rfl (fun _ hw=>Je7 (kv:=relKV g.rs) (xB _ yH) _ hw) rfl ?_))))))))))));intro it10;refine Nn (Cb (WC.weak (S':=SatA w (baseA g) (own it10 (iterK g.rb (relKV g.rs).length [])::(tabA g++(rbA g::relsA (turnV g.rs []))))) (fun w' hw=>by rw [turnV_nil];exact hw) ?_))
 refine WC.cm (fun (vis:List Nat)=>[(0,ptr g.p),(3,.int .i64 ((((visL g.rs vis).map fun x=>((rp x.2).filter fun q=>decide (q.2=4)).length).sum:Nat):Int)),(10,yZ it10)])
   (fun vis w'=>Vs g.rs vis∧SatA w (baseA g) (own it10 (iterK g.rb (relKV g.rs).length vis)::(tabA g++(rbA g::relsA (turnV g.rs vis)))) w') (fun vis=>unseen (relKV g.rs).length vis) [] Y3 (fun w' hw=>⟨Vs.start _,hw⟩) ?_
 intro vis;refine WC.pure (fun hvs=>?_);refine Csr ?_;refine WL.next (enc:=pdV) (kv:=relKV g.rs) rfl rfl (fun _ hw=>Je7 (yV (xB _ yH)) _ hw) ?_ ?_
 ·intro hall;refine Zv (OV.extract rfl rfl) (Nn (Cs (WC.bu rfl ?_)));refine Ce (Xe (Xe (Xh (Xn (Csr (Zm rfl (Za rfl (Nn (WC.az ?_)))))))));have hal:∀ i,i<g.rs.length→i∈vis:=fun i hi=>hall i (by rw [Jj6];exact hi)
  refine WX.ret1 rfl rfl rfl (fun w' hw=>⟨by rw [n4_sum,((hvs.all hal).map _).sum_nat],?_⟩);refine Hw.Sat.turned (hw.drop.perm (List.Perm.of_eq ?_));have hk:=turnV_kv g.rs vis;rw [turnV_all hal] at hk ⊢;unfold baseA rbA;rw [show relKV (turnB g).rs=relKV g.rs from hk];rfl
 intro i q hi2 hv;obtain ⟨x,hx,hxm,rfl,hil⟩:=relKV_get hi2;refine Zv (OV.extract rfl rfl) (Nn (Cs (WC.co rfl ?_)));refine Ck (Xn (Cb (Csr (Zv (OV.entry (enc:=pdV) (kv:=relKV g.rs) (i:=i) rfl (fun _ hw=>hw.it _ yH) (fun _ hw=>Je7 (yV (xB _ yH)) _ hw) hi2) (Zv (OV.extract rfl rfl) (Za rfl (Nn (Cr (Zm rfl (Zm rfl ?_))))))))));have okr:=ok.ok _ hxm;obtain ⟨r1,r2,hr1,hr2⟩:=turnV_step hx hv
 have hbd:((visL g.rs vis).map fun x=>((rp x.2).filter fun q=>decide (q.2=4)).length).sum+x.2.ns.length≤1099511627776:=by
  have h1:=vis_le (f:=fun x:Pd × RelG=>((rp x.2).filter fun q=>decide (q.2=4)).length) (f2:=fun x=>x.2.es.length) (fun y=>by have:=List.length_filter_le (fun q:List Int × Nat=>decide (q.2=4)) (rp y.2);rw [Jly] at this;exact this) (hvs.step hil hv);rw [Ji7 hx,xU,List.sum_append] at h1;have:=ok.fl;rw [ns_len4 okr];simp only [yC,yD,List.sum_cons,List.sum_nil] at h1;omega
 refine WL.focus (ow':=own it10 (iterK g.rb (relKV g.rs).length (vis++[i]))::(tabA g++(rbA g::(relsA r1++(relA x.2++relsA r2))))) (List.Perm.of_eq (by rw [hr1,show x=(x.1,x.2) from rfl,Jez])) ?_;refine WL.focus (ow':=relA x.2++([own it10 (iterK g.rb (relKV g.rs).length (vis++[i]))]++(tabA g++([rbA g]++(relsA r1++(relsA r2)))))) (pmC [[own it10 (iterK g.rb (relKV g.rs).length (vis++[i]))],tabA g,[rbA g],relsA r1,relA x.2,relsA r2] [4,0,1,2,3,5]) ?_;refine WL.cT (ι:=Unit) (vs:=[ptr x.2.r]) (vv:=fun _=>.int .i64 ((x.2.ns.length:Nat):Int)) (pp:=fun _=>True) (relA x.2) (AA:=fun _=>relA (turnG x.2)) rfl (fun w' hw' hH=>(turn_calls x.2 okr w' hH).mono (fun en w'' ⟨h1,h2⟩=>⟨(),h1,trivial,h2⟩)) ?_;rintro _ _;refine WL.focus (ow':=[own it10 (iterK g.rb (relKV g.rs).length (vis++[i]))]++(tabA g++([rbA g]++(relsA r1++(relA (turnG x.2)++(relsA r2)))))) (pmC [relA (turnG x.2),[own it10 (iterK g.rb (relKV g.rs).length (vis++[i]))],tabA g,[rbA g],relsA r1,relsA r2] [1,2,3,4,0,5]) ?_;refine Zv (OV.bm (i:=((visL g.rs vis).map fun x=>((rp x.2).filter fun q=>decide (q.2=4)).length).sum) (j:=x.2.ns.length) rfl rfl (by have:=hbd;omega)) (Za rfl (Nl (Xb ?_)));exact WX.bk (vis++[i]) ⟨rfl,by rw [Ji7 hx,xU,List.sum_append];simp only [yC,yD,List.sum_cons,List.sum_nil,Nat.add_zero,← ns_len4 okr];rfl,rfl,trivial⟩ (fun w' hw=>⟨hvs.step hil hv,by rw [hr2,Jez];exact hw⟩) (Ji8 (by rw [Jj6];exact hil) hv)
structure SameB (g g1:BaseG):Prop where
 p:g1.p=g.p
 nb:g1.nb=g.nb
 va:g1.va=g.va
 vc:g1.vc=g.vc
 vs:g1.vs=g.vs
 rb:g1.rb=g.rb
 len:g1.rs.length=g.rs.length
 at_:∀ (i:Nat) (x:Pd × RelG),g.rs[i]?=some x→∃ x':Pd × RelG,g1.rs[i]?=some x'∧x'.1=x.1∧x'.2.es=x.2.es∧x'.2.r=x.2.r∧x'.2.width=x.2.width∧RelOK x'.2
theorem SameB.refl {g:BaseG}(ok:BaseOK g):SameB g g:=⟨rfl,rfl,rfl,rfl,rfl,rfl,rfl,fun i x hx=>⟨x,hx,rfl,rfl,rfl,rfl,ok.ok x (xC hx)⟩⟩
theorem SameB.map {g g1:BaseG}(h:SameB g g1){β:Type}(f:Pd × RelG→β)(hf:∀ x x':Pd × RelG,x'.1=x.1→x'.2.es=x.2.es→x'.2.r=x.2.r→x'.2.width=x.2.width→f x'=f x):g1.rs.map f=g.rs.map f:=by
 apply List.ext_getElem?;intro i;rw [xG,xG];cases hx:g.rs[i]? with
 | none=>
  have h1:=List.getElem?_eq_none_iff.1 hx;rw [xV (by rw [h.len];exact h1)]
 | some x=>
  obtain ⟨x',h1,h2,h3,h4,h5,_⟩:=h.at_ i x hx;rw [h1,Option.map_some,Option.map_some,hf x x' h2 h3 h4 h5]
theorem SameB.kv {g g1:BaseG}(h:SameB g g1):relKV g1.rs=relKV g.rs:=h.map _ fun x x' h1 _ h3 _=>by rw [h1,h3]
theorem SameB.facts {g g1:BaseG}(h:SameB g g1):Jcj g1=Jcj g:=by
 unfold Jcj;rw [List.flatMap_def,List.flatMap_def,h.vs];exact congrArg List.flatten (h.map _ fun x x' h1 h2 _ _=>by rw [h1,rp,h2,rp])
theorem SameB.back {g g1:BaseG}(h:SameB g g1){i:Nat}{x':Pd × RelG}(hx:g1.rs[i]?=some x'):∃ x,g.rs[i]?=some x∧x'.1=x.1∧x'.2.es=x.2.es∧x'.2.r=x.2.r∧x'.2.width=x.2.width∧RelOK x'.2:=by
 have hi:i<g.rs.length:=by rw [← h.len];exact (List.getElem?_eq_some_iff.1 hx).1
 obtain ⟨y,h1,h2⟩:=h.at_ i _ (xD hi);rw [hx] at h1;cases h1;exact ⟨_,xD hi,h2⟩
theorem SameB.ok {g g1:BaseG}(h:SameB g g1)(ok:BaseOK g):BaseOK g1:=by
 have hb:∀ {C:Pd × RelG→Prop},(∀ x x':Pd × RelG,x∈g.rs→x'.1=x.1→x'.2.es=x.2.es→x'.2.width=x.2.width→RelOK x'.2→C x')→∀ x∈g1.rs,C x:=by
  intro C hc x hx;obtain ⟨i,hi⟩:=List.mem_iff_getElem?.1 hx;obtain ⟨y,h1,h2,h3,_,h5,h6⟩:=h.back hi;exact hc y x (xC h1) h2 h3 h5 h6
 refine ⟨by rw [h.nb,h.vs];exact ok.nb,by rw [h.vs];exact ok.vn,by rw [h.map (·.1) (fun x x' h1 _ _ _=>h1)];exact ok.rn,hb fun x x' _ _ _ _ h=>h,hb fun x x' hx h1 _ h3 _=>by rw [h3,h1];exact ok.wd x hx,hb fun x x' hx h1 _ _ _=>by rw [h1];exact ok.ar x hx,hb fun x x' hx _ h2 _ _ r hr k hk=>by
  rw [rp,h2] at hr;rw [h.vs];exact ok.inr x hx r hr k hk,by rw [h.vs];exact ok.vl,by rw [h.len];exact ok.rl,by rw [h.map (fun x=>x.2.es.length) (fun x x' _ h2 _ _=>by rw [h2])];exact ok.fl⟩
theorem SameB.trans {g g1 g2:BaseG}(h:SameB g g1)(k:SameB g1 g2):SameB g g2:=
 ⟨k.p.trans h.p,k.nb.trans h.nb,k.va.trans h.va,k.vc.trans h.vc,k.vs.trans h.vs,k.rb.trans h.rb,k.len.trans h.len,fun i x hx=>by
  obtain ⟨x1,h1,h2,h3,h4,h5,_⟩:=h.at_ i x hx;obtain ⟨x2,k1,k2,k3,k4,k5,k6⟩:=k.at_ i x1 h1;exact ⟨x2,k1,k2.trans h2,k3.trans h3,k4.trans h4,k5.trans h5,k6⟩⟩
theorem SameB.setRel {g g1:BaseG}(h:SameB g g1){r1 r2:List (Pd × RelG)}{x:Pd × RelG}(hs:g1.rs=r1++x::r2){gr:RelG}(h1:gr.es=x.2.es)(h2:gr.r=x.2.r)(h3:gr.width=x.2.width)(h4:RelOK gr):SameB g { g1 with rs:=r1++(x.1,gr)::r2 }:=by
 refine ⟨h.p,h.nb,h.va,h.vc,h.vs,h.rb,by have:=h.len;rw [hs] at this;simpa using this,fun i y hy=>?_⟩;obtain ⟨y',k1,k2,k3,k4,k5,k6⟩:=h.at_ i y hy;rw [hs] at k1;show ∃ x',(r1++(x.1,gr)::r2)[i]?=some x'∧_;rcases Nat.lt_trichotomy i r1.length with hi | hi | hi
 ·rw [List.getElem?_append_left hi] at k1 ⊢;exact ⟨y',k1,k2,k3,k4,k5,k6⟩
 ·rw [List.getElem?_append_right (by omega),hi,Nat.sub_self] at k1 ⊢;simp only [List.getElem?_cons_zero,Option.some.injEq] at k1;subst k1;exact ⟨(x.1,gr),rfl,k2,h1.trans k3,h2.trans k4,h3.trans k5,h4⟩
 ·rw [List.getElem?_append_right (by omega)] at k1 ⊢;obtain ⟨k,hk⟩:∃ k,i - r1.length=k+1:=⟨i - r1.length - 1,by omega⟩
  rw [hk,List.getElem?_cons_succ] at k1 ⊢;exact ⟨y',k1,k2,k3,k4,k5,k6⟩
end Go.Proofs.YtgebaodagaecmaaGreatDoor
namespace Go.Proofs
set_option linter.unusedSimpArgs false
set_option linter.unusedVariables false
open Go Go.Shelf
set_option maxRecDepth 100000
def Tryz.sortA_ren:Go.Shelf.Ren:=⟨fun | 6=>54 | 15=>91 | 14=>98 | 28=>128 | 29=>129 | 20=>138 | 21=>139 | 22=>140 | 23=>141 | 24=>142 | 25=>143 | 26=>144 | 27=>145 | 46=>169 | 47=>160 | 48=>161 | 49=>170 | 50=>171 | 57=>186 | n=>n,fun | 22=>22 | 24=>29 | 25=>73 | 3=>3 | 39=>151 | 0=>0 | 53=>163 | 55=>205 | 4=>4 | 46=>198 | 45=>197 | 50=>179 | 5=>5 | 9=>9 | 66=>235 | 70=>239 | 76=>247 | 77=>248 | n=>n,fun | n=>n⟩
theorem Tryz.sortA:Go.Proofs.SlLaysF0.n6 Tryz.prog Tryz.sortA_ren:={
 mixed:=by kernel_rfl
 f6:=⟨Tryz.f54.name,by decide,Tryz.func54.trans (congrArg some (by kernel_rfl))⟩
 f14:=⟨Tryz.f98.name,by decide,Tryz.func98.trans (congrArg some (by kernel_rfl))⟩
 f15:=Tryz.func91.trans (congrArg some (by kernel_rfl))
 f20:=⟨Tryz.f138.name,by decide,Tryz.func138.trans (congrArg some (by kernel_rfl))⟩
 f21:=⟨Tryz.f139.name,by decide,Tryz.func139.trans (congrArg some (by kernel_rfl))⟩
 f22:=⟨Tryz.f140.name,by decide,Tryz.func140.trans (congrArg some (by kernel_rfl))⟩
 f23:=⟨Tryz.f141.name,by decide,Tryz.func141.trans (congrArg some (by kernel_rfl))⟩
 f24:=⟨Tryz.f142.name,by decide,Tryz.func142.trans (congrArg some (by kernel_rfl))⟩
 f25:=⟨Tryz.f143.name,by decide,Tryz.func143.trans (congrArg some (by kernel_rfl))⟩
 f26:=⟨Tryz.f144.name,by decide,Tryz.func144.trans (congrArg some (by kernel_rfl))⟩
 f27:=⟨Tryz.f145.name,by decide,Tryz.func145.trans (congrArg some (by kernel_rfl))⟩
 f28:=Tryz.func128.trans (congrArg some (by kernel_rfl))
 f29:=Tryz.func129.trans (congrArg some (by kernel_rfl))
 f46:=⟨Tryz.f169.name,by decide,Tryz.func169.trans (congrArg some (by kernel_rfl))⟩
 f47:=Tryz.func160.trans (congrArg some (by kernel_rfl))
 f48:=Tryz.func161.trans (congrArg some (by kernel_rfl))
 f49:=⟨Tryz.f170.name,by decide,Tryz.func170.trans (congrArg some (by kernel_rfl))⟩
 f50:=⟨Tryz.f171.name,by decide,Tryz.func171.trans (congrArg some (by kernel_rfl))⟩
 f57:=⟨Tryz.f186.name,by decide,Tryz.func186.trans (congrArg some (by kernel_rfl))⟩
 t0:=Tryz.underlying0
 a0:=Tryz.isAgg0
 z0:=Tryz.sizeOf0
 v0:=Tryz.zeroValue0
 t3:=Tryz.underlying3
 a3:=Tryz.isAgg3
 z3:=Tryz.sizeOf3
 v3:=Tryz.zeroValue3
 t4:=Tryz.underlying4
 a4:=Tryz.isAgg4
 z4:=Tryz.sizeOf4
 v4:=Tryz.zeroValue4
 t5:=Tryz.underlying5
 a5:=Tryz.isAgg5
 z5:=Tryz.sizeOf5
 v5:=Tryz.zeroValue5
 t9:=Tryz.underlying9
 a9:=Tryz.isAgg9
 z9:=Tryz.sizeOf9
 v9:=Tryz.zeroValue9
 t22:=Tryz.underlying22
 a22:=Tryz.isAgg22
 z22:=Tryz.sizeOf22
 v22:=Tryz.zeroValue22
 t25:=Tryz.underlying73
 a25:=Tryz.isAgg73
 z25:=Tryz.sizeOf73
 v25:=Tryz.zeroValue73
 t39:=Tryz.underlying151
 a39:=Tryz.isAgg151
 z39:=Tryz.sizeOf151
 v39:=Tryz.zeroValue151
 t45:=Tryz.underlying197
 a45:=Tryz.isAgg197
 z45:=Tryz.sizeOf197
 v45:=Tryz.zeroValue197
 t46:=Tryz.underlying198
 a46:=Tryz.isAgg198
 z46:=Tryz.sizeOf198
 v46:=Tryz.zeroValue198
 t50:=Tryz.underlying179
 a50:=Tryz.isAgg179
 z50:=Tryz.sizeOf179
 v50:=Tryz.zeroValue179
 t53:=Tryz.underlying163
 a53:=Tryz.isAgg163
 z53:=Tryz.sizeOf163
 v53:=Tryz.zeroValue163
 t55:=Tryz.underlying205
 a55:=Tryz.isAgg205
 z55:=Tryz.sizeOf205
 v55:=Tryz.zeroValue205
 t66:=Tryz.underlying235
 a66:=Tryz.isAgg235
 z66:=Tryz.sizeOf235
 v66:=Tryz.zeroValue235
 t70:=Tryz.underlying239
 a70:=Tryz.isAgg239
 z70:=Tryz.sizeOf239
 v70:=Tryz.zeroValue239
 t76:=Tryz.underlying247
 a76:=Tryz.isAgg247
 z76:=Tryz.sizeOf247
 v76:=Tryz.zeroValue247
 t77:=Tryz.underlying248
 a77:=Tryz.isAgg248
 z77:=Tryz.sizeOf248
 v77:=Tryz.zeroValue248 }
def Tryz.sortB_ren:Go.Shelf.Ren:=⟨fun | 14=>172 | 20=>187 | 21=>188 | 22=>189 | 23=>190 | 24=>191 | 25=>192 | 26=>193 | 27=>194 | 46=>216 | 47=>160 | 48=>161 | 49=>217 | 50=>218 | 15=>91 | 57=>234 | 28=>128 | 29=>129 | n=>n,fun | 24=>64 | 22=>53 | 3=>3 | 25=>225 | 4=>4 | 0=>0 | 46=>198 | 45=>197 | 50=>179 | 66=>235 | 39=>151 | 55=>205 | 70=>239 | 76=>247 | 77=>248 | 53=>163 | 5=>5 | 9=>9 | n=>n,fun | n=>n⟩
theorem Tryz.sortB:Go.Proofs.SlLaysF0.n14 Tryz.prog Tryz.sortB_ren:={
 mixed:=by kernel_rfl
 f14:=⟨Tryz.f172.name,by decide,Tryz.func172.trans (congrArg some (by kernel_rfl))⟩
 f15:=Tryz.func91.trans (congrArg some (by kernel_rfl))
 f20:=⟨Tryz.f187.name,by decide,Tryz.func187.trans (congrArg some (by kernel_rfl))⟩
 f21:=⟨Tryz.f188.name,by decide,Tryz.func188.trans (congrArg some (by kernel_rfl))⟩
 f22:=⟨Tryz.f189.name,by decide,Tryz.func189.trans (congrArg some (by kernel_rfl))⟩
 f23:=⟨Tryz.f190.name,by decide,Tryz.func190.trans (congrArg some (by kernel_rfl))⟩
 f24:=⟨Tryz.f191.name,by decide,Tryz.func191.trans (congrArg some (by kernel_rfl))⟩
 f25:=⟨Tryz.f192.name,by decide,Tryz.func192.trans (congrArg some (by kernel_rfl))⟩
 f26:=⟨Tryz.f193.name,by decide,Tryz.func193.trans (congrArg some (by kernel_rfl))⟩
 f27:=⟨Tryz.f194.name,by decide,Tryz.func194.trans (congrArg some (by kernel_rfl))⟩
 f28:=Tryz.func128.trans (congrArg some (by kernel_rfl))
 f29:=Tryz.func129.trans (congrArg some (by kernel_rfl))
 f46:=⟨Tryz.f216.name,by decide,Tryz.func216.trans (congrArg some (by kernel_rfl))⟩
 f47:=Tryz.func160.trans (congrArg some (by kernel_rfl))
 f48:=Tryz.func161.trans (congrArg some (by kernel_rfl))
 f49:=⟨Tryz.f217.name,by decide,Tryz.func217.trans (congrArg some (by kernel_rfl))⟩
 f50:=⟨Tryz.f218.name,by decide,Tryz.func218.trans (congrArg some (by kernel_rfl))⟩
 f57:=⟨Tryz.f234.name,by decide,Tryz.func234.trans (congrArg some (by kernel_rfl))⟩
 t0:=Tryz.underlying0
 a0:=Tryz.isAgg0
 z0:=Tryz.sizeOf0
 v0:=Tryz.zeroValue0
 t3:=Tryz.underlying3
 a3:=Tryz.isAgg3
 z3:=Tryz.sizeOf3
 v3:=Tryz.zeroValue3
 t4:=Tryz.underlying4
 a4:=Tryz.isAgg4
 z4:=Tryz.sizeOf4
 v4:=Tryz.zeroValue4
 t5:=Tryz.underlying5
 a5:=Tryz.isAgg5
 z5:=Tryz.sizeOf5
 v5:=Tryz.zeroValue5
 t9:=Tryz.underlying9
 a9:=Tryz.isAgg9
 z9:=Tryz.sizeOf9
 v9:=Tryz.zeroValue9
 t22:=Tryz.underlying53
 a22:=Tryz.isAgg53
 z22:=Tryz.sizeOf53
 v22:=Tryz.zeroValue53
 t25:=Tryz.underlying225
 a25:=Tryz.isAgg225
 z25:=Tryz.sizeOf225
 v25:=Tryz.zeroValue225
 t39:=Tryz.underlying151
 a39:=Tryz.isAgg151
 z39:=Tryz.sizeOf151
 v39:=Tryz.zeroValue151
 t45:=Tryz.underlying197
 a45:=Tryz.isAgg197
 z45:=Tryz.sizeOf197
 v45:=Tryz.zeroValue197
 t46:=Tryz.underlying198
 a46:=Tryz.isAgg198
 z46:=Tryz.sizeOf198
 v46:=Tryz.zeroValue198
 t50:=Tryz.underlying179
 a50:=Tryz.isAgg179
 z50:=Tryz.sizeOf179
 v50:=Tryz.zeroValue179
 t53:=Tryz.underlying163
 a53:=Tryz.isAgg163
 z53:=Tryz.sizeOf163
 v53:=Tryz.zeroValue163
 t55:=Tryz.underlying205
 a55:=Tryz.isAgg205
 z55:=Tryz.sizeOf205
 v55:=Tryz.zeroValue205
 t66:=Tryz.underlying235
 a66:=Tryz.isAgg235
 z66:=Tryz.sizeOf235
 v66:=Tryz.zeroValue235
 t70:=Tryz.underlying239
 a70:=Tryz.isAgg239
 z70:=Tryz.sizeOf239
 v70:=Tryz.zeroValue239
 t76:=Tryz.underlying247
 a76:=Tryz.isAgg247
 z76:=Tryz.sizeOf247
 v76:=Tryz.zeroValue247
 t77:=Tryz.underlying248
 a77:=Tryz.isAgg248
 z77:=Tryz.sizeOf248
 v77:=Tryz.zeroValue248 }
def Tryz.bitsLen_ren:Go.Shelf.Ren:=⟨fun | 15=>91 | 28=>128 | 29=>129 | n=>n,fun | 39=>151 | 3=>3 | 53=>163 | 55=>205 | 4=>4 | 5=>5 | 9=>9 | n=>n,fun | n=>n⟩
theorem Tryz.bitsLen:Go.Proofs.SlLaysF0.n15 Tryz.prog Tryz.bitsLen_ren:={
 mixed:=by kernel_rfl
 f15:=Tryz.func91.trans (congrArg some (by kernel_rfl))
 f28:=Tryz.func128.trans (congrArg some (by kernel_rfl))
 f29:=Tryz.func129.trans (congrArg some (by kernel_rfl))
 t3:=Tryz.underlying3
 a3:=Tryz.isAgg3
 z3:=Tryz.sizeOf3
 v3:=Tryz.zeroValue3
 t4:=Tryz.underlying4
 a4:=Tryz.isAgg4
 z4:=Tryz.sizeOf4
 v4:=Tryz.zeroValue4
 t5:=Tryz.underlying5
 a5:=Tryz.isAgg5
 z5:=Tryz.sizeOf5
 v5:=Tryz.zeroValue5
 t9:=Tryz.underlying9
 a9:=Tryz.isAgg9
 z9:=Tryz.sizeOf9
 v9:=Tryz.zeroValue9
 t39:=Tryz.underlying151
 a39:=Tryz.isAgg151
 z39:=Tryz.sizeOf151
 v39:=Tryz.zeroValue151
 t53:=Tryz.underlying163
 a53:=Tryz.isAgg163
 z53:=Tryz.sizeOf163
 v53:=Tryz.zeroValue163
 t55:=Tryz.underlying205
 a55:=Tryz.isAgg205
 z55:=Tryz.sizeOf205
 v55:=Tryz.zeroValue205 }
end Go.Proofs
