/- Contracts of functions of the program: what each returns and leaves in memory. Printed by gen.py and walk.py. The library's sorts of structs lie in the loaded program as on the kit's shelf. -/
import Derived.Test.YtgebaodagaecmaaGreatDoorMg14
import Derived.Test.YtgebaodagaecmaaGreatDoorProg
import Derived.Test.YtgebaodagaecmaaGreatDoorMg13
set_option maxRecDepth 10000
namespace Go.Proofs.YtgebaodagaecmaaGreatDoor
open Go Go.Hw
set_option linter.unusedSimpArgs false
set_option linter.unusedVariables false
theorem Jeh {w:World}{T c m s:Nat}{a:Option Addr}{xs:List Value}(h:(row T s a m c xs).φ w)(hm:0<m):∃ b,a=some ⟨b,0,none⟩:=by
 have h1:w.ownsRow 0 T s (.slice a m c) m xs:=h
 rcases h1.2 with ⟨hv,h0⟩ | ⟨g,cc,cur,hv,_⟩
 ·omega
 ·simp only [Value.slice.injEq] at hv;exact ⟨g,hv.1⟩
def rowOf (vs:List Tm):List Tm→Option (List Int)
 | []=>some []
 | t::ts=>match numOf vs t,rowOf vs ts with
  | some n,some l=>some (((n:Nat):Int)::l)
  | _,_=>none
theorem rowOf_cons {vs:List Tm}{t:Tm}{ts:List Tm}{l:List Int}:rowOf vs (t::ts)=some l↔∃ n m,numOf vs t=some n∧rowOf vs ts=some m∧l=((n:Nat):Int)::m:=by
 rw [rowOf]
 cases numOf vs t with
 | none=>simp
 | some n=>
  cases rowOf vs ts with
  | none=>simp
  | some m=>simp [eq_comm]
theorem Jj6 {vs:List Tm}{t:Tm}{n:Nat}(hn:numOf vs t=some n):∀ {ts:List Tm} {l:List Int},rowOf vs ts=some l→rowOf vs (ts++[t])=some (l++[((n:Nat):Int)])
 | [],l,h=>by simp [rowOf] at h;subst h;simp [rowOf,hn]
 | u::ts,l,h=>by
  obtain ⟨k,m,h1,h2,rfl⟩:=rowOf_cons.1 h
  rw [List.cons_append,rowOf,h1,Jj6 hn h2]
  rfl
theorem Jgs {vs:List Tm}:∀ {ts:List Tm} {l:List Int},rowOf vs ts=some l→l.length=ts.length
 | [],l,h=>by simp [rowOf] at h;simp [h]
 | t::ts,l,h=>by
  obtain ⟨k,m,h1,h2,rfl⟩:=rowOf_cons.1 h
  simp [Jgs h2]
def tsOf (x:At):List Tm:=x.b::x.args
def cut (a:Option Addr)(c k:Nat):Option Addr:=if c=k then a else a.map (·.add (k*1))
theorem OV.sliceFrom {P:Program}{n:Nat}{ds:DS}{e:Env}{S:World→Prop}{dst:Option Tmp}{t lt:TypeId}{p:String}{af:Array Edge}{x:Operand}{g:Option (Nat × Bool)}{a:Option Addr}{m cp k:Nat}{el:TypeId}{lo:Operand}(hx:ev e x=some (.slice a m cp))(hu:P.underlying lt=some (.slice el))(hz:P.sz el=some 1)(hlo:ev e lo=some (.int .i64 (k:Int)))(h1:k≤m∧m≤cp):
  OV P n ds e S ⟨dst,.slice lt x (some lo) none none,t,p,af,g⟩ (.slice (cut a cp k) (m - k) (cp - k)):=
 (OV.me (lo:=some lo) (hi:=none) (ml:=some k) (mh:=none) (l:=k) (h:=m) hx hu hz (by simp only [bnd,hlo]) rfl rfl rfl ⟨h1.1,h1.2⟩)
def valAt (vs:List Tm)(k:Int):Tm:=vs.getD k.toNat default
def Jbx (vs:List Tm)(p:Pd)(l:List Int):At:=⟨valAt vs (l.getD 0 0),p.name,(l.drop 1).map (valAt vs)⟩
def inVs (vs:List Tm)(l:List Int):Prop:=∀ k:Int,k∈l→0≤k∧k<(vs.length:Int)
theorem Jkg {vs:List Tm}{l:List Int}(h:inVs vs l){i:Nat}(hi:i<l.length):∃ n:Nat,l.getD i 0=(n:Int)∧vs[n]?=some (valAt vs (l.getD i 0)):=by
 have hm:l.getD i 0∈l:=by rw [List.getD_eq_getElem?_getD,List.getElem?_eq_getElem hi];exact List.getElem_mem hi
 generalize l.getD i 0=k at hm
 obtain ⟨h1,h2⟩:=h _ hm
 refine ⟨k.toNat,by omega,?_⟩
 unfold valAt
 rw [List.getD_eq_getElem?_getD,List.getElem?_eq_getElem (by omega)]
 rfl
theorem RI.cut1 {w:World}{a:Option Addr}{c:Nat}{l:List Int}(h:RI w a l.length l)(hc:l.length≤c)(h0:0<l.length):RI w (cut a c 1) (l.length - 1) (l.drop 1):=by
 refine ⟨by simp,fun ha=>?_,fun q hq j k hj=>?_⟩
 ·unfold cut at ha
  split at ha
  ·omega
  ·cases a with
   | none=>have:=h.2.1 rfl;omega
   | some q=>cases ha
 ·have hjl:j<l.length - 1:=by have:=(List.getElem?_eq_some_iff.1 hj).1;simpa using this
  unfold cut at hq
  split at hq
  ·omega
  ·cases a with
   | none=>cases hq
   | some q0=>
    simp only [Option.map_some,Option.some.injEq] at hq
    subst hq
    have h1:=h.2.2 q0 rfl (1+j) k (by rw [List.getElem?_drop] at hj;exact hj)
    rw [Jdm] at h1
    exact h1
set_option maxHeartbeats 1000000 in
theorem bfact_calls (g:BaseG)(ok:BaseOK g)(p:Pd)(l:List Int)(a:Option Addr)(c:Nat)(hl:l.length≤1099511627776)(h0:0<l.length)(hc:l.length≤c)(hin:inVs g.vs l)(w:World)(hr:RI w a l.length l)(hA:Holds (tabA g) w):Calls Tryz.prog 53 #[ptr g.p,pdV p,.slice a l.length c] w fun e w'=>∃ la lc,e=.returned (atV (Jbx g.vs p l) la lc)∧Turns [] [rowT la lc (Jbx g.vs p l).args] w w':=by
 refine Jbl (args:=[ptr g.p,pdV p,.slice a l.length c]) (fun _=>False) Tryz.func53 rfl Tryz.ntmps53 rfl rfl ?_
 refine Csr (WL.box rfl rfl rfl ?_)
 intro b4
 refine WL.alloc T.zr29 rfl ?_
 intro b6
 refine Nn (Cs (Hd (fun w'=>Keeps w w'∧w'.heap[b4]?=some (.cells (pdC p).toArray 107 (0,0))) [] (fun _ hw=>⟨hw.keeps,hw.it (own b4 _) (by simp)⟩) (m:=12) rfl ?_))
 refine Hf 0 rfl (OV.aw rfl) (Hf 1 rfl (OV.ak rfl) (Hf 2 rfl (OV.f0 0 rfl T.u105 rfl) (Hf 3 rfl (OV.aw rfl) ?_)))
 obtain ⟨n0,hn0,ht0⟩:=Jkg hin h0
 obtain ⟨t0,htt⟩:∃ t0,t0=valAt g.vs (l.getD 0 0):=⟨_,rfl⟩
 rw [← htt] at ht0
 obtain ⟨q,rfl⟩:=hr.some h0
 refine Hf 4 rfl ((OV.cd (i:=0) rfl rfl T.u51 T.z3 h0).cast (u:=.pointer (some q)) (by rw [Jd6])) (Ht 5 rfl (OV.ah (v:=.int .i64 ((n0:Nat):Int)) rfl T.u3 rfl (fun _ hw=>hw.1 _ _ (by have h1:=hr.cell h0;rw [hn0,Jd6] at h1;exact h1))) (Hf 7 rfl (OV.f0 0 rfl T.u107 rfl) (Ht 8 rfl (OV.ah (v:=.string p.name) rfl T.u9 rfl (fun _ hw=>(Jav hw.2 (o:=0) rfl).1)) ?_)))
 refine Hr (WH.two 6 10 rfl rfl (by kernel_rfl) (listed1:=[true,true,true,true,true,true,true,true,true,false,false,false]) rfl (listed2:=[true,true,true,true,true,true,false,true,true,false,true,false]) rfl (fl1:=false) rfl (fl2:=false) rfl ?_ ?_)
 ·refine WL.c0 (v:=tmV t0) (vs:=[ptr g.p,.int .i64 ((n0:Nat):Int)]) (fun w' hw'=>Jgq g ok n0 t0 ht0 w' (hA.fr0 hw'.fr)) ?_
  refine Hc (fun _=>(fun _ hw=>⟨hw.keeps,hw.it (own b4 _) (by simp)⟩)) ?_
  refine Hf 9 rfl (OV.ao (xs:=[(0,.tmp 16),(1,.tmp 18)]) (pl:=[(0,3),(3,1),(4,1)]) (cs:=atC ⟨t0,p.name,[]⟩ none 0) T.u29 T.zr29 (by kernel_rfl) rfl (Jal (us:=tmC t0) rfl rfl (Nat.le_of_ble_eq_true rfl) (Jal (us:=[_]) rfl rfl (Nat.le_of_ble_eq_true rfl) rfl))) (Ho 10 rfl (fl':=false) rfl ?_)
  refine WL.alloc T.zr29 rfl ?_
  intro b7
  refine Hc (fun _=>(fun _ hw=>⟨hw.keeps,hw.it (own b4 _) (by simp)⟩)) ?_
  refine Ho 11 rfl (fl':=false) rfl ?_
  refine WL.ag (vs:=atC ⟨t0,p.name,[]⟩ none 0) rfl rfl rfl T.z29 rfl ?_
  refine Hc (fun _=>(fun _ hw=>⟨hw.keeps,hw.it (own b4 _) (by simp)⟩)) ?_
  refine He (Xn (Cs (Csr (Zm rfl (Zv (OV.sliceFrom (k:=1) rfl T.u51 T.z3 rfl ⟨by omega,hc⟩) (Zv (OV.ae rfl T.u51) (Zm rfl (Nn (Cb ?_)))))))))
  have hcut:=RI.cut1 hr hc h0
  refine WC.weak (S':=Sat0 w (oQ b7 (atC ⟨t0,p.name,[]⟩ none 0) 29::oQ b6 (atC ⟨T0,E0,[]⟩ none 0) 29::oQ b4 (pdC p) 107::row 26 3 none 0 0 []::[])) (fun w' hw=>(hw.rowNil 26 3).perm (pmP [_,_,_,_] [1,2,3,0])) ?_
  refine WC.da (fun (i:Nat) (la:Option Addr) (lc:Nat) (args:List Tm)=>[(0,ptr g.p),(6,.pointer (some ⟨b6,0,none⟩)),(7,.pointer (some ⟨b7,0,none⟩)),(21,.slice (cut (some q) c 1) (l.length - 1) (c - 1)),(22,.int .i64 ((l.length - 1:Nat):Int)),(23,.int .i64 (i:Int))])
    (fun i la lc args w'=>(i≤l.length - 1∧args.length=i∧args=((l.drop 1).take i).map (valAt g.vs))∧Sat0 w (oQ b7 (atC ⟨t0,p.name,args⟩ la lc) 29::oQ b6 (atC ⟨T0,E0,[]⟩ none 0) 29::oQ b4 (pdC p) 107::rowT la lc args::[]) w')
    (fun i _ _ _=>l.length - 1 - i) 0 none 0 [] Y6 (fun w' hw=>⟨⟨by omega,rfl,rfl⟩,hw⟩) ?_
  intro i la lc args
  refine WC.pure (fun hi=>?_)
  obtain ⟨hi,hal,hae⟩:=hi
  refine Csr (Zv (OV.cm rfl rfl) (Nn (Cs ?_)))
  refine Cc rfl (fun c24=>?_) (fun c24=>?_)
  ·refine Ck (Xn (Cs (Cb (Csr ?_))))
   have hil:i<(l.drop 1).length:=by simp;omega
   have hi1:i+1<l.length:=by omega
   obtain ⟨n,hn,ht⟩:=Jkg hin hi1
   obtain ⟨q1,hq1⟩:=hcut.some (by omega)
   refine Zv (OV.cd (a:=q1) (i:=i) (show _=some (Value.slice (some q1) (l.length - 1) (c - 1)) by rw [← hq1];rfl) rfl T.u51 T.z3 (by omega)) ?_
   refine WL.val (OV.ah (v:=.int .i64 ((n:Nat):Int)) rfl T.u3 rfl (fun _ hw=>hw.keeps _ _ (by have h1:=(hq1 ▸ hcut).cell hil;rw [show (l.drop 1).getD i 0=((n:Nat):Int) by rw [← hn];simp [List.getD_eq_getElem?_getD,Nat.add_comm]] at h1;exact h1))) rfl ?_
   refine Za rfl (Nn (Hd (fun w'=>w'.heap[b7]?=some (.cells (atC ⟨t0,p.name,args⟩ la lc).toArray 29 (0,0))) [10] (fun _ hw=>hw.it (own b7 _) (by simp)) (m:=11) rfl ?_))
   refine Hf 0 rfl (OV.f0 4 rfl T.u29 rfl) (Ht 1 rfl (OV.ah (v:=.slice la args.length lc) rfl T.u27 rfl (fun _ hw=>(Jav hw (o:=4) rfl).1)) (Hf 2 rfl (OV.aw rfl) (Hf 3 rfl (OV.ak rfl) (Hf 4 rfl (OV.f0 0 rfl T.u105 rfl) (Hf 5 rfl (OV.aw rfl) (Ho 6 rfl (fl':=false) rfl ?_))))))
   refine WL.c0 (v:=tmV (valAt g.vs (l.getD (i+1) 0))) (vs:=[ptr g.p,.int .i64 ((n:Nat):Int)]) (fun w' hw'=>Jgq g ok n (valAt g.vs (l.getD (i+1) 0)) ht w' (hA.fr0 hw'.fr)) ?_
   refine Hc (fun _=>(fun _ hw=>hw.it (own b7 _) (by simp))) ?_
   refine Ho 7 rfl (fl':=false) rfl ?_
   refine WL.bh (cs:=tmC (valAt g.vs (l.getD (i+1) 0))) T.u27 T.z26 T.zr26 rfl rfl (by omega) (by omega) rfl ?_
   intro b34
   refine Hc (fun _=>(fun _ hw=>hw.it (own b7 _) (by simp))) ?_
   refine Ho 8 rfl (fl':=false) rfl ?_
   refine WL.focus (ow':=rowT la lc args::oQ b34 (tmC (valAt g.vs (l.getD (i+1) 0))) 26::oQ b7 (atC ⟨t0,p.name,args⟩ la lc) 29::oQ b6 (atC ⟨T0,E0,[]⟩ none 0) 29::oQ b4 (pdC p) 107::[]) (pmP [_,_,_,_,_] [4,0,1,2,3]) ?_
   refine WL.append (news:=tmC (valAt g.vs (l.getD (i+1) 0))) rfl rfl T.apT (fun _ _=>Jcs (.tail _ (.head _)) rfl) (Jf6 _) ⟨by omega,by unfold maxLen;omega⟩ rfl ?_
   intro a35 c35
   refine Hc (fun _=>(fun _ hw=>hw.it (own b7 _) (by simp))) ?_
   refine Hf 9 rfl (OV.f0 4 rfl T.u29 rfl) (Ho 10 rfl (fl':=true) rfl ?_)
   refine WL.focus perm2 (WL.br (o:=4) rfl rfl rfl T.z27 (by show 4<5;omega) ?_)
   refine Hc (fun h=>by cases h) ?_
   refine He (Xb (Xn (Cr (Zv (OV.bi (j:=1) rfl rfl (by omega)) (Zm rfl (Nl ?_))))))
   have el:args.length+1=(args++[valAt g.vs (l.getD (i+1) 0)]).length:=by simp
   have ef:args.flatMap tmC++tmC (valAt g.vs (l.getD (i+1) 0))=(args++[valAt g.vs (l.getD (i+1) 0)]).flatMap tmC:=by simp
   exact WX.ce (i+1) a35 c35 (args++[valAt g.vs (l.getD (i+1) 0)]) Y6 (fun w' hw=>⟨⟨by omega,by simp [hal],by
    rw [List.take_add_one,List.map_append,← hae,List.getElem?_eq_getElem hil]
    simp [List.getD_eq_getElem?_getD,Nat.add_comm,List.getElem?_eq_getElem hi1]⟩,by
    rw [el,ef] at hw
    exact hw.pik [[oQ b7 (atC ⟨t0,p.name,args++[valAt g.vs (l.getD (i+1) 0)]⟩ a35 c35) 29],[rowT a35 c35 (args++[valAt g.vs (l.getD (i+1) 0)])],[oQ b34 (tmC (valAt g.vs (l.getD (i+1) 0))) 26],[oQ b6 (atC ⟨T0,E0,[]⟩ none 0) 29],[oQ b4 (pdC p) 107]] [0,3,4,1] 5⟩) (by show l.length - 1 - (i+1)<l.length - 1 - i;omega)
  refine Ce (Xe (Xe (Xh (Xn (Csr (Zv (OV.lN (cs:=atC ⟨t0,p.name,args⟩ la lc) rfl T.u29 rfl T.z29 (.head _)) ?_))))))
  refine WL.focus perm1 (WL.ag (vs:=atC ⟨t0,p.name,args⟩ la lc) rfl rfl rfl T.z29 rfl ?_)
  refine Nn (WC.az ?_)
  rw [List.take_of_length_le (by simp;omega)] at hae
  have hat:Jbx g.vs p l=⟨t0,p.name,args⟩:=by rw [hae,htt];rfl
  rw [hat]
  refine WX.retC (cs:=atC ⟨t0,p.name,args⟩ la lc) rfl rfl rfl T.u29 rfl T.z29 (fun w' hw j v hj=>Ja0 hw (.head _) j v hj) (fun w' hw=>⟨la,lc,rfl,?_⟩)
  exact (hw.pik [[oQ b6 (atC ⟨t0,p.name,args⟩ la lc) 29],[oQ b7 (atC ⟨t0,p.name,args⟩ la lc) 29],[oQ b4 (pdC p) 107],[rowT la lc args]] [3] 4).turned0
 refine WL.alloc T.zr29 rfl ?_
 intro b7
 refine Hc (fun _=>(fun _ hw=>⟨hw.keeps,hw.it (own b4 _) (by simp)⟩)) ?_
 refine Ho 6 rfl (fl':=false) rfl ?_
 refine WL.c0 (v:=tmV t0) (vs:=[ptr g.p,.int .i64 ((n0:Nat):Int)]) (fun w' hw'=>Jgq g ok n0 t0 ht0 w' (hA.fr0 hw'.fr)) ?_
 refine Hc (fun _=>(fun _ hw=>⟨hw.keeps,hw.it (own b4 _) (by simp)⟩)) ?_
 refine Hf 9 rfl (OV.ao (xs:=[(0,.tmp 16),(1,.tmp 18)]) (pl:=[(0,3),(3,1),(4,1)]) (cs:=atC ⟨t0,p.name,[]⟩ none 0) T.u29 T.zr29 (by kernel_rfl) rfl (Jal (us:=tmC t0) rfl rfl (Nat.le_of_ble_eq_true rfl) (Jal (us:=[_]) rfl rfl (Nat.le_of_ble_eq_true rfl) rfl))) (Ho 11 rfl (fl':=false) rfl ?_)
 refine WL.ag (vs:=atC ⟨t0,p.name,[]⟩ none 0) rfl rfl rfl T.z29 rfl ?_
 refine Hc (fun _=>(fun _ hw=>⟨hw.keeps,hw.it (own b4 _) (by simp)⟩)) ?_
 refine He (Xn (Cs (Csr (Zm rfl (Zv (OV.sliceFrom (k:=1) rfl T.u51 T.z3 rfl ⟨by omega,hc⟩) (Zv (OV.ae rfl T.u51) (Zm rfl (Nn (Cb ?_)))))))))
 have hcut:=RI.cut1 hr hc h0
 refine WC.weak (S':=Sat0 w (oQ b7 (atC ⟨t0,p.name,[]⟩ none 0) 29::oQ b6 (atC ⟨T0,E0,[]⟩ none 0) 29::oQ b4 (pdC p) 107::row 26 3 none 0 0 []::[])) (fun w' hw=>(hw.rowNil 26 3).perm (pmP [_,_,_,_] [1,2,3,0])) ?_
 refine WC.da (fun (i:Nat) (la:Option Addr) (lc:Nat) (args:List Tm)=>[(0,ptr g.p),(6,.pointer (some ⟨b6,0,none⟩)),(7,.pointer (some ⟨b7,0,none⟩)),(21,.slice (cut (some q) c 1) (l.length - 1) (c - 1)),(22,.int .i64 ((l.length - 1:Nat):Int)),(23,.int .i64 (i:Int))])
   (fun i la lc args w'=>(i≤l.length - 1∧args.length=i∧args=((l.drop 1).take i).map (valAt g.vs))∧Sat0 w (oQ b7 (atC ⟨t0,p.name,args⟩ la lc) 29::oQ b6 (atC ⟨T0,E0,[]⟩ none 0) 29::oQ b4 (pdC p) 107::rowT la lc args::[]) w')
   (fun i _ _ _=>l.length - 1 - i) 0 none 0 [] Y6 (fun w' hw=>⟨⟨by omega,rfl,rfl⟩,hw⟩) ?_
 intro i la lc args
 refine WC.pure (fun hi=>?_)
 obtain ⟨hi,hal,hae⟩:=hi
 refine Csr (Zv (OV.cm rfl rfl) (Nn (Cs ?_)))
 refine Cc rfl (fun c24=>?_) (fun c24=>?_)
 ·refine Ck (Xn (Cs (Cb (Csr ?_))))
  have hil:i<(l.drop 1).length:=by simp;omega
  have hi1:i+1<l.length:=by omega
  obtain ⟨n,hn,ht⟩:=Jkg hin hi1
  obtain ⟨q1,hq1⟩:=hcut.some (by omega)
  refine Zv (OV.cd (a:=q1) (i:=i) (show _=some (Value.slice (some q1) (l.length - 1) (c - 1)) by rw [← hq1];rfl) rfl T.u51 T.z3 (by omega)) ?_
  refine WL.val (OV.ah (v:=.int .i64 ((n:Nat):Int)) rfl T.u3 rfl (fun _ hw=>hw.keeps _ _ (by have h1:=(hq1 ▸ hcut).cell hil;rw [show (l.drop 1).getD i 0=((n:Nat):Int) by rw [← hn];simp [List.getD_eq_getElem?_getD,Nat.add_comm]] at h1;exact h1))) rfl ?_
  refine Za rfl (Nn (Hd (fun w'=>w'.heap[b7]?=some (.cells (atC ⟨t0,p.name,args⟩ la lc).toArray 29 (0,0))) [10] (fun _ hw=>hw.it (own b7 _) (by simp)) (m:=11) rfl ?_))
  refine Hf 0 rfl (OV.f0 4 rfl T.u29 rfl) (Ht 1 rfl (OV.ah (v:=.slice la args.length lc) rfl T.u27 rfl (fun _ hw=>(Jav hw (o:=4) rfl).1)) (Hf 2 rfl (OV.aw rfl) (Hf 3 rfl (OV.ak rfl) (Hf 4 rfl (OV.f0 0 rfl T.u105 rfl) (Hf 5 rfl (OV.aw rfl) (Ho 6 rfl (fl':=false) rfl ?_))))))
  refine WL.c0 (v:=tmV (valAt g.vs (l.getD (i+1) 0))) (vs:=[ptr g.p,.int .i64 ((n:Nat):Int)]) (fun w' hw'=>Jgq g ok n (valAt g.vs (l.getD (i+1) 0)) ht w' (hA.fr0 hw'.fr)) ?_
  refine Hc (fun _=>(fun _ hw=>hw.it (own b7 _) (by simp))) ?_
  refine Ho 7 rfl (fl':=false) rfl ?_
  refine WL.bh (cs:=tmC (valAt g.vs (l.getD (i+1) 0))) T.u27 T.z26 T.zr26 rfl rfl (by omega) (by omega) rfl ?_
  intro b34
  refine Hc (fun _=>(fun _ hw=>hw.it (own b7 _) (by simp))) ?_
  refine Ho 8 rfl (fl':=false) rfl ?_
  refine WL.focus (ow':=rowT la lc args::oQ b34 (tmC (valAt g.vs (l.getD (i+1) 0))) 26::oQ b7 (atC ⟨t0,p.name,args⟩ la lc) 29::oQ b6 (atC ⟨T0,E0,[]⟩ none 0) 29::oQ b4 (pdC p) 107::[]) (pmP [_,_,_,_,_] [4,0,1,2,3]) ?_
  refine WL.append (news:=tmC (valAt g.vs (l.getD (i+1) 0))) rfl rfl T.apT (fun _ _=>Jcs (.tail _ (.head _)) rfl) (Jf6 _) ⟨by omega,by unfold maxLen;omega⟩ rfl ?_
  intro a35 c35
  refine Hc (fun _=>(fun _ hw=>hw.it (own b7 _) (by simp))) ?_
  refine Hf 9 rfl (OV.f0 4 rfl T.u29 rfl) (Ho 10 rfl (fl':=true) rfl ?_)
  refine WL.focus perm2 (WL.br (o:=4) rfl rfl rfl T.z27 (by show 4<5;omega) ?_)
  refine Hc (fun h=>by cases h) ?_
  refine He (Xb (Xn (Cr (Zv (OV.bi (j:=1) rfl rfl (by omega)) (Zm rfl (Nl ?_))))))
  have el:args.length+1=(args++[valAt g.vs (l.getD (i+1) 0)]).length:=by simp
  have ef:args.flatMap tmC++tmC (valAt g.vs (l.getD (i+1) 0))=(args++[valAt g.vs (l.getD (i+1) 0)]).flatMap tmC:=by simp
  exact WX.ce (i+1) a35 c35 (args++[valAt g.vs (l.getD (i+1) 0)]) Y6 (fun w' hw=>⟨⟨by omega,by simp [hal],by
   rw [List.take_add_one,List.map_append,← hae,List.getElem?_eq_getElem hil]
   simp [List.getD_eq_getElem?_getD,Nat.add_comm,List.getElem?_eq_getElem hi1]⟩,by
   rw [el,ef] at hw
   exact hw.pik [[oQ b7 (atC ⟨t0,p.name,args++[valAt g.vs (l.getD (i+1) 0)]⟩ a35 c35) 29],[rowT a35 c35 (args++[valAt g.vs (l.getD (i+1) 0)])],[oQ b34 (tmC (valAt g.vs (l.getD (i+1) 0))) 26],[oQ b6 (atC ⟨T0,E0,[]⟩ none 0) 29],[oQ b4 (pdC p) 107]] [0,3,4,1] 5⟩) (by show l.length - 1 - (i+1)<l.length - 1 - i;omega)
 refine Ce (Xe (Xe (Xh (Xn (Csr (Zv (OV.lN (cs:=atC ⟨t0,p.name,args⟩ la lc) rfl T.u29 rfl T.z29 (.head _)) ?_))))))
 refine WL.focus perm1 (WL.ag (vs:=atC ⟨t0,p.name,args⟩ la lc) rfl rfl rfl T.z29 rfl ?_)
 refine Nn (WC.az ?_)
 rw [List.take_of_length_le (by simp;omega)] at hae
 have hat:Jbx g.vs p l=⟨t0,p.name,args⟩:=by rw [hae,htt];rfl
 rw [hat]
 refine WX.retC (cs:=atC ⟨t0,p.name,args⟩ la lc) rfl rfl rfl T.u29 rfl T.z29 (fun w' hw j v hj=>Ja0 hw (.head _) j v hj) (fun w' hw=>⟨la,lc,rfl,?_⟩)
 exact (hw.pik [[oQ b6 (atC ⟨t0,p.name,args⟩ la lc) 29],[oQ b7 (atC ⟨t0,p.name,args⟩ la lc) 29],[oQ b4 (pdC p) 107],[rowT la lc args]] [3] 4).turned0
def Jax (x:At):Pd:=⟨x.name,x.args.length⟩
def relOf (rs:List (Pd × RelG))(p:Pd):Option RelG:=(rs.find? fun x=>decide (x.1=p)).map (·.2)
def Jci (g:BaseG):List (At × Nat):=g.rs.flatMap fun x=>(rp x.2).map fun q=>(Jbx g.vs x.1 q.1,q.2)
def addF (F:List (At × Nat))(x:At):List (At × Nat):=if factB x=true∧x∉F.map (·.1) then F++[(x,4)] else F
theorem valAt_num {vs:List Tm}{t:Tm}{n:Nat}(h:numOf vs t=some n):valAt vs (n:Int)=t:=by
 have:=Jit h
 unfold valAt
 rw [List.getD_eq_getElem?_getD,Int.toNat_natCast,this]
 rfl
theorem rowOf_vals {vs:List Tm}:∀ {ts:List Tm} {l:List Int},rowOf vs ts=some l→l.map (valAt vs)=ts
 | [],l,h=>by simp [rowOf] at h;subst h;rfl
 | t::ts,l,h=>by
  obtain ⟨n,m,h1,h2,rfl⟩:=rowOf_cons.1 h
  rw [List.map_cons,valAt_num h1,rowOf_vals h2]
theorem Jkq {vs:List Tm}{x:At}{l:List Int}(h:rowOf vs (tsOf x)=some l):Jbx vs (Jax x) l=x:=by
 obtain ⟨n,m,h1,h2,rfl⟩:=rowOf_cons.1 h
 have h3:=rowOf_vals h2
 obtain ⟨b,name,args⟩:=x
 simp only [Jbx,Jax,List.getD_cons_zero,List.drop_one,List.tail_cons,valAt_num h1,At.mk.injEq,true_and]
 exact h3
theorem Jlm {vs:List Tm}:∀ {ts:List Tm} {l:List Int},rowOf vs ts=some l→inVs vs l
 | [],l,h=>by simp [rowOf] at h;subst h;intro k hk;cases hk
 | t::ts,l,h=>by
  obtain ⟨n,m,h1,h2,rfl⟩:=rowOf_cons.1 h
  intro k hk
  rcases List.mem_cons.1 hk with rfl | hk
  ·have:=numOf_lt h1;omega
  ·exact Jlm h2 k hk
theorem rowOf_map {vs:List Tm}(hn:vs.Nodup):∀ {l:List Int},inVs vs l→rowOf vs (l.map (valAt vs))=some l
 | [],_=>rfl
 | k::l,h=>by
  obtain ⟨h1,h2⟩:=h k (.head _)
  have h3:vs[k.toNat]?=some (valAt vs k):=by
   unfold valAt
   rw [List.getD_eq_getElem?_getD,List.getElem?_eq_getElem (by omega)];rfl
  rw [List.map_cons,rowOf,Jgu hn h3,rowOf_map hn (fun j hj=>h j (.tail _ hj))]
  simp only [Option.some.injEq,List.cons.injEq,and_true]
  omega
theorem tsOf_atomOf {vs:List Tm}{p:Pd}{l:List Int}(h0:0<l.length):tsOf (Jbx vs p l)=l.map (valAt vs):=by
 cases l with
 | nil=>simp at h0
 | cons k l=>simp [tsOf,Jbx]
theorem Jga {vs:List Tm}{p:Pd}{l:List Int}(h:l.length=p.ar+1):Jax (Jbx vs p l)=p:=by
 obtain ⟨n,a⟩:=p
 simp only [Jax,Jbx,List.length_map,List.length_drop,h,Pd.mk.injEq,true_and]
 simp
theorem Jkr {vs:List Tm}(hn:vs.Nodup){p:Pd}{l:List Int}(hin:inVs vs l)(hl:l.length=p.ar+1)(x:At):Jbx vs p l=x↔p=Jax x∧rowOf vs (tsOf x)=some l:=by
 constructor
 ·rintro rfl
  exact ⟨(Jga hl).symm,by rw [tsOf_atomOf (by omega)];exact rowOf_map hn hin⟩
 ·rintro ⟨rfl,h⟩
  exact Jkq h
theorem Jlo {rs:List (Pd × RelG)}{p:Pd}{g:RelG}(h:relOf rs p=some g):(p,g)∈rs:=by
 obtain ⟨x,hx,rfl⟩:=Option.map_eq_some_iff.1 h
 have h1:=List.mem_of_find?_eq_some hx
 have h2:=List.find?_some hx
 simp only [decide_eq_true_eq] at h2
 rw [← h2];exact h1
theorem Jm1 {rs:List (Pd × RelG)}(hn:(rs.map (·.1)).Nodup){p:Pd}{g:RelG}(h:(p,g)∈rs):relOf rs p=some g:=by
 induction rs with
 | nil=>cases h
 | cons x rs ih=>
  rw [List.map_cons,List.nodup_cons] at hn
  rw [relOf]
  rcases List.mem_cons.1 h with rfl | h
  ·simp
  ·have hne:¬ x.1=p:=fun e=>hn.1 (List.mem_map.2 ⟨(p,g),h,e.symm⟩)
   rw [List.find?_cons_of_neg (by simpa using hne)]
   exact ih hn.2 h
theorem relOf_none {rs:List (Pd × RelG)}{p:Pd}(h:relOf rs p=none):∀ x∈rs,x.1≠p:=by
 intro x hx e
 unfold relOf at h
 rw [Option.map_eq_none_iff,List.find?_eq_none] at h
 have:=h x hx
 simp [e] at this
theorem relKV_spot (p:Pd):∀ (rs:List (Pd × RelG)) (i:Nat),(spot (relKV rs) p i).map (·.2)=(relOf rs p).map fun g=>ptr g.r
 | [],i=>rfl
 | x::rs,i=>by
  rw [relKV,List.map_cons,spot,relOf]
  by_cases h:p=x.1
  ·simp [h]
  ·have h':¬ x.1=p:=fun e=>h e.symm
   simp only [h,if_false]
   rw [List.find?_cons_of_neg (by simpa using h')]
   exact relKV_spot p rs (i+1)
theorem relKV_got (rs:List (Pd × RelG))(p:Pd):got (relKV rs) p=(relOf rs p).map fun g=>ptr g.r:=relKV_spot p rs 0
theorem relKV_new {rs:List (Pd × RelG)}{p:Pd}{g:RelG}(h:relOf rs p=none):ups (relKV rs) p (ptr g.r)=relKV (rs++[(p,g)]):=by
 rw [Jjv]
 ·simp [relKV]
 ·intro q hq e
  obtain ⟨z,hz,rfl⟩:=List.mem_map.1 hq
  exact relOf_none h z hz e
theorem Jih {g:BaseG}(ok:BaseOK g){x:Pd × RelG}(hx:x∈g.rs){q:List Int × Nat}(hq:q∈rp x.2):q.1.length=x.1.ar+1∧inVs g.vs q.1:=by
 refine ⟨?_,ok.inr x hx q.1 (List.mem_map.2 ⟨q,hq,rfl⟩)⟩
 obtain ⟨e,he,rfl⟩:=List.mem_map.1 hq
 rw [← ok.wd x hx]
 exact (ok.ok x hx).wid e he
theorem mem_facts {g:BaseG}(ok:BaseOK g)(x:At)(n:Nat):(x,n)∈Jci g↔∃ gr l,relOf g.rs (Jax x)=some gr∧rowOf g.vs (tsOf x)=some l∧(l,n)∈rp gr:=by
 unfold Jci
 rw [List.mem_flatMap]
 constructor
 ·rintro ⟨⟨p,gr⟩,hm,h⟩
  obtain ⟨q,hq,he⟩:=List.mem_map.1 h
  simp only [Prod.mk.injEq] at he
  obtain ⟨h1,h2⟩:=Jih ok hm hq
  obtain ⟨rfl,h3⟩:=(Jkr ok.vn h2 h1 x).1 he.1
  exact ⟨gr,q.1,Jm1 ok.rn hm,h3,he.2 ▸ hq⟩
 ·rintro ⟨gr,l,h1,h2,h3⟩
  exact ⟨(Jax x,gr),Jlo h1,List.mem_map.2 ⟨(l,n),h3,by rw [Jkq h2]⟩⟩
theorem mem_facts1 {g:BaseG}(ok:BaseOK g)(x:At):x∈(Jci g).map (·.1)↔∃ gr l,relOf g.rs (Jax x)=some gr∧rowOf g.vs (tsOf x)=some l∧l∈(rp gr).map (·.1):=by
 constructor
 ·intro h
  obtain ⟨⟨y,n⟩,hy,rfl⟩:=List.mem_map.1 h
  obtain ⟨gr,l,h1,h2,h3⟩:=(mem_facts ok y n).1 hy
  exact ⟨gr,l,h1,h2,List.mem_map.2 ⟨_,h3,rfl⟩⟩
 ·rintro ⟨gr,l,h1,h2,h3⟩
  obtain ⟨⟨l',n⟩,h4,rfl⟩:=List.mem_map.1 h3
  exact List.mem_map.2 ⟨(x,n),(mem_facts ok x n).2 ⟨gr,l',h1,h2,h4⟩,rfl⟩
theorem valAt_pre {vs vs':List Tm}(h:vs <+: vs'){k:Int}(h1:0≤k∧k<(vs.length:Int)):valAt vs' k=valAt vs k:=by
 obtain ⟨t,rfl⟩:=h
 unfold valAt
 rw [List.getD_eq_getElem?_getD,List.getD_eq_getElem?_getD,List.getElem?_append_left (by omega)]
theorem atomOf_pre {vs vs':List Tm}(h:vs <+: vs'){p:Pd}{l:List Int}(hin:inVs vs l)(h0:0<l.length):Jbx vs' p l=Jbx vs p l:=by
 cases l with
 | nil=>simp at h0
 | cons k l=>
  simp only [Jbx,List.getD_cons_zero,List.drop_one,List.tail_cons,At.mk.injEq,true_and]
  exact ⟨valAt_pre h (hin k (.head _)),List.map_congr_left fun j hj=>valAt_pre h (hin j (.tail _ hj))⟩
theorem Jiz {g:BaseG}(ok:BaseOK g){nb va vc}{vs':List Tm}(h:g.vs <+: vs'):Jci { g with nb:=nb,va:=va,vc:=vc,vs:=vs' }=Jci g:=by
 unfold Jci
 simp only [List.flatMap_def]
 refine congrArg List.flatten (List.map_congr_left fun x hx=>List.map_congr_left fun q hq=>?_)
 obtain ⟨h1,h2⟩:=Jih ok hx hq
 rw [atomOf_pre h h2 (by omega)]
theorem BaseOK.vals {g:BaseG}(ok:BaseOK g){nb va vc}{vs':List Tm}(h:g.vs <+: vs')(h0:nb=none→vs'=[])(hn:vs'.Nodup)(hl:vs'.length≤1099511627776):BaseOK { g with nb:=nb,va:=va,vc:=vc,vs:=vs' } where
 nb:=h0
 vn:=hn
 rn:=ok.rn
 ok:=ok.ok
 wd:=ok.wd
 ar:=ok.ar
 inr x hx r hr k hk:=by
  have h1:=ok.inr x hx r hr k hk
  have:=h.length_le
  exact ⟨h1.1,by show k<(vs'.length:Int);omega⟩
 vl:=hl
 rl:=ok.rl
 fl:=ok.fl
theorem BaseOK.newRel {g:BaseG}(ok:BaseOK g){p:Pd}{gr:RelG}(h:relOf g.rs p=none)(hok:RelOK gr)(hw:gr.width=p.ar+1)(ha:p.ar≤8)(he:gr.es=[])(hl:g.rs.length<1099511627776):BaseOK { g with rs:=g.rs++[(p,gr)] } where
 nb:=ok.nb
 vn:=ok.vn
 rn:=by
  show ((g.rs++[(p,gr)]).map (·.1)).Nodup
  rw [List.map_append,List.nodup_append]
  refine ⟨ok.rn,by simp,fun a hma b hb=>?_⟩
  simp only [List.map_cons,List.map_nil,List.mem_singleton] at hb
  subst hb
  obtain ⟨z,hz,rfl⟩:=List.mem_map.1 hma
  exact relOf_none h z hz
 ok x hx:=by
  rcases List.mem_append.1 hx with h1 | h1
  ·exact ok.ok x h1
  ·simp only [List.mem_singleton] at h1;subst h1;exact hok
 wd x hx:=by
  rcases List.mem_append.1 hx with h1 | h1
  ·exact ok.wd x h1
  ·simp only [List.mem_singleton] at h1;subst h1;exact hw
 ar x hx:=by
  rcases List.mem_append.1 hx with h1 | h1
  ·exact ok.ar x h1
  ·simp only [List.mem_singleton] at h1;subst h1;exact ha
 inr x hx:=by
  rcases List.mem_append.1 hx with h1 | h1
  ·exact ok.inr x h1
  ·simp only [List.mem_singleton] at h1;subst h1
   intro r hr
   simp [rp,he] at hr
 vl:=ok.vl
 rl:=by show (g.rs++[(p,gr)]).length≤_;rw [List.length_append];simp only [List.length_cons,List.length_nil];omega
 fl:=by
  show ((g.rs++[(p,gr)]).map fun x=>x.2.es.length).sum≤_
  rw [List.map_append,List.sum_append]
  have:=ok.fl
  simp [he];exact this
theorem factsB_newRel {g:BaseG}{p:Pd}{gr:RelG}(he:gr.es=[]):Jci { g with rs:=g.rs++[(p,gr)] }=Jci g:=by
 unfold Jci
 show (g.rs++[(p,gr)]).flatMap _=_
 rw [List.flatMap_append]
 simp [rp,he]
theorem relOf_split {rs:List (Pd × RelG)}{p:Pd}{gr:RelG}(h:relOf rs p=some gr):∃ r1 r2,rs=r1++(p,gr)::r2:=List.append_of_mem (Jlo h)
theorem BaseOK.setRel {g:BaseG}(ok:BaseOK g){p:Pd}{gr gr':RelG}{r1 r2:List (Pd × RelG)}(hs:g.rs=r1++(p,gr)::r2)(hok:RelOK gr')(hw:gr'.width=gr.width)(hin:∀ r∈(rp gr').map (·.1),inVs g.vs r)(hf:((r1.map fun x=>x.2.es.length).sum+(gr'.es.length+(r2.map fun x=>x.2.es.length).sum))≤1099511627776):BaseOK { g with rs:=r1++(p,gr')::r2 }:=by
 have hm:∀ {C:Pd × RelG→Prop},(∀ x∈g.rs,C x)→C (p,gr')→∀ x∈r1++(p,gr')::r2,C x:=by
  intro C h1 h2 x hx
  rcases List.mem_append.1 hx with h | h
  ·exact h1 x (by rw [hs];exact List.mem_append_left _ h)
  ·rcases List.mem_cons.1 h with rfl | h
   ·exact h2
   ·exact h1 x (by rw [hs];exact List.mem_append_right _ (.tail _ h))
 have hmem:(p,gr)∈g.rs:=by rw [hs];exact List.mem_append_right _ (.head _)
 refine ⟨ok.nb,ok.vn,?_,hm ok.ok hok,hm ok.wd (show gr'.width=p.ar+1 by rw [hw];exact ok.wd _ hmem),hm ok.ar (show p.ar≤8 from ok.ar _ hmem),hm ok.inr (fun r hr k hk=>hin r hr k hk),ok.vl,?_,?_⟩
 ·have:=ok.rn
  rw [hs] at this
  simpa using this
 ·have:=ok.rl
  rw [hs] at this
  simpa using this
 ·show ((r1++(p,gr')::r2).map _).sum≤_
  simpa using hf
theorem factsB_set {g:BaseG}{p:Pd}{gr gr':RelG}{r1 r2:List (Pd × RelG)}(hs:g.rs=r1++(p,gr)::r2){E:List (At × Nat)}(he:((rp gr').map fun q=>(Jbx g.vs p q.1,q.2))=((rp gr).map fun q=>(Jbx g.vs p q.1,q.2))++E):(Jci { g with rs:=r1++(p,gr')::r2 }).Perm (Jci g++E):=by
 unfold Jci
 rw [hs]
 show ((r1++(p,gr')::r2).flatMap _).Perm _
 rw [List.flatMap_append,List.flatMap_cons,List.flatMap_append,List.flatMap_cons]
 simp only [he]
 rw [List.append_assoc,List.append_assoc,List.append_assoc]
 exact List.Perm.append_left _ (List.Perm.append_left _ List.perm_append_comm)
theorem Jcy.satA {w w':World}{A ow:List Hw.Item}(h:Jcy w)(hn:¬ DD A 0)(hw:Sat w (DD A) (fun b=>b<w.heap.size∧¬ DD A b) w ow w'):Jcy w':=by
 intro j v hj
 have h1:=h j v hj
 have hlt:0<w.heap.size:=World.block_lt_of_cell? w ⟨0,j,none⟩ h1
 have h2:=hw.fr.keep 0 hlt hn
 unfold World.cell? at h1 ⊢
 rw [h2];exact h1
theorem RT.lt {w:World}{a:Option Addr}{ts:List Tm}(h:RT w a ts){q:Addr}(hq:a=some q)(hl:0<ts.length):q.block<w.heap.size:=by
 have h1:=h.at_ q hq 0 _ (List.getElem?_eq_getElem hl) 0 _ rfl
 have h2:=World.block_lt_of_cell? w _ h1
 rwa [Jcq,Jcq] at h2
theorem RT.satA {w w':World}{A ow:List Hw.Item}{a:Option Addr}{ts:List Tm}(h:RT w a ts)(hne:∀ q,a=some q→0<ts.length→¬ DD A q.block)(hw:Sat w (DD A) (fun b=>b<w.heap.size∧¬ DD A b) w ow w'):RT w' a ts:=by
 refine ⟨h.nil,fun q hq i t ht j v hv=>?_⟩
 have hl:0<ts.length:=by have:=(List.getElem?_eq_some_iff.1 ht).1;omega
 have h1:=h.at_ q hq i t ht j v hv
 have h2:=hw.fr.keep q.block (h.lt hq hl) (hne q hq hl)
 unfold World.cell? at h1 ⊢
 rw [Jcq,Jcq] at h1 ⊢
 rw [h2];exact h1
theorem fact_args {x:At}(h:factB x=true):x.args.length≤8:=by
 unfold factB chkA at h
 rcases Nat.lt_or_ge 8 x.args.length with h8 | h8
 ·simp [h8] at h
  split at h <;> simp at h
 ·exact h8
theorem numOf_pre {vs vs':List Tm}(h:vs <+: vs'){t:Tm}{n:Nat}(hn:numOf vs t=some n):numOf vs' t=some n:=by
 obtain ⟨m,rfl⟩:=h
 unfold numOf at *
 rw [List.findIdx?_append,hn]
 rfl
theorem Jll {vs vs':List Tm}(h:vs <+: vs'):∀ {ts:List Tm} {l:List Int},rowOf vs ts=some l→rowOf vs' ts=some l
 | [],l,hl=>hl
 | t::ts,l,hl=>by
  obtain ⟨n,m,h1,h2,rfl⟩:=rowOf_cons.1 hl
  exact rowOf_cons.2 ⟨n,m,numOf_pre h h1,Jll h h2,rfl⟩
theorem relsA_snoc (rs:List (Pd × RelG))(p:Pd)(gr:RelG):relsA (rs++[(p,gr)])=relsA rs++relA gr:=by simp [relsA]
theorem Jez (r1 r2:List (Pd × RelG))(p:Pd)(gr:RelG):relsA (r1++(p,gr)::r2)=relsA r1++(relA gr++relsA r2):=by simp [relsA]
theorem Jkl (g:BaseG):(Jci g).length=(g.rs.map fun x=>x.2.es.length).sum:=by
 unfold Jci
 rw [List.length_flatMap]
 congr 1
 exact List.map_congr_left fun x _=>by simp [Jnq]
theorem inVs_i64 {vs:List Tm}{l:List Int}(h:inVs vs l)(hv:vs.length≤1099511627776):i64s l:=fun k hk=>by have:=h k hk;constructor <;> omega
abbrev Jfo (g:BaseG)(nb:Option Nat)(va:Option Addr)(vc:Nat)(vs:List Tm):BaseG:={ g with nb:=nb,va:=va,vc:=vc,vs:=vs }
theorem Joo {g:BaseG}(ok:BaseOK g){t:Tm}{nb va vc}(h0:nb=none→numX g.vs t=[])(hl:g.vs.length<1099511627776):BaseOK (Jfo g nb va vc (numX g.vs t)):=
 ok.vals (Jij _ _) h0 (numX_nodup ok.vn) (by have:=Jj9 g.vs t;omega)
theorem add_plain {g g2:BaseG}(ok2:BaseOK g2)(hf:Jci g2=Jci g){x:At}(hx:factB x=true){l:List Int}(hl:rowOf g2.vs (tsOf x)=some l){gr gr':RelG}{r1 r2:List (Pd × RelG)}(hs:g2.rs=r1++(Jax x,gr)::r2)(hrp:rp gr'=addRP gr.width (rp gr) l)(hok:RelOK gr')(hw:gr'.width=gr.width)(hfl:(Jci g).length<1099511627776):
  addV gr.width (rp gr) l=decide (x∉(Jci g).map (·.1))∧addE gr.width l=0∧BaseOK { g2 with rs:=r1++(Jax x,gr')::r2 }∧(Jci { g2 with rs:=r1++(Jax x,gr')::r2 }).Perm (addF (Jci g) x):=by
 have hmem:(Jax x,gr)∈g2.rs:=by rw [hs];exact List.mem_append_right _ (.head _)
 have hwd:=ok2.wd _ hmem
 have hlen:=Jgs hl
 have hlw:l.length=gr.width:=by rw [hlen,hwd];rfl
 have hrel:=Jm1 ok2.rn hmem
 have hiff:x∈(Jci g).map (·.1)↔l∈(rp gr).map (·.1):=by
  rw [← hf,mem_facts1 ok2]
  constructor
  ·rintro ⟨gr0,l0,h1,h2,h3⟩
   rw [hrel] at h1;rw [hl] at h2
   cases h1;cases h2;exact h3
  ·intro h;exact ⟨gr,l,hrel,hl,h⟩
 have hin:inVs g2.vs l:=Jlm hl
 have hfl2:=Jkl g2
 rw [hf,hs] at hfl2
 simp only [List.map_append,List.map_cons,List.sum_append,List.sum_cons] at hfl2
 have hel:gr'.es.length≤gr.es.length+1:=by
  have h1:=congrArg List.length hrp
  rw [Jnq] at h1
  have h2:(addRP gr.width (rp gr) l).length≤(rp gr).length+1:=by unfold addRP;split <;> simp
  rw [Jnq] at h2;omega
 refine ⟨?_,by unfold addE;rw [if_pos hlw],ok2.setRel hs hok hw ?_ (by omega),?_⟩
 ·unfold addV
  by_cases h:l∈(rp gr).map (·.1)
  ·rw [decide_eq_false (show ¬ (l.length=gr.width∧l∉(rp gr).map (·.1)) from fun hh=>hh.2 h),decide_eq_false (show ¬ x∉(Jci g).map (·.1) from fun hh=>hh (hiff.2 h))]
  ·rw [decide_eq_true (show l.length=gr.width∧l∉(rp gr).map (·.1) from ⟨hlw,h⟩),decide_eq_true (show x∉(Jci g).map (·.1) from fun hh=>h (hiff.1 hh))]
 ·intro r hr
  rw [hrp] at hr
  unfold addRP at hr
  split at hr
  ·rw [List.map_append] at hr
   rcases List.mem_append.1 hr with h | h
   ·exact fun k hk=>ok2.inr _ hmem r h k hk
   ·simp only [List.map_cons,List.map_nil,List.mem_singleton] at h;subst h;exact hin
  ·exact fun k hk=>ok2.inr _ hmem r hr k hk
 ·unfold addF
  by_cases h:l∈(rp gr).map (·.1)
  ·rw [if_neg (fun hh=>hh.2 (hiff.2 h))]
   have:=factsB_set (gr':=gr') hs (E:=[]) (by rw [hrp];unfold addRP;rw [if_neg (fun hh=>hh.2 h),List.append_nil])
   rw [List.append_nil,hf] at this;exact this
  ·rw [if_pos ⟨hx,fun hh=>h (hiff.1 hh)⟩]
   have:=factsB_set (gr':=gr') hs (E:=[(x,4)]) (by rw [hrp];unfold addRP;rw [if_pos ⟨hlw,h⟩,List.map_append,List.map_cons,List.map_nil,Jkq hl])
   rw [hf] at this;exact this
set_option maxHeartbeats 2000000 in
theorem badd_calls (g:BaseG)(ok:BaseOK g)(x:At)(a:Option Addr)(c:Nat)(hl:x.args.length≤1099511627775)(hs:x.name.size≤1099511627776)(hvl:g.vs.length+9≤1099511627776)(hrl:g.rs.length<1099511627776)(hfl:(Jci g).length<1099511627776)(w:World)(hN:Jcy w)(hN1:¬ DD (baseA g) 0)(hr:RT w a x.args)(hne:∀ q,a=some q→0<x.args.length→¬ DD (baseA g) q.block)(hA:Holds (baseA g) w):
 Calls Tryz.prog 49 #[ptr g.p,atV x a c] w fun e w'=>e=.returned (.tuple #[.bool (factB x && decide (x∉(Jci g).map (·.1))),.int .i64 (if factB x=true then 0 else 81)])∧∃ g',BaseOK g'∧g'.p=g.p∧(Jci g').Perm (addF (Jci g) x)∧g'.vs.length≤g.vs.length+9∧g'.rs.length≤g.rs.length+1∧Turns (baseA g) (baseA g') w w':=by
 refine Jdl hA (args:=[ptr g.p,atV x a c]) Tryz.func49 rfl Tryz.ntmps49 rfl rfl ?_
 refine Csr (WL.box rfl rfl rfl ?_)
 intro b3
 refine Za rfl (Za rfl (Nn (Cs (Csr (Zv (OV.lN (cs:=atC x a c) rfl T.u29 rfl T.z29 (.head _)) (WL.au (v:=.bool (factB x)) (by kernel_rfl) rfl rfl (fun w' hw'=>fact_calls x a c (by omega) hs w' (hN.satA hN1 hw') (hr.satA hne hw')) ?_))))))
 refine Zv (OV.not rfl) (Nn ?_)
 refine Cc rfl (fun c14=>?_) (fun c14=>?_)
 ·refine Csr (Za rfl (Za rfl (Nn (WC.az ?_))))
  refine Xr ?_
  have hf0:factB x=false:=by simpa using c14
  exact WX.ret2 rfl rfl rfl rfl (fun w' hw=>⟨by rw [hf0];rfl,g,ok,rfl,by unfold addF;rw [if_neg (by rw [hf0];simp)],by omega,by omega,hw.drop.turned⟩)
 refine Ck (Xn (Cs ?_))
 have hx8:=fact_args (by simpa using c14:factB x=true)
 have hxf:factB x=true:=by simpa using c14
 refine Hd (fun w'=>w'.heap[g.p]?=some (.cells (baseC g).toArray 105 (0,0))∧w'.heap[g.rb]?=some (mapK pdV (relKV g.rs))∧w'.heap[b3]?=some (.cells (atC x a c).toArray 29 (0,0))) [] (fun _ hw=>⟨hw.it (hdB g) (.tail _ (.head _)),hw.it (rbA g) (.tail _ (List.mem_append_right _ (.head _))),hw.it (own b3 _) (.head _)⟩) (m:=8) rfl ?_
 refine Hf 0 rfl (OV.aw rfl) (Hf 1 rfl (OV.ak rfl) (Hf 2 rfl (OV.f0 2 rfl T.u105 rfl) (Ht 3 rfl (OV.ah (v:=.map (some g.rb)) rfl T.u103 rfl (fun _ hw=>(Jav hw.1 (o:=2) rfl).1)) (Ht 4 rfl (OV.ai (cs:=atC x a c) rfl T.u29 rfl T.z29 (fun _ hw j v hj=>by rw [Jap];exact Jb3 hw.2.2 (o:=0) (cs':=atC x a c) rfl j v hj)) (Ho 5 rfl (fl':=false) rfl ?_)))))
 refine WL.au (v:=pdV (Jax x)) (by kernel_rfl) rfl rfl (fun w' hw'=>Jj7 x a c w') ?_
 refine Hc (fun _=>(fun _ hw=>⟨hw.it (hdB g) (.tail _ (.head _)),hw.it (rbA g) (.tail _ (List.mem_append_right _ (.head _))),hw.it (own b3 _) (.head _)⟩)) ?_
 refine Ht 6 rfl ((OV.lookup pdKey T.u103 (show Program.zv Tryz.prog 108=some (.pointer none) by kernel_rfl) rfl rfl (fun _ hw=>hw.2.1)).cast (u:=.pointer ((relOf g.rs (Jax x)).map fun z=>⟨z.r,0,none⟩)) (by rw [relKV_got];cases relOf g.rs (Jax x) <;> rfl)) (Hf 7 rfl (OV.assign rfl) (He (Xn (Cs (Csr (Zm rfl (Zv (OV.kz T.u108 rfl rfl) (Nn ?_))))))))
 refine Cc rfl (fun c23=>?_) (fun c23=>?_)
 ·refine Cs ?_
  have hnone:relOf g.rs (Jax x)=none:=by simpa using c23
  refine Cr (Zv (OV.f0 4 rfl T.u29 rfl) (Zv (OV.l1 (v:=.slice a x.args.length c) rfl T.u27 rfl (.head _) rfl) (Zv (OV.ae rfl T.u27) (Zv (OV.bi (j:=1) rfl rfl (by omega)) (WL.cT (ι:=Nat × Nat × Nat) (vs:=[.int .i64 ((x.args.length+1:Nat):Int)]) (vv:=fun z=>.tuple #[ptr z.1,.int .i64 0]) (pp:=fun _=>True) [] (AA:=fun z=>relA (RelG.empty z.1 z.2.1 z.2.2 (x.args.length+1))) rfl (fun w' hw' hH=>(new_calls (x.args.length+1) w').mono (fun en w'' ⟨r,mb,ib,h1,h2⟩=>⟨(r,mb,ib),h1,trivial,h2⟩)) ?_)))))
  rintro ⟨r,mb,ib⟩ _
  obtain ⟨gn,hgn⟩:∃ gn,gn=RelG.empty r mb ib (x.args.length+1):=⟨_,rfl⟩
  have hgr:ptr r=ptr gn.r:=by rw [hgn];rfl
  have hgo:RelOK gn:=by rw [hgn];exact RelOK.empty (by omega)
  have hgw:gn.width=(Jax x).ar+1:=by rw [hgn];rfl
  have hge:gn.es=[]:=by rw [hgn];rfl
  show WL _ _ _ _ _ _ (Sat w (DD (baseA g)) (fun b=>b<w.heap.size∧¬ DD (baseA g) b) w (relA (RelG.empty r mb ib (x.args.length+1))++(oQ b3 (atC x a c) 29::baseA g))) _
  rw [← hgn]
  refine WL.focus (ow':=[oQ b3 (atC x a c) 29]++(tabA g++([rbA g]++(relsA g.rs++(relA gn))))) (pmC [relA gn,[oQ b3 (atC x a c) 29],tabA g,[rbA g],relsA g.rs] [1,2,3,4,0]) ?_
  refine Zm rfl (Zv (OV.extract rfl rfl) (Zv (OV.extract rfl rfl) (Za rfl (Za rfl (Nn (Cs (Csr (Zm rfl (Zv (OV.ic rfl rfl) (Nn (WC.bu (show _=some (Value.bool false) from by rfl) ?_)))))))))))
  refine Ck (Xn (Csr (Zm rfl (Za rfl (Nn (Hd (fun w'=>w'.heap[g.p]?=some (.cells (baseC g).toArray 105 (0,0))∧w'.heap[b3]?=some (.cells (atC x a c).toArray 29 (0,0))) [] (fun _ hw=>⟨hw.it (hdB g) (by simp [tabA]),hw.it (own b3 _) (by simp)⟩) (m:=8) rfl ?_))))))
  refine Hf 0 rfl (OV.aw rfl) (Hf 1 rfl (OV.ak rfl) (Hf 2 rfl (OV.f0 2 rfl T.u105 rfl) (Ht 3 rfl (OV.ah (v:=.map (some g.rb)) rfl T.u103 rfl (fun _ hw=>(Jav hw.1 (o:=2) rfl).1)) (Ht 4 rfl (OV.ai (cs:=atC x a c) rfl T.u29 rfl T.z29 (fun _ hw j v hj=>by rw [Jap];exact Jb3 hw.2 (o:=0) (cs':=atC x a c) rfl j v hj)) (Hf 6 rfl (OV.aw rfl) (Ho 5 rfl (fl':=false) rfl ?_))))))
  refine WL.au (v:=pdV (Jax x)) (by kernel_rfl) rfl rfl (fun w' hw'=>Jj7 x a c w') ?_
  refine Hc (fun _=>(fun _ hw=>⟨hw.it (hdB g) (by simp [tabA]),hw.it (own b3 _) (by simp)⟩)) ?_
  refine Ho 7 rfl (fl':=false) rfl ?_
  refine WL.focus (ow':=[rbA g]++([oQ b3 (atC x a c) 29]++(tabA g++(relsA g.rs++(relA gn))))) (pmC [[oQ b3 (atC x a c) 29],tabA g,[rbA g],relsA g.rs,relA gn] [2,0,1,3,4]) ?_
  refine WL.mapUpdate (v:=ptr gn.r) pdKey T.u103 rfl rfl (by rw [← hgr];rfl) ?_
  rw [relKV_new hnone]
  refine WL.focus (ow':=[oQ b3 (atC x a c) 29]++(tabA g++([own g.rb (mapK pdV (relKV (g.rs++[(Jax x,gn)])))]++(relsA g.rs++(relA gn))))) (pmC [[own g.rb (mapK pdV (relKV (g.rs++[(Jax x,gn)])))],[oQ b3 (atC x a c) 29],tabA g,relsA g.rs,relA gn] [1,2,0,3,4]) ?_
  refine Hc (fun _=>(fun _ hw=>⟨hw.it (hdB g) (by simp [tabA]),hw.it (own b3 _) (by simp)⟩)) ?_
  refine He (Xn (Cs ?_))
  obtain ⟨g1,hg1⟩:∃ g1:BaseG,g1={ g with rs:=g.rs++[(Jax x,gn)] }:=⟨_,rfl⟩
  obtain ⟨gr,hgrn⟩:∃ gr,gr=gn:=⟨_,rfl⟩
  have hp1:g1.p=g.p:=by rw [hg1]
  have hv1:g1.vs=g.vs:=by rw [hg1]
  have ok1:BaseOK g1:=by rw [hg1];exact ok.newRel hnone hgo hgw (by show x.args.length≤8;exact hx8) hge hrl
  have hf1:Jci g1=Jci g:=by rw [hg1];exact factsB_newRel hge
  have hrel:relOf g1.rs (Jax x)=some gr:=by rw [hgrn];exact Jm1 ok1.rn (by rw [hg1];exact List.mem_append_right _ (.head _))
  have hr1:g1.rs.length≤g.rs.length+1:=by rw [hg1];simp
  refine WC.weak (S':=SatA w (baseA g) (oQ b3 (atC x a c) 29::baseA g1)) (fun w' hw=>hw.perm (List.Perm.of_eq (by rw [hg1];unfold baseA rbA;simp only [relsA_snoc];rfl))) ?_
  refine WC.sub (e':=[(0,ptr g1.p),(3,.pointer (some ⟨b3,0,none⟩)),(6,ptr gr.r)]) ⟨by rw [hp1];rfl,rfl,by rw [hgrn,← hgr];rfl,trivial⟩ ?_
  refine Hq [5] (m:=8) rfl ?_
  refine Hf 0 rfl (OV.aw rfl) (Hf 1 rfl (OV.ak rfl) (Hf 2 rfl (OV.f0 0 rfl T.u105 rfl) (Hf 3 rfl (OV.f0 0 rfl T.u29 rfl) (Ht 4 rfl (OV.ai (cs:=tmC x.b) rfl T.u26 rfl T.z26 (fun _ hw j v hj=>by rw [Jap];exact Jbo hw (.head _) (o:=0) (cs':=tmC x.b) rfl j v hj)) (Ho 5 rfl (fl':=true) rfl ?_)))))
  refine WL.focus (ow':=tabA g1++((rbA g1::relsA g1.rs)++([oQ b3 (atC x a c) 29]))) (pmC [[oQ b3 (atC x a c) 29],tabA g1,(rbA g1::relsA g1.rs)] [1,2,0]) ?_
  refine WL.cT (ι:=Nat × Option Nat × Option Addr × Nat) (vs:=[ptr g1.p,tmV x.b]) (vv:=fun z=>.int .i64 ((z.1:Nat):Int)) (pp:=fun z=>numOf (numX g1.vs x.b) x.b=some z.1∧(z.2.1=none→numX g1.vs x.b=[])) (tabA g1) (AA:=fun z=>tabA (Jfo g1 z.2.1 z.2.2.1 z.2.2.2 (numX g1.vs x.b))) rfl (fun w' hw' hH=>(Jfr g1 ok1.nb ok1.vn ok1.vl x.b w' hH).mono (fun en w'' ⟨i,nb,va,vc,h1,h2,h3,h4⟩=>⟨(i,nb,va,vc),h1,⟨h2,h3⟩,h4⟩)) ?_
  rintro ⟨k48,nb48,va48,vc48⟩ hpp
  obtain ⟨hk48,hnb48⟩:numOf (numX g1.vs x.b) x.b=some k48∧(nb48=none→numX g1.vs x.b=[]):=hpp
  refine Hc (fun h=>by cases h) ?_
  refine Ho 6 rfl (fl':=true) rfl ?_
  refine WL.bn (v:=.int .i64 ((k48:Nat):Int)) T.u51 T.z3 T.zr3 rfl rfl rfl ?_
  intro b49
  refine Hc (fun h=>by cases h) ?_
  refine Hf 7 rfl (OV.assign rfl) (He (Xn (Cs (Cs ?_))))
  have hxb:rowOf (numX g1.vs x.b) [x.b]=some [(k48:Int)]:=by rw [rowOf,hk48];rfl
  have ok3:=Joo ok1 (va:=va48) (vc:=vc48) hnb48 (by rw [hv1];omega)
  refine WC.weak (S':=SatA w (baseA g) (row 3 1 (some ⟨b49,0,none⟩) 1 1 [.int .i64 ((k48:Nat):Int)]::oQ b3 (atC x a c) 29::baseA (Jfo g1 nb48 va48 vc48 (numX g1.vs x.b)))) (fun w' hw=>by
   have h2:=hw.asRow (m:=1) (k:=1) rfl (by decide)
   exact h2.pik [[row 3 1 (some ⟨b49,0,none⟩) 1 1 [.int .i64 ((k48:Nat):Int)]],tabA (Jfo g1 nb48 va48 vc48 (numX g1.vs x.b)),(rbA g1::relsA g1.rs),[oQ b3 (atC x a c) 29]] [0,3,1,2] 4) ?_
  refine Cr (Zv (OV.f0 4 rfl T.u29 rfl) (Zv (OV.l1 (v:=.slice a x.args.length c) rfl T.u27 rfl (.tail _ (.head _)) rfl) (Zv (OV.ae rfl T.u27) (Zm rfl (Nn (Cb ?_))))))
  refine WC.ol (fun (i:Nat) (la:Option Addr) (lc:Nat) (l:List Int) (g2:BaseG)=>[(0,ptr g1.p),(3,.pointer (some ⟨b3,0,none⟩)),(6,ptr gr.r),(9,.slice la l.length lc),(51,.slice a x.args.length c),(52,.int .i64 (x.args.length:Int)),(53,.int .i64 (i:Int))])
    (fun i la lc l g2 w'=>(i≤x.args.length∧BaseOK g2∧g2.p=g1.p∧g2.rs=g1.rs∧Jci g2=Jci g∧g2.vs.length≤g1.vs.length+1+i∧rowOf g2.vs (x.b::x.args.take i)=some l)∧SatA w (baseA g) (row 3 1 la l.length lc (ints l)::oQ b3 (atC x a c) 29::baseA g2) w')
    (fun i _ _ _ _=>x.args.length - i) 0 (some ⟨b49,0,none⟩) 1 [(k48:Int)] (Jfo g1 nb48 va48 vc48 (numX g1.vs x.b)) Y7 (fun w' hw=>⟨⟨by omega,ok3,rfl,rfl,by rw [← hf1];exact Jiz ok1 (Jij _ _),by have:=Jj9 g1.vs x.b;show (numX g1.vs x.b).length≤_;omega,hxb⟩,hw⟩) ?_
  intro i la lc l g2
  refine WC.pure (fun hi=>?_)
  obtain ⟨hi,ok2,hp2,hrs2,hf2,hvl2,hrow⟩:=hi
  have hlen2:=Jgs hrow
  simp only [List.length_cons,List.length_take] at hlen2
  refine Csr (Zv (OV.cm rfl rfl) (Nn (Cs ?_)))
  refine Cc rfl (fun c54=>?_) (fun c54=>?_)
  ·refine Ck (Xn (Cs (Cb (Csr ?_))))
   obtain ⟨q1,t,ha1,ht,htm,_,_⟩:=hr.get (i:=i) (by omega)
   refine Zv ((OV.ad (a:=q1) (show _=some (Value.slice (some q1) x.args.length c) by rw [← ha1];rfl) rfl T.u27 T.z26 (by omega)).cast (u:=.pointer (some (q1.add (i*3)))) (by rw [Int.toNat_natCast])) (Zv (OV.ai (cs:=tmC t) rfl T.u26 rfl T.z26 (fun _ hw j v hj=>(hr.satA hne hw).at_ _ ha1 i t ht j v hj)) (WL.alloc T.zr26 rfl ?_))
   intro b11
   refine WL.ag (vs:=tmC t) rfl rfl rfl T.z26 rfl ?_
   refine Nn (Hq [5] (m:=9) rfl ?_)
   refine Hf 0 rfl (OV.aw rfl) (Hf 1 rfl (OV.aw rfl) (Hf 2 rfl (OV.ak rfl) (Hf 3 rfl (OV.f0 0 rfl T.u105 rfl) (Ht 4 rfl (OV.lN (cs:=tmC t) rfl T.u26 rfl T.z26 (.head _)) (Ho 5 rfl (fl':=true) rfl ?_)))))
   refine WL.focus (ow':=tabA g2++((rbA g2::relsA g2.rs)++([oQ b11 (tmC t) 26]++([row 3 1 la l.length lc (ints l)]++([oQ b3 (atC x a c) 29]))))) (pmC [[oQ b11 (tmC t) 26],[row 3 1 la l.length lc (ints l)],[oQ b3 (atC x a c) 29],tabA g2,(rbA g2::relsA g2.rs)] [3,4,0,1,2]) ?_
   refine WL.du (ι:=Nat × Option Nat × Option Addr × Nat) (vs:=[ptr g2.p,tmV t]) (vv:=fun z=>.int .i64 ((z.1:Nat):Int)) (pp:=fun z=>numOf (numX g2.vs t) t=some z.1∧(z.2.1=none→numX g2.vs t=[])) (tabA g2) (AA:=fun z=>tabA (Jfo g2 z.2.1 z.2.2.1 z.2.2.2 (numX g2.vs t))) rfl (by kernel_rfl) (by rw [hp2];rfl) rfl (fun w' hw' hH=>(Jfr g2 ok2.nb ok2.vn ok2.vl t w' hH).mono (fun en w'' ⟨i,nb,va,vc,h1,h2,h3,h4⟩=>⟨(i,nb,va,vc),h1,⟨h2,h3⟩,h4⟩)) ?_
   rintro ⟨k62,nb62,va62,vc62⟩ hpp
   obtain ⟨hk62,hnb62⟩:numOf (numX g2.vs t) t=some k62∧(nb62=none→numX g2.vs t=[]):=hpp
   refine Hc (fun h=>by cases h) ?_
   refine Ho 6 rfl (fl':=true) rfl ?_
   refine WL.bn (v:=.int .i64 ((k62:Nat):Int)) T.u51 T.z3 T.zr3 rfl rfl rfl ?_
   intro b63
   refine Hc (fun h=>by cases h) ?_
   refine Ho 7 rfl (fl':=true) rfl ?_
   refine WL.focus (ow':=[row 3 1 la l.length lc (ints l)]++([oQ b63 [Value.int .i64 ((k62:Nat):Int)] 3]++([oQ b3 (atC x a c) 29]++(tabA (Jfo g2 nb62 va62 vc62 (numX g2.vs t))++((rbA g2::relsA g2.rs)++([oQ b11 (tmC t) 26])))))) (pmC [[oQ b63 [Value.int .i64 ((k62:Nat):Int)] 3],tabA (Jfo g2 nb62 va62 vc62 (numX g2.vs t)),(rbA g2::relsA g2.rs),[oQ b11 (tmC t) 26],[row 3 1 la l.length lc (ints l)],[oQ b3 (atC x a c) 29]] [4,0,5,1,2,3]) ?_
   refine WL.append (news:=[.int .i64 ((k62:Nat):Int)]) rfl rfl T.apI (fun _ _=>Jd9 (.tail _ (.head _)) rfl) (Jea [(k62:Int)]) ⟨by omega,by unfold maxLen;omega⟩ rfl ?_
   intro a64 c64
   refine Hc (fun h=>by cases h) ?_
   refine Hf 8 rfl (OV.assign rfl) (He (Xb (Xn (Cr (Zv (OV.bi (j:=1) rfl rfl (by omega)) (Zm rfl (Nl ?_)))))))
   have ok4:=Joo ok2 (va:=va62) (vc:=vc62) hnb62 (by rw [hv1] at hvl2;omega)
   have el:l.length+1=(l++[(k62:Int)]).length:=by simp
   have ef:ints l++[.int .i64 ((k62:Nat):Int)]=ints (l++[(k62:Int)]):=by simp [ints]
   exact WX.l8 (i+1) a64 c64 (l++[(k62:Int)]) (Jfo g2 nb62 va62 vc62 (numX g2.vs t)) ⟨rfl,rfl,rfl,by rw [← el];rfl,rfl,rfl,rfl,trivial⟩ (fun w' hw=>⟨⟨by omega,ok4,hp2,hrs2,by rw [← hf2];exact Jiz ok2 (Jij _ _),by have:=Jj9 g2.vs t;show (numX g2.vs t).length≤_;omega,by
    show rowOf (numX g2.vs t) (x.b::x.args.take (i+1))=_
    rw [List.take_add_one,ht]
    exact Jj6 hk62 (ts:=x.b::x.args.take i) (Jll (Jij _ _) hrow)⟩,by
    rw [el,ef] at hw
    exact hw.pik [[row 3 1 a64 (l++[(k62:Int)]).length c64 (ints (l++[(k62:Int)]))],[oQ b63 [Value.int .i64 ((k62:Nat):Int)] 3],[oQ b3 (atC x a c) 29],tabA (Jfo g2 nb62 va62 vc62 (numX g2.vs t)),(rbA g2::relsA g2.rs),[oQ b11 (tmC t) 26]] [0,2,3,4] 6⟩) (by show x.args.length - (i+1)<x.args.length - i;omega)
  refine Ce (Xe (Xe (Xh (Xn (Csr (Zm rfl (Zm rfl ?_)))))))
  obtain ⟨r1,r2,hs2⟩:=relOf_split (show relOf g2.rs (Jax x)=some gr by rw [hrs2];exact hrel)
  have hmem2:(Jax x,gr)∈g2.rs:=by rw [hs2];exact List.mem_append_right _ (.head _)
  have okr:=ok2.ok _ hmem2
  have hrow0:rowOf g2.vs (tsOf x)=some l:=by rw [List.take_of_length_le (by omega)] at hrow;exact hrow
  have hll:=Jgs hrow0
  have hll2:l.length=x.args.length+1:=hll
  have hin:=Jlm hrow0
  have hel:=Jkl g2
  rw [hf2,hs2] at hel
  simp only [List.map_append,List.map_cons,List.sum_append,List.sum_cons] at hel
  refine WL.focus (ow':=row 3 1 la l.length lc (ints l)::oQ b3 (atC x a c) 29::(tabA g2++(rbA g2::(relsA r1++(relA gr++relsA r2))))) (List.Perm.of_eq (by rw [← Jez r1 r2 (Jax x) gr,← hs2];rfl)) ?_
  refine WL.focus (ow':=relA gr++([row 3 1 la l.length lc (ints l),oQ b3 (atC x a c) 29]++(tabA g2++([rbA g2]++(relsA r1++(relsA r2)))))) (pmC [[row 3 1 la l.length lc (ints l),oQ b3 (atC x a c) 29],tabA g2,[rbA g2],relsA r1,relA gr,relsA r2] [4,0,1,2,3,5]) ?_
  refine WL.cT (ι:=RelG) (vs:=[ptr gr.r,.slice la l.length lc]) (vv:=fun _=>.tuple #[.bool (addV gr.width (rp gr) l),.int .i64 (addE gr.width l)]) (pp:=fun q=>rp q=addRP gr.width (rp gr) l∧RelOK q∧RelLe gr q) (relA gr) (AA:=fun q=>relA q) rfl (fun w' hw' hH=>(add_calls gr okr l la l.length lc (inVs_i64 hin ok2.vl) (by omega) (by omega) w' (RI.of_row (c:=lc) hw' (List.mem_append_right _ (.head _))) (fun b hb _=>Sat.sepO hw' (i:=row 3 1 la l.length lc (ints l)) (.head _) ⟨b,hb,rfl⟩) hH).mono (fun en w'' ⟨h1,g',h2,h3,h4,h5⟩=>⟨g',h1,⟨h2,h3,h4⟩,h5⟩)) ?_
  rintro gq hpp
  obtain ⟨hrpq,okq,leq⟩:rp gq=addRP gr.width (rp gr) l∧RelOK gq∧RelLe gr gq:=hpp
  refine Zv (OV.extract rfl rfl) (Zv (OV.extract rfl rfl) (Za rfl (Za rfl (Nn (WC.az ?_)))))
  obtain ⟨hv,he,hok,hpm⟩:=add_plain ok2 hf2 hxf hrow0 hs2 hrpq okq leq.width hfl
  refine WX.ret2 rfl rfl rfl rfl (fun w' hw=>⟨by rw [hv,he,hxf,if_pos rfl,Bool.true_and],{ g2 with rs:=r1++(Jax x,gq)::r2 },hok,by show g2.p=g.p;rw [hp2,hp1],hpm,by show g2.vs.length≤_;rw [hv1] at hvl2;omega,by
   show (r1++(Jax x,gq)::r2).length≤_
   have:(r1++(Jax x,gr)::r2).length≤g.rs.length+1:=by rw [← hs2,hrs2];exact hr1
   simpa using this,?_⟩)
  have hkv:relKV g2.rs=relKV (r1++(Jax x,gq)::r2):=by rw [hs2];simp [relKV,leq.r]
  have h2:=hw.pik [relA gq,[row 3 1 la l.length lc (ints l),oQ b3 (atC x a c) 29],tabA g2,[rbA g2],relsA r1,relsA r2] [2,3,4,0,5] 6
  refine Hw.Sat.turned (h2.perm (List.Perm.of_eq ?_))
  unfold baseA rbA
  simp only [Jez,← hkv]
  rfl
 refine Ck (Xn (Cs ?_))
 obtain ⟨gr,hrel⟩:∃ gr,relOf g.rs (Jax x)=some gr:=by
  cases hq:relOf g.rs (Jax x) with
  | none=>rw [hq] at c23;simp at c23
  | some gr=>exact ⟨gr,rfl⟩
 obtain ⟨g1,hg1⟩:∃ g1:BaseG,g1=g:=⟨_,rfl⟩
 have hp1:g1.p=g.p:=by rw [hg1]
 have hv1:g1.vs=g.vs:=by rw [hg1]
 have ok1:BaseOK g1:=by rw [hg1];exact ok
 have hf1:Jci g1=Jci g:=by rw [hg1]
 have hr1:g1.rs.length≤g.rs.length+1:=by rw [hg1];omega
 have hrel0:=hrel
 rw [← hg1] at hrel
 refine WC.weak (S':=SatA w (baseA g) (oQ b3 (atC x a c) 29::baseA g1)) (fun w' hw=>by rw [hg1];exact hw) ?_
 refine WC.sub (e':=[(0,ptr g1.p),(3,.pointer (some ⟨b3,0,none⟩)),(6,ptr gr.r)]) ⟨by rw [hp1];rfl,rfl,by rw [hrel0];rfl,trivial⟩ ?_
 refine Hq [5] (m:=8) rfl ?_
 refine Hf 0 rfl (OV.aw rfl) (Hf 1 rfl (OV.ak rfl) (Hf 2 rfl (OV.f0 0 rfl T.u105 rfl) (Hf 3 rfl (OV.f0 0 rfl T.u29 rfl) (Ht 4 rfl (OV.ai (cs:=tmC x.b) rfl T.u26 rfl T.z26 (fun _ hw j v hj=>by rw [Jap];exact Jbo hw (.head _) (o:=0) (cs':=tmC x.b) rfl j v hj)) (Ho 5 rfl (fl':=true) rfl ?_)))))
 refine WL.focus (ow':=tabA g1++((rbA g1::relsA g1.rs)++([oQ b3 (atC x a c) 29]))) (pmC [[oQ b3 (atC x a c) 29],tabA g1,(rbA g1::relsA g1.rs)] [1,2,0]) ?_
 refine WL.cT (ι:=Nat × Option Nat × Option Addr × Nat) (vs:=[ptr g1.p,tmV x.b]) (vv:=fun z=>.int .i64 ((z.1:Nat):Int)) (pp:=fun z=>numOf (numX g1.vs x.b) x.b=some z.1∧(z.2.1=none→numX g1.vs x.b=[])) (tabA g1) (AA:=fun z=>tabA (Jfo g1 z.2.1 z.2.2.1 z.2.2.2 (numX g1.vs x.b))) rfl (fun w' hw' hH=>(Jfr g1 ok1.nb ok1.vn ok1.vl x.b w' hH).mono (fun en w'' ⟨i,nb,va,vc,h1,h2,h3,h4⟩=>⟨(i,nb,va,vc),h1,⟨h2,h3⟩,h4⟩)) ?_
 rintro ⟨k48,nb48,va48,vc48⟩ hpp
 obtain ⟨hk48,hnb48⟩:numOf (numX g1.vs x.b) x.b=some k48∧(nb48=none→numX g1.vs x.b=[]):=hpp
 refine Hc (fun h=>by cases h) ?_
 refine Ho 6 rfl (fl':=true) rfl ?_
 refine WL.bn (v:=.int .i64 ((k48:Nat):Int)) T.u51 T.z3 T.zr3 rfl rfl rfl ?_
 intro b49
 refine Hc (fun h=>by cases h) ?_
 refine Hf 7 rfl (OV.assign rfl) (He (Xn (Cs (Cs ?_))))
 have hxb:rowOf (numX g1.vs x.b) [x.b]=some [(k48:Int)]:=by rw [rowOf,hk48];rfl
 have ok3:=Joo ok1 (va:=va48) (vc:=vc48) hnb48 (by rw [hv1];omega)
 refine WC.weak (S':=SatA w (baseA g) (row 3 1 (some ⟨b49,0,none⟩) 1 1 [.int .i64 ((k48:Nat):Int)]::oQ b3 (atC x a c) 29::baseA (Jfo g1 nb48 va48 vc48 (numX g1.vs x.b)))) (fun w' hw=>by
  have h2:=hw.asRow (m:=1) (k:=1) rfl (by decide)
  exact h2.pik [[row 3 1 (some ⟨b49,0,none⟩) 1 1 [.int .i64 ((k48:Nat):Int)]],tabA (Jfo g1 nb48 va48 vc48 (numX g1.vs x.b)),(rbA g1::relsA g1.rs),[oQ b3 (atC x a c) 29]] [0,3,1,2] 4) ?_
 refine Cr (Zv (OV.f0 4 rfl T.u29 rfl) (Zv (OV.l1 (v:=.slice a x.args.length c) rfl T.u27 rfl (.tail _ (.head _)) rfl) (Zv (OV.ae rfl T.u27) (Zm rfl (Nn (Cb ?_))))))
 refine WC.ol (fun (i:Nat) (la:Option Addr) (lc:Nat) (l:List Int) (g2:BaseG)=>[(0,ptr g1.p),(3,.pointer (some ⟨b3,0,none⟩)),(6,ptr gr.r),(9,.slice la l.length lc),(51,.slice a x.args.length c),(52,.int .i64 (x.args.length:Int)),(53,.int .i64 (i:Int))])
   (fun i la lc l g2 w'=>(i≤x.args.length∧BaseOK g2∧g2.p=g1.p∧g2.rs=g1.rs∧Jci g2=Jci g∧g2.vs.length≤g1.vs.length+1+i∧rowOf g2.vs (x.b::x.args.take i)=some l)∧SatA w (baseA g) (row 3 1 la l.length lc (ints l)::oQ b3 (atC x a c) 29::baseA g2) w')
   (fun i _ _ _ _=>x.args.length - i) 0 (some ⟨b49,0,none⟩) 1 [(k48:Int)] (Jfo g1 nb48 va48 vc48 (numX g1.vs x.b)) Y7 (fun w' hw=>⟨⟨by omega,ok3,rfl,rfl,by rw [← hf1];exact Jiz ok1 (Jij _ _),by have:=Jj9 g1.vs x.b;show (numX g1.vs x.b).length≤_;omega,hxb⟩,hw⟩) ?_
 intro i la lc l g2
 refine WC.pure (fun hi=>?_)
 obtain ⟨hi,ok2,hp2,hrs2,hf2,hvl2,hrow⟩:=hi
 have hlen2:=Jgs hrow
 simp only [List.length_cons,List.length_take] at hlen2
 refine Csr (Zv (OV.cm rfl rfl) (Nn (Cs ?_)))
 refine Cc rfl (fun c54=>?_) (fun c54=>?_)
 ·refine Ck (Xn (Cs (Cb (Csr ?_))))
  obtain ⟨q1,t,ha1,ht,htm,_,_⟩:=hr.get (i:=i) (by omega)
  refine Zv ((OV.ad (a:=q1) (show _=some (Value.slice (some q1) x.args.length c) by rw [← ha1];rfl) rfl T.u27 T.z26 (by omega)).cast (u:=.pointer (some (q1.add (i*3)))) (by rw [Int.toNat_natCast])) (Zv (OV.ai (cs:=tmC t) rfl T.u26 rfl T.z26 (fun _ hw j v hj=>(hr.satA hne hw).at_ _ ha1 i t ht j v hj)) (WL.alloc T.zr26 rfl ?_))
  intro b11
  refine WL.ag (vs:=tmC t) rfl rfl rfl T.z26 rfl ?_
  refine Nn (Hq [5] (m:=9) rfl ?_)
  refine Hf 0 rfl (OV.aw rfl) (Hf 1 rfl (OV.aw rfl) (Hf 2 rfl (OV.ak rfl) (Hf 3 rfl (OV.f0 0 rfl T.u105 rfl) (Ht 4 rfl (OV.lN (cs:=tmC t) rfl T.u26 rfl T.z26 (.head _)) (Ho 5 rfl (fl':=true) rfl ?_)))))
  refine WL.focus (ow':=tabA g2++((rbA g2::relsA g2.rs)++([oQ b11 (tmC t) 26]++([row 3 1 la l.length lc (ints l)]++([oQ b3 (atC x a c) 29]))))) (pmC [[oQ b11 (tmC t) 26],[row 3 1 la l.length lc (ints l)],[oQ b3 (atC x a c) 29],tabA g2,(rbA g2::relsA g2.rs)] [3,4,0,1,2]) ?_
  refine WL.du (ι:=Nat × Option Nat × Option Addr × Nat) (vs:=[ptr g2.p,tmV t]) (vv:=fun z=>.int .i64 ((z.1:Nat):Int)) (pp:=fun z=>numOf (numX g2.vs t) t=some z.1∧(z.2.1=none→numX g2.vs t=[])) (tabA g2) (AA:=fun z=>tabA (Jfo g2 z.2.1 z.2.2.1 z.2.2.2 (numX g2.vs t))) rfl (by kernel_rfl) (by rw [hp2];rfl) rfl (fun w' hw' hH=>(Jfr g2 ok2.nb ok2.vn ok2.vl t w' hH).mono (fun en w'' ⟨i,nb,va,vc,h1,h2,h3,h4⟩=>⟨(i,nb,va,vc),h1,⟨h2,h3⟩,h4⟩)) ?_
  rintro ⟨k62,nb62,va62,vc62⟩ hpp
  obtain ⟨hk62,hnb62⟩:numOf (numX g2.vs t) t=some k62∧(nb62=none→numX g2.vs t=[]):=hpp
  refine Hc (fun h=>by cases h) ?_
  refine Ho 6 rfl (fl':=true) rfl ?_
  refine WL.bn (v:=.int .i64 ((k62:Nat):Int)) T.u51 T.z3 T.zr3 rfl rfl rfl ?_
  intro b63
  refine Hc (fun h=>by cases h) ?_
  refine Ho 7 rfl (fl':=true) rfl ?_
  refine WL.focus (ow':=[row 3 1 la l.length lc (ints l)]++([oQ b63 [Value.int .i64 ((k62:Nat):Int)] 3]++([oQ b3 (atC x a c) 29]++(tabA (Jfo g2 nb62 va62 vc62 (numX g2.vs t))++((rbA g2::relsA g2.rs)++([oQ b11 (tmC t) 26])))))) (pmC [[oQ b63 [Value.int .i64 ((k62:Nat):Int)] 3],tabA (Jfo g2 nb62 va62 vc62 (numX g2.vs t)),(rbA g2::relsA g2.rs),[oQ b11 (tmC t) 26],[row 3 1 la l.length lc (ints l)],[oQ b3 (atC x a c) 29]] [4,0,5,1,2,3]) ?_
  refine WL.append (news:=[.int .i64 ((k62:Nat):Int)]) rfl rfl T.apI (fun _ _=>Jd9 (.tail _ (.head _)) rfl) (Jea [(k62:Int)]) ⟨by omega,by unfold maxLen;omega⟩ rfl ?_
  intro a64 c64
  refine Hc (fun h=>by cases h) ?_
  refine Hf 8 rfl (OV.assign rfl) (He (Xb (Xn (Cr (Zv (OV.bi (j:=1) rfl rfl (by omega)) (Zm rfl (Nl ?_)))))))
  have ok4:=Joo ok2 (va:=va62) (vc:=vc62) hnb62 (by rw [hv1] at hvl2;omega)
  have el:l.length+1=(l++[(k62:Int)]).length:=by simp
  have ef:ints l++[.int .i64 ((k62:Nat):Int)]=ints (l++[(k62:Int)]):=by simp [ints]
  exact WX.l8 (i+1) a64 c64 (l++[(k62:Int)]) (Jfo g2 nb62 va62 vc62 (numX g2.vs t)) ⟨rfl,rfl,rfl,by rw [← el];rfl,rfl,rfl,rfl,trivial⟩ (fun w' hw=>⟨⟨by omega,ok4,hp2,hrs2,by rw [← hf2];exact Jiz ok2 (Jij _ _),by have:=Jj9 g2.vs t;show (numX g2.vs t).length≤_;omega,by
   show rowOf (numX g2.vs t) (x.b::x.args.take (i+1))=_
   rw [List.take_add_one,ht]
   exact Jj6 hk62 (ts:=x.b::x.args.take i) (Jll (Jij _ _) hrow)⟩,by
   rw [el,ef] at hw
   exact hw.pik [[row 3 1 a64 (l++[(k62:Int)]).length c64 (ints (l++[(k62:Int)]))],[oQ b63 [Value.int .i64 ((k62:Nat):Int)] 3],[oQ b3 (atC x a c) 29],tabA (Jfo g2 nb62 va62 vc62 (numX g2.vs t)),(rbA g2::relsA g2.rs),[oQ b11 (tmC t) 26]] [0,2,3,4] 6⟩) (by show x.args.length - (i+1)<x.args.length - i;omega)
 refine Ce (Xe (Xe (Xh (Xn (Csr (Zm rfl (Zm rfl ?_)))))))
 obtain ⟨r1,r2,hs2⟩:=relOf_split (show relOf g2.rs (Jax x)=some gr by rw [hrs2];exact hrel)
 have hmem2:(Jax x,gr)∈g2.rs:=by rw [hs2];exact List.mem_append_right _ (.head _)
 have okr:=ok2.ok _ hmem2
 have hrow0:rowOf g2.vs (tsOf x)=some l:=by rw [List.take_of_length_le (by omega)] at hrow;exact hrow
 have hll:=Jgs hrow0
 have hll2:l.length=x.args.length+1:=hll
 have hin:=Jlm hrow0
 have hel:=Jkl g2
 rw [hf2,hs2] at hel
 simp only [List.map_append,List.map_cons,List.sum_append,List.sum_cons] at hel
 refine WL.focus (ow':=row 3 1 la l.length lc (ints l)::oQ b3 (atC x a c) 29::(tabA g2++(rbA g2::(relsA r1++(relA gr++relsA r2))))) (List.Perm.of_eq (by rw [← Jez r1 r2 (Jax x) gr,← hs2];rfl)) ?_
 refine WL.focus (ow':=relA gr++([row 3 1 la l.length lc (ints l),oQ b3 (atC x a c) 29]++(tabA g2++([rbA g2]++(relsA r1++(relsA r2)))))) (pmC [[row 3 1 la l.length lc (ints l),oQ b3 (atC x a c) 29],tabA g2,[rbA g2],relsA r1,relA gr,relsA r2] [4,0,1,2,3,5]) ?_
 refine WL.cT (ι:=RelG) (vs:=[ptr gr.r,.slice la l.length lc]) (vv:=fun _=>.tuple #[.bool (addV gr.width (rp gr) l),.int .i64 (addE gr.width l)]) (pp:=fun q=>rp q=addRP gr.width (rp gr) l∧RelOK q∧RelLe gr q) (relA gr) (AA:=fun q=>relA q) rfl (fun w' hw' hH=>(add_calls gr okr l la l.length lc (inVs_i64 hin ok2.vl) (by omega) (by omega) w' (RI.of_row (c:=lc) hw' (List.mem_append_right _ (.head _))) (fun b hb _=>Sat.sepO hw' (i:=row 3 1 la l.length lc (ints l)) (.head _) ⟨b,hb,rfl⟩) hH).mono (fun en w'' ⟨h1,g',h2,h3,h4,h5⟩=>⟨g',h1,⟨h2,h3,h4⟩,h5⟩)) ?_
 rintro gq hpp
 obtain ⟨hrpq,okq,leq⟩:rp gq=addRP gr.width (rp gr) l∧RelOK gq∧RelLe gr gq:=hpp
 refine Zv (OV.extract rfl rfl) (Zv (OV.extract rfl rfl) (Za rfl (Za rfl (Nn (WC.az ?_)))))
 obtain ⟨hv,he,hok,hpm⟩:=add_plain ok2 hf2 hxf hrow0 hs2 hrpq okq leq.width hfl
 refine WX.ret2 rfl rfl rfl rfl (fun w' hw=>⟨by rw [hv,he,hxf,if_pos rfl,Bool.true_and],{ g2 with rs:=r1++(Jax x,gq)::r2 },hok,by show g2.p=g.p;rw [hp2,hp1],hpm,by show g2.vs.length≤_;rw [hv1] at hvl2;omega,by
  show (r1++(Jax x,gq)::r2).length≤_
  have:(r1++(Jax x,gr)::r2).length≤g.rs.length+1:=by rw [← hs2,hrs2];exact hr1
  simpa using this,?_⟩)
 have hkv:relKV g2.rs=relKV (r1++(Jax x,gq)::r2):=by rw [hs2];simp [relKV,leq.r]
 have h2:=hw.pik [relA gq,[row 3 1 la l.length lc (ints l),oQ b3 (atC x a c) 29],tabA g2,[rbA g2],relsA r1,relsA r2] [2,3,4,0,5] 6
 refine Hw.Sat.turned (h2.perm (List.Perm.of_eq ?_))
 unfold baseA rbA
 simp only [Jez,← hkv]
 rfl
theorem ofInt_wrap (z:Int):BitVec.ofInt 64 (IntKind.i64.wrap z)=BitVec.ofInt 64 z:=by
 apply BitVec.eq_of_toNat_eq
 rw [BitVec.toNat_ofInt,BitVec.toNat_ofInt]
 have h:IntKind.i64.wrap z=if 9223372036854775808≤z % 18446744073709551616 then z % 18446744073709551616 - 18446744073709551616 else z % 18446744073709551616:=by
  unfold IntKind.wrap
  simp [IntKind.bits,IntKind.signed]
 rw [h]
 congr 1
 simp only [Nat.reducePow]
 split <;> omega
theorem inP_and (parts:Int){n:Nat}(hn:n=1∨n=2∨n=4):inP (bits .and .i64 parts 7) n=inP parts n:=by
 have h:bits .and .i64 (bits .and .i64 parts 7) (n:Int)=bits .and .i64 parts (n:Int):=by
  show IntKind.i64.wrap (((BitVec.ofInt 64 (IntKind.i64.wrap (((BitVec.ofInt 64 parts &&& BitVec.ofInt 64 7).toNat:Nat):Int)) &&& BitVec.ofInt 64 (n:Int)).toNat:Nat):Int)=IntKind.i64.wrap (((BitVec.ofInt 64 parts &&& BitVec.ofInt 64 (n:Int)).toNat:Nat):Int)
  rw [ofInt_wrap]
  have h0:∀ c:BitVec 64,BitVec.ofInt 64 ((c.toNat:Nat):Int)=c:=fun c=>by apply BitVec.eq_of_toNat_eq;simp
  rw [h0,BitVec.and_assoc]
  rcases hn with rfl | rfl | rfl <;> rfl
 unfold inP
 rw [h]
def selF (F:List (At × Nat))(parts:Int):List At:=(F.filter fun q=>inP parts q.2).map (·.1)
theorem facts_nodup {g:BaseG}(ok:BaseOK g):((Jci g).map (·.1)).Nodup:=by
 have e:(Jci g).map (·.1)=g.rs.flatMap fun x=>(rp x.2).map fun q=>Jbx g.vs x.1 q.1:=by
  unfold Jci
  rw [List.map_flatMap]
  simp [List.map_map,Function.comp_def]
 rw [e]
 show List.Pairwise _ _
 rw [List.pairwise_flatMap]
 constructor
 ·intro x hx
  rw [List.pairwise_map]
  have h1:=(ok.ok x hx).rows
  have h2:((rp x.2).map (·.1)).Nodup:=by simpa [rp,List.map_map,Function.comp_def] using h1
  unfold List.Nodup at h2
  rw [List.pairwise_map] at h2
  refine List.Pairwise.imp_of_mem (fun {a b} ha hb hab e=>?_) h2
  obtain ⟨a1,a2⟩:=Jih ok hx ha
  obtain ⟨b1,b2⟩:=Jih ok hx hb
  obtain ⟨_,h3⟩:=(Jkr ok.vn a2 a1 _).1 e
  have h4:=(Jkr ok.vn b2 b1 (Jbx g.vs x.1 b.1)).1 rfl
  exact hab (Option.some.inj (h3.symm.trans h4.2))
 ·have h1:g.rs.Pairwise fun a b=>a.1≠b.1:=by have:=ok.rn;unfold List.Nodup at this;rw [List.pairwise_map] at this;exact this
  refine List.Pairwise.imp_of_mem (fun {a b} ha hb hab x hx y hy e=>?_) h1
  obtain ⟨q,hq,rfl⟩:=List.mem_map.1 hx
  obtain ⟨z,hz,rfl⟩:=List.mem_map.1 hy
  obtain ⟨a1,a2⟩:=Jih ok ha hq
  obtain ⟨b1,b2⟩:=Jih ok hb hz
  have h2:=Jga (vs:=g.vs) a1
  have h3:=Jga (vs:=g.vs) b1
  rw [e,h3] at h2
  exact hab h2.symm
def visL {α:Type}(rs:List α)(vis:List Nat):List α:=vis.filterMap fun i=>rs[i]?
theorem Jlf {α:Type}{rs:List α}{vis:List Nat}{i:Nat}{x:α}(h:rs[i]?=some x):visL rs (vis++[i])=visL rs vis++[x]:=by
 unfold visL
 rw [List.filterMap_append]
 simp [h]
theorem Jlp {α:Type}:∀ rs:List α,(List.range rs.length).filterMap (fun i=>rs[i]?)=rs
 | []=>rfl
 | x::t=>by
  rw [List.length_cons,List.range_succ_eq_map,List.filterMap_cons]
  simp only [List.getElem?_cons_zero,List.filterMap_map,Function.comp_def,List.getElem?_cons_succ]
  rw [Jlp t]
theorem visL_all {α:Type}{rs:List α}{vis:List Nat}(hn:vis.Nodup)(hl:∀ i∈vis,i<rs.length)(ha:∀ i,i<rs.length→i∈vis):(visL rs vis).Perm rs:=by
 have h1:vis.Perm (List.range rs.length):=(List.perm_ext_iff_of_nodup hn List.nodup_range).2 fun i=>⟨fun h=>List.mem_range.2 (hl i h),fun h=>ha i (List.mem_range.1 h)⟩
 have h2:=h1.filterMap fun i=>rs[i]?
 exact h2.trans (List.Perm.of_eq (Jlp rs))
structure Vs {α:Type} (rs:List α) (vis:List Nat):Prop where
 nd:vis.Nodup
 lt:∀ i∈vis,i<rs.length
theorem Vs.start {α:Type}(rs:List α):Vs rs []:=⟨.nil,fun i hi=>by cases hi⟩
theorem Vs.step {α:Type}{rs:List α}{vis:List Nat}(h:Vs rs vis){i:Nat}(hi:i<rs.length)(hv:i∉vis):Vs rs (vis++[i]):=by
 refine ⟨?_,fun j hj=>?_⟩
 ·rw [List.nodup_append]
  exact ⟨h.nd,by simp,fun a ha b hb=>by simp only [List.mem_singleton] at hb;subst hb;exact fun e=>hv (e ▸ ha)⟩
 ·rcases List.mem_append.1 hj with h1 | h1
  ·exact h.lt j h1
  ·simp only [List.mem_singleton] at h1;subst h1;exact hi
theorem Vs.all {α:Type}{rs:List α}{vis:List Nat}(h:Vs rs vis)(ha:∀ i,i<rs.length→i∈vis):(visL rs vis).Perm rs:=visL_all h.nd h.lt ha
theorem relKV_len (rs:List (Pd × RelG)):(relKV rs).length=rs.length:=by simp [relKV]
theorem relKV_get {rs:List (Pd × RelG)}{i:Nat}{q:Pd × Value}(h:(relKV rs)[i]?=some q):∃ x,rs[i]?=some x∧x∈rs∧q=(x.1,ptr x.2.r)∧i<rs.length:=by
 rw [relKV,List.getElem?_map,Option.map_eq_some_iff] at h
 obtain ⟨x,hx,rfl⟩:=h
 exact ⟨x,hx,List.mem_of_getElem? hx,rfl,(List.getElem?_eq_some_iff.1 hx).1⟩
theorem Jn1:∀ {l m:List Nat},l.Sublist m→l.sum≤m.sum
 | _,_,.slnil=>Nat.le_refl _
 | _,_,.cons a h=>by have:=Jn1 h;simp only [List.sum_cons];omega
 | _,_,.cons_cons a h=>by have:=Jn1 h;simp only [List.sum_cons];omega
theorem vis_le {α:Type}{rs:List α}{vis:List Nat}{f f2:α→Nat}(hf:∀ x,f x≤f2 x)(h:Vs rs vis):((visL rs vis).map f).sum≤(rs.map f2).sum:=by
 have h1:((visL rs vis).map f).sum≤((visL rs vis).map f2).sum:=by
  generalize visL rs vis=l
  induction l with
  | nil=>simp
  | cons x l ih=>have:=hf x;simp only [List.map_cons,List.sum_cons];omega
 have h2:vis.Perm ((List.range rs.length).filter fun i=>decide (i∈vis)):=(List.perm_ext_iff_of_nodup h.nd (List.nodup_range.filter _)).2 fun i=>by
  simp only [List.mem_filter,List.mem_range,decide_eq_true_eq]
  exact ⟨fun hi=>⟨h.lt i hi,hi⟩,fun hi=>hi.2⟩
 have h3:((visL rs vis).map f2).sum=(((visL rs ((List.range rs.length).filter fun i=>decide (i∈vis)))).map f2).sum:=((h2.filterMap _).map f2).sum_nat
 have h4:(visL rs ((List.range rs.length).filter fun i=>decide (i∈vis))).Sublist rs:=by
  have h5:(visL rs ((List.range rs.length).filter fun i=>decide (i∈vis))).Sublist (visL rs (List.range rs.length)):=List.filter_sublist.filterMap _
  rwa [show visL rs (List.range rs.length)=rs from Jlp rs] at h5
 have h6:=Jn1 (h4.map f2)
 omega
def turnF (F:List (At × Nat)):List (At × Nat):=F.map fun q=>(q.1,if q.2=4 then 2 else 1)
def n4F (F:List (At × Nat)):Nat:=(F.filter fun q=>decide (q.2=4)).length
def turnV (rs:List (Pd × RelG))(vis:List Nat):List (Pd × RelG):=rs.mapIdx fun i x=>if i∈vis then (x.1,turnG x.2) else x
theorem turnV_nil (rs:List (Pd × RelG)):turnV rs []=rs:=by
 apply List.ext_getElem?
 intro i
 simp [turnV]
theorem Jjk (rs:List (Pd × RelG))(vis:List Nat)(i:Nat):(turnV rs vis)[i]?=(rs[i]?).map fun x=>if i∈vis then (x.1,turnG x.2) else x:=by simp [turnV]
theorem turnV_kv (rs:List (Pd × RelG))(vis:List Nat):relKV (turnV rs vis)=relKV rs:=by
 apply List.ext_getElem?
 intro i
 simp only [relKV,List.getElem?_map,Jjk]
 cases rs[i]? with
 | none=>rfl
 | some x=>simp only [Option.map_some];split <;> rfl
theorem turnV_step {rs:List (Pd × RelG)}{vis:List Nat}{i:Nat}{x:Pd × RelG}(hx:rs[i]?=some x)(hv:i∉vis):∃ r1 r2,turnV rs vis=r1++x::r2∧turnV rs (vis++[i])=r1++(x.1,turnG x.2)::r2:=by
 have h1:(turnV rs vis)[i]?=some x:=by rw [Jjk,hx,Option.map_some,if_neg hv]
 obtain ⟨r1,r2,he,hl⟩:=split_get h1
 refine ⟨r1,r2,he,?_⟩
 apply List.ext_getElem?
 intro j
 have h2:(turnV rs vis)[j]?=(r1++x::r2)[j]?:=by rw [he]
 rw [Jjk] at h2 ⊢
 rcases Nat.lt_trichotomy j i with h | h | h
 ·rw [List.getElem?_append_left (by omega)] at h2 ⊢
  rw [← h2]
  have:(j∈vis++[i])↔j∈vis:=by simp;omega
  simp only [this]
 ·subst h
  rw [hx,Option.map_some,if_pos (by simp),List.getElem?_append_right (by omega),hl,Nat.sub_self]
  rfl
 ·rw [List.getElem?_append_right (by omega)] at h2 ⊢
  obtain ⟨k,hk⟩:∃ k,j - r1.length=k+1:=⟨j - r1.length - 1,by omega⟩
  rw [hk,List.getElem?_cons_succ] at h2 ⊢
  rw [← h2]
  have:(j∈vis++[i])↔j∈vis:=by simp;omega
  simp only [this]
theorem turnV_all {rs:List (Pd × RelG)}{vis:List Nat}(h:∀ i,i<rs.length→i∈vis):turnV rs vis=rs.map fun x=>(x.1,turnG x.2):=by
 apply List.ext_getElem?
 intro i
 rw [Jjk,List.getElem?_map]
 by_cases hi:i<rs.length
 ·rw [List.getElem?_eq_getElem hi,Option.map_some,Option.map_some,if_pos (h i hi)]
 ·rw [List.getElem?_eq_none (by omega)];rfl
theorem rp_turnG (g:RelG):rp (turnG g)=(rp g).map fun p=>(p.1,if p.2=4 then 2 else 1):=by
 simp [rp,turnG,turnE]
theorem ns_len4 {g:RelG}(ok:RelOK g):g.ns.length=((rp g).filter fun q=>decide (q.2=4)).length:=by
 rw [ok.ns,List.length_map,rp,List.filter_map,List.length_map]
 rfl
abbrev turnB (g:BaseG):BaseG:={ g with rs:=g.rs.map fun x=>(x.1,turnG x.2) }
theorem factsB_turn (g:BaseG):Jci (turnB g)=turnF (Jci g):=by
 unfold Jci turnF
 show (g.rs.map _).flatMap _=_
 rw [List.flatMap_map,List.map_flatMap]
 congr 1
 funext x
 rw [rp_turnG,List.map_map,List.map_map]
 rfl
theorem turnB_ok {g:BaseG}(ok:BaseOK g):BaseOK (turnB g) where
 nb:=ok.nb
 vn:=ok.vn
 rn:=by
  show ((g.rs.map fun x=>(x.1,turnG x.2)).map (·.1)).Nodup
  rw [List.map_map];exact ok.rn
 ok x hx:=by obtain ⟨y,hy,rfl⟩:=List.mem_map.1 hx;exact turnG_ok (ok.ok y hy)
 wd x hx:=by obtain ⟨y,hy,rfl⟩:=List.mem_map.1 hx;exact ok.wd y hy
 ar x hx:=by obtain ⟨y,hy,rfl⟩:=List.mem_map.1 hx;exact ok.ar y hy
 inr x hx r hr:=by
  obtain ⟨y,hy,rfl⟩:=List.mem_map.1 hx
  rw [rp_turnG,List.map_map] at hr
  exact ok.inr y hy r hr
 vl:=ok.vl
 rl:=by show (g.rs.map _).length≤_;rw [List.length_map];exact ok.rl
 fl:=by
  show ((g.rs.map _).map _).sum≤_
  rw [List.map_map]
  have e:((fun x:Pd × RelG=>x.2.es.length) ∘ fun x:Pd × RelG=>(x.1,turnG x.2))=fun x:Pd × RelG=>x.2.es.length:=by funext x;simp [turnG]
  rw [e];exact ok.fl
theorem n4_sum (g:BaseG):n4F (Jci g)=(g.rs.map fun x=>((rp x.2).filter fun q=>decide (q.2=4)).length).sum:=by
 unfold n4F Jci
 rw [List.filter_flatMap,List.length_flatMap]
 congr 1
 refine List.map_congr_left fun x _=>?_
 rw [List.filter_map,List.length_map]
 rfl
theorem bturn_calls (g:BaseG)(ok:BaseOK g)(w:World)(hA:Holds (baseA g) w):Calls Tryz.prog 17 #[ptr g.p] w fun e w'=>e=.returned (.int .i64 ((n4F (Jci g):Nat):Int))∧Turns (baseA g) (baseA (turnB g)) w w':=by
 refine Jdl hA (args:=[ptr g.p]) Tryz.func17 rfl Tryz.ntmps17 rfl rfl ?_
 refine Csr (Za rfl (Nn (Csr (Za rfl (Nn (Cs (Csr (Zm rfl (Zv (OV.ak rfl) (Zv (OV.f0 2 rfl T.u105 rfl) (Zv (OV.l1 (v:=.map (some g.rb)) rfl T.u103 rfl (.head _) rfl) (WL.range T.u103 rfl (fun _ hw=>Jfa (kv:=relKV g.rs) (List.mem_append_right _ (.head _)) _ hw) rfl ?_))))))))))))
 intro it10
 refine Nn (Cb (WC.weak (S':=SatA w (baseA g) (own it10 (iterK g.rb (relKV g.rs).length [])::(tabA g++(rbA g::relsA (turnV g.rs []))))) (fun w' hw=>by rw [turnV_nil];exact hw) ?_))
 refine WC.cg (fun (vis:List Nat)=>[(0,ptr g.p),(3,.int .i64 ((((visL g.rs vis).map fun x=>((rp x.2).filter fun q=>decide (q.2=4)).length).sum:Nat):Int)),(10,.pointer (some ⟨it10,0,none⟩))])
   (fun vis w'=>Vs g.rs vis∧SatA w (baseA g) (own it10 (iterK g.rb (relKV g.rs).length vis)::(tabA g++(rbA g::relsA (turnV g.rs vis)))) w') (fun vis=>unseen (relKV g.rs).length vis) [] Y3 (fun w' hw=>⟨Vs.start _,hw⟩) ?_
 intro vis
 refine WC.pure (fun hvs=>?_)
 refine Csr ?_
 refine WL.next (enc:=pdV) (kv:=relKV g.rs) rfl rfl (fun _ hw=>Jfa (.tail _ (List.mem_append_right _ (.head _))) _ hw) ?_ ?_
 ·intro hall
  refine Zv (OV.extract rfl rfl) (Nn (Cs (WC.bu rfl ?_)))
  refine Ce (Xe (Xe (Xh (Xn (Csr (Zm rfl (Za rfl (Nn (WC.az ?_)))))))))
  have hal:∀ i,i<g.rs.length→i∈vis:=fun i hi=>hall i (by rw [relKV_len];exact hi)
  refine WX.ret1 rfl rfl rfl (fun w' hw=>⟨by rw [n4_sum,((hvs.all hal).map _).sum_nat],?_⟩)
  refine Hw.Sat.turned (hw.drop.perm (List.Perm.of_eq ?_))
  have hk:=turnV_kv g.rs vis
  rw [turnV_all hal] at hk ⊢
  unfold baseA rbA
  rw [show relKV (turnB g).rs=relKV g.rs from hk]
  rfl
 intro i q hi2 hv
 obtain ⟨x,hx,hxm,rfl,hil⟩:=relKV_get hi2
 refine Zv (OV.extract rfl rfl) (Nn (Cs (WC.cj rfl ?_)))
 refine Ck (Xn (Cb (Csr (Zv (OV.entry (enc:=pdV) (kv:=relKV g.rs) (i:=i) rfl (fun _ hw=>hw.it _ (.head _)) (fun _ hw=>Jfa (.tail _ (List.mem_append_right _ (.head _))) _ hw) hi2) (Zv (OV.extract rfl rfl) (Za rfl (Nn (Cr (Zm rfl (Zm rfl ?_))))))))))
 have okr:=ok.ok _ hxm
 obtain ⟨r1,r2,hr1,hr2⟩:=turnV_step hx hv
 have hbd:((visL g.rs vis).map fun x=>((rp x.2).filter fun q=>decide (q.2=4)).length).sum+x.2.ns.length≤1099511627776:=by
  have h1:=vis_le (f:=fun x:Pd × RelG=>((rp x.2).filter fun q=>decide (q.2=4)).length) (f2:=fun x=>x.2.es.length) (fun y=>by have:=List.length_filter_le (fun q:List Int × Nat=>decide (q.2=4)) (rp y.2);rw [Jnq] at this;exact this) (hvs.step hil hv)
  rw [Jlf hx,List.map_append,List.sum_append] at h1
  have:=ok.fl
  rw [ns_len4 okr]
  simp only [List.map_cons,List.map_nil,List.sum_cons,List.sum_nil] at h1
  omega
 refine WL.focus (ow':=own it10 (iterK g.rb (relKV g.rs).length (vis++[i]))::(tabA g++(rbA g::(relsA r1++(relA x.2++relsA r2))))) (List.Perm.of_eq (by rw [hr1,show x=(x.1,x.2) from rfl,Jez])) ?_
 refine WL.focus (ow':=relA x.2++([own it10 (iterK g.rb (relKV g.rs).length (vis++[i]))]++(tabA g++([rbA g]++(relsA r1++(relsA r2)))))) (pmC [[own it10 (iterK g.rb (relKV g.rs).length (vis++[i]))],tabA g,[rbA g],relsA r1,relA x.2,relsA r2] [4,0,1,2,3,5]) ?_
 refine WL.cT (ι:=Unit) (vs:=[ptr x.2.r]) (vv:=fun _=>.int .i64 ((x.2.ns.length:Nat):Int)) (pp:=fun _=>True) (relA x.2) (AA:=fun _=>relA (turnG x.2)) rfl (fun w' hw' hH=>(turn_calls x.2 okr w' hH).mono (fun en w'' ⟨h1,h2⟩=>⟨(),h1,trivial,h2⟩)) ?_
 rintro _ _
 refine WL.focus (ow':=[own it10 (iterK g.rb (relKV g.rs).length (vis++[i]))]++(tabA g++([rbA g]++(relsA r1++(relA (turnG x.2)++(relsA r2)))))) (pmC [relA (turnG x.2),[own it10 (iterK g.rb (relKV g.rs).length (vis++[i]))],tabA g,[rbA g],relsA r1,relsA r2] [1,2,3,4,0,5]) ?_
 refine Zv (OV.bi (i:=((visL g.rs vis).map fun x=>((rp x.2).filter fun q=>decide (q.2=4)).length).sum) (j:=x.2.ns.length) rfl rfl (by have:=hbd;omega)) (Za rfl (Nl (Xb ?_)))
 exact WX.bg (vis++[i]) ⟨rfl,by rw [Jlf hx,List.map_append,List.sum_append];simp only [List.map_cons,List.map_nil,List.sum_cons,List.sum_nil,Nat.add_zero,← ns_len4 okr];rfl,rfl,trivial⟩ (fun w' hw=>⟨hvs.step hil hv,by rw [hr2,Jez];exact hw⟩) (Jjj (by rw [relKV_len];exact hil) hv)
structure SameB (g g1:BaseG):Prop where
 p:g1.p=g.p
 nb:g1.nb=g.nb
 va:g1.va=g.va
 vc:g1.vc=g.vc
 vs:g1.vs=g.vs
 rb:g1.rb=g.rb
 len:g1.rs.length=g.rs.length
 at_:∀ (i:Nat) (x:Pd × RelG),g.rs[i]?=some x→∃ x':Pd × RelG,g1.rs[i]?=some x'∧x'.1=x.1∧x'.2.es=x.2.es∧x'.2.r=x.2.r∧x'.2.width=x.2.width∧RelOK x'.2
theorem SameB.refl {g:BaseG}(ok:BaseOK g):SameB g g:=⟨rfl,rfl,rfl,rfl,rfl,rfl,rfl,fun i x hx=>⟨x,hx,rfl,rfl,rfl,rfl,ok.ok x (List.mem_of_getElem? hx)⟩⟩
theorem SameB.map {g g1:BaseG}(h:SameB g g1){β:Type}(f:Pd × RelG→β)(hf:∀ x x':Pd × RelG,x'.1=x.1→x'.2.es=x.2.es→x'.2.r=x.2.r→x'.2.width=x.2.width→f x'=f x):g1.rs.map f=g.rs.map f:=by
 apply List.ext_getElem?
 intro i
 rw [List.getElem?_map,List.getElem?_map]
 cases hx:g.rs[i]? with
 | none=>
  have h1:=List.getElem?_eq_none_iff.1 hx
  rw [List.getElem?_eq_none (by rw [h.len];exact h1)]
 | some x=>
  obtain ⟨x',h1,h2,h3,h4,h5,_⟩:=h.at_ i x hx
  rw [h1,Option.map_some,Option.map_some,hf x x' h2 h3 h4 h5]
theorem SameB.kv {g g1:BaseG}(h:SameB g g1):relKV g1.rs=relKV g.rs:=h.map _ fun x x' h1 _ h3 _=>by rw [h1,h3]
theorem SameB.facts {g g1:BaseG}(h:SameB g g1):Jci g1=Jci g:=by
 unfold Jci
 rw [List.flatMap_def,List.flatMap_def,h.vs]
 exact congrArg List.flatten (h.map _ fun x x' h1 h2 _ _=>by rw [h1,rp,h2,rp])
theorem SameB.back {g g1:BaseG}(h:SameB g g1){i:Nat}{x':Pd × RelG}(hx:g1.rs[i]?=some x'):∃ x,g.rs[i]?=some x∧x'.1=x.1∧x'.2.es=x.2.es∧x'.2.r=x.2.r∧x'.2.width=x.2.width∧RelOK x'.2:=by
 have hi:i<g.rs.length:=by rw [← h.len];exact (List.getElem?_eq_some_iff.1 hx).1
 obtain ⟨y,h1,h2⟩:=h.at_ i _ (List.getElem?_eq_getElem hi)
 rw [hx] at h1;cases h1
 exact ⟨_,List.getElem?_eq_getElem hi,h2⟩
theorem SameB.ok {g g1:BaseG}(h:SameB g g1)(ok:BaseOK g):BaseOK g1:=by
 have hb:∀ {C:Pd × RelG→Prop},(∀ x x':Pd × RelG,x∈g.rs→x'.1=x.1→x'.2.es=x.2.es→x'.2.width=x.2.width→RelOK x'.2→C x')→∀ x∈g1.rs,C x:=by
  intro C hc x hx
  obtain ⟨i,hi⟩:=List.mem_iff_getElem?.1 hx
  obtain ⟨y,h1,h2,h3,_,h5,h6⟩:=h.back hi
  exact hc y x (List.mem_of_getElem? h1) h2 h3 h5 h6
 refine ⟨by rw [h.nb,h.vs];exact ok.nb,by rw [h.vs];exact ok.vn,by rw [h.map (·.1) (fun x x' h1 _ _ _=>h1)];exact ok.rn,hb fun x x' _ _ _ _ h=>h,hb fun x x' hx h1 _ h3 _=>by rw [h3,h1];exact ok.wd x hx,hb fun x x' hx h1 _ _ _=>by rw [h1];exact ok.ar x hx,hb fun x x' hx _ h2 _ _ r hr k hk=>by
  rw [rp,h2] at hr
  rw [h.vs]
  exact ok.inr x hx r hr k hk,by rw [h.vs];exact ok.vl,by rw [h.len];exact ok.rl,by rw [h.map (fun x=>x.2.es.length) (fun x x' _ h2 _ _=>by rw [h2])];exact ok.fl⟩
theorem SameB.trans {g g1 g2:BaseG}(h:SameB g g1)(k:SameB g1 g2):SameB g g2:=
 ⟨k.p.trans h.p,k.nb.trans h.nb,k.va.trans h.va,k.vc.trans h.vc,k.vs.trans h.vs,k.rb.trans h.rb,k.len.trans h.len,fun i x hx=>by
  obtain ⟨x1,h1,h2,h3,h4,h5,_⟩:=h.at_ i x hx
  obtain ⟨x2,k1,k2,k3,k4,k5,k6⟩:=k.at_ i x1 h1
  exact ⟨x2,k1,k2.trans h2,k3.trans h3,k4.trans h4,k5.trans h5,k6⟩⟩
theorem SameB.setRel {g g1:BaseG}(h:SameB g g1){r1 r2:List (Pd × RelG)}{x:Pd × RelG}(hs:g1.rs=r1++x::r2){gr:RelG}(h1:gr.es=x.2.es)(h2:gr.r=x.2.r)(h3:gr.width=x.2.width)(h4:RelOK gr):SameB g { g1 with rs:=r1++(x.1,gr)::r2 }:=by
 refine ⟨h.p,h.nb,h.va,h.vc,h.vs,h.rb,by have:=h.len;rw [hs] at this;simpa using this,fun i y hy=>?_⟩
 obtain ⟨y',k1,k2,k3,k4,k5,k6⟩:=h.at_ i y hy
 rw [hs] at k1
 show ∃ x',(r1++(x.1,gr)::r2)[i]?=some x'∧_
 rcases Nat.lt_trichotomy i r1.length with hi | hi | hi
 ·rw [List.getElem?_append_left hi] at k1 ⊢
  exact ⟨y',k1,k2,k3,k4,k5,k6⟩
 ·rw [List.getElem?_append_right (by omega),hi,Nat.sub_self] at k1 ⊢
  simp only [List.getElem?_cons_zero,Option.some.injEq] at k1
  subst k1
  exact ⟨(x.1,gr),rfl,k2,h1.trans k3,h2.trans k4,h3.trans k5,h4⟩
 ·rw [List.getElem?_append_right (by omega)] at k1 ⊢
  obtain ⟨k,hk⟩:∃ k,i - r1.length=k+1:=⟨i - r1.length - 1,by omega⟩
  rw [hk,List.getElem?_cons_succ] at k1 ⊢
  exact ⟨y',k1,k2,k3,k4,k5,k6⟩
end Go.Proofs.YtgebaodagaecmaaGreatDoor
namespace Go.Proofs
set_option linter.unusedSimpArgs false
set_option linter.unusedVariables false
open Go Go.Shelf
set_option maxRecDepth 100000
def Tryz.sortA_ren:Go.Shelf.Ren:=⟨fun | 6=>54 | 15=>91 | 14=>98 | 28=>128 | 29=>129 | 20=>138 | 21=>139 | 22=>140 | 23=>141 | 24=>142 | 25=>143 | 26=>144 | 27=>145 | 46=>169 | 47=>160 | 48=>161 | 49=>170 | 50=>171 | 57=>186 | n=>n,fun | 22=>22 | 24=>29 | 25=>73 | 3=>3 | 39=>151 | 0=>0 | 53=>163 | 55=>205 | 4=>4 | 46=>198 | 45=>197 | 50=>179 | 5=>5 | 9=>9 | 66=>235 | 70=>239 | 76=>247 | 77=>248 | n=>n,fun | n=>n⟩
theorem Tryz.sortA:Go.Proofs.SlLaysF0.n6 Tryz.prog Tryz.sortA_ren:={
 mixed:=by kernel_rfl
 f6:=⟨Tryz.f54.name,by decide,Tryz.func54.trans (congrArg some (by kernel_rfl))⟩
 f14:=⟨Tryz.f98.name,by decide,Tryz.func98.trans (congrArg some (by kernel_rfl))⟩
 f15:=Tryz.func91.trans (congrArg some (by kernel_rfl))
 f20:=⟨Tryz.f138.name,by decide,Tryz.func138.trans (congrArg some (by kernel_rfl))⟩
 f21:=⟨Tryz.f139.name,by decide,Tryz.func139.trans (congrArg some (by kernel_rfl))⟩
 f22:=⟨Tryz.f140.name,by decide,Tryz.func140.trans (congrArg some (by kernel_rfl))⟩
 f23:=⟨Tryz.f141.name,by decide,Tryz.func141.trans (congrArg some (by kernel_rfl))⟩
 f24:=⟨Tryz.f142.name,by decide,Tryz.func142.trans (congrArg some (by kernel_rfl))⟩
 f25:=⟨Tryz.f143.name,by decide,Tryz.func143.trans (congrArg some (by kernel_rfl))⟩
 f26:=⟨Tryz.f144.name,by decide,Tryz.func144.trans (congrArg some (by kernel_rfl))⟩
 f27:=⟨Tryz.f145.name,by decide,Tryz.func145.trans (congrArg some (by kernel_rfl))⟩
 f28:=Tryz.func128.trans (congrArg some (by kernel_rfl))
 f29:=Tryz.func129.trans (congrArg some (by kernel_rfl))
 f46:=⟨Tryz.f169.name,by decide,Tryz.func169.trans (congrArg some (by kernel_rfl))⟩
 f47:=Tryz.func160.trans (congrArg some (by kernel_rfl))
 f48:=Tryz.func161.trans (congrArg some (by kernel_rfl))
 f49:=⟨Tryz.f170.name,by decide,Tryz.func170.trans (congrArg some (by kernel_rfl))⟩
 f50:=⟨Tryz.f171.name,by decide,Tryz.func171.trans (congrArg some (by kernel_rfl))⟩
 f57:=⟨Tryz.f186.name,by decide,Tryz.func186.trans (congrArg some (by kernel_rfl))⟩
 t0:=Tryz.underlying0
 a0:=Tryz.isAgg0
 z0:=Tryz.sizeOf0
 v0:=Tryz.zeroValue0
 t3:=Tryz.underlying3
 a3:=Tryz.isAgg3
 z3:=Tryz.sizeOf3
 v3:=Tryz.zeroValue3
 t4:=Tryz.underlying4
 a4:=Tryz.isAgg4
 z4:=Tryz.sizeOf4
 v4:=Tryz.zeroValue4
 t5:=Tryz.underlying5
 a5:=Tryz.isAgg5
 z5:=Tryz.sizeOf5
 v5:=Tryz.zeroValue5
 t9:=Tryz.underlying9
 a9:=Tryz.isAgg9
 z9:=Tryz.sizeOf9
 v9:=Tryz.zeroValue9
 t22:=Tryz.underlying22
 a22:=Tryz.isAgg22
 z22:=Tryz.sizeOf22
 v22:=Tryz.zeroValue22
 t25:=Tryz.underlying73
 a25:=Tryz.isAgg73
 z25:=Tryz.sizeOf73
 v25:=Tryz.zeroValue73
 t39:=Tryz.underlying151
 a39:=Tryz.isAgg151
 z39:=Tryz.sizeOf151
 v39:=Tryz.zeroValue151
 t45:=Tryz.underlying197
 a45:=Tryz.isAgg197
 z45:=Tryz.sizeOf197
 v45:=Tryz.zeroValue197
 t46:=Tryz.underlying198
 a46:=Tryz.isAgg198
 z46:=Tryz.sizeOf198
 v46:=Tryz.zeroValue198
 t50:=Tryz.underlying179
 a50:=Tryz.isAgg179
 z50:=Tryz.sizeOf179
 v50:=Tryz.zeroValue179
 t53:=Tryz.underlying163
 a53:=Tryz.isAgg163
 z53:=Tryz.sizeOf163
 v53:=Tryz.zeroValue163
 t55:=Tryz.underlying205
 a55:=Tryz.isAgg205
 z55:=Tryz.sizeOf205
 v55:=Tryz.zeroValue205
 t66:=Tryz.underlying235
 a66:=Tryz.isAgg235
 z66:=Tryz.sizeOf235
 v66:=Tryz.zeroValue235
 t70:=Tryz.underlying239
 a70:=Tryz.isAgg239
 z70:=Tryz.sizeOf239
 v70:=Tryz.zeroValue239
 t76:=Tryz.underlying247
 a76:=Tryz.isAgg247
 z76:=Tryz.sizeOf247
 v76:=Tryz.zeroValue247
 t77:=Tryz.underlying248
 a77:=Tryz.isAgg248
 z77:=Tryz.sizeOf248
 v77:=Tryz.zeroValue248 }
def Tryz.sortB_ren:Go.Shelf.Ren:=⟨fun | 14=>172 | 20=>187 | 21=>188 | 22=>189 | 23=>190 | 24=>191 | 25=>192 | 26=>193 | 27=>194 | 46=>216 | 47=>160 | 48=>161 | 49=>217 | 50=>218 | 15=>91 | 57=>234 | 28=>128 | 29=>129 | n=>n,fun | 24=>64 | 22=>53 | 3=>3 | 25=>225 | 4=>4 | 0=>0 | 46=>198 | 45=>197 | 50=>179 | 66=>235 | 39=>151 | 55=>205 | 70=>239 | 76=>247 | 77=>248 | 53=>163 | 5=>5 | 9=>9 | n=>n,fun | n=>n⟩
theorem Tryz.sortB:Go.Proofs.SlLaysF0.n14 Tryz.prog Tryz.sortB_ren:={
 mixed:=by kernel_rfl
 f14:=⟨Tryz.f172.name,by decide,Tryz.func172.trans (congrArg some (by kernel_rfl))⟩
 f15:=Tryz.func91.trans (congrArg some (by kernel_rfl))
 f20:=⟨Tryz.f187.name,by decide,Tryz.func187.trans (congrArg some (by kernel_rfl))⟩
 f21:=⟨Tryz.f188.name,by decide,Tryz.func188.trans (congrArg some (by kernel_rfl))⟩
 f22:=⟨Tryz.f189.name,by decide,Tryz.func189.trans (congrArg some (by kernel_rfl))⟩
 f23:=⟨Tryz.f190.name,by decide,Tryz.func190.trans (congrArg some (by kernel_rfl))⟩
 f24:=⟨Tryz.f191.name,by decide,Tryz.func191.trans (congrArg some (by kernel_rfl))⟩
 f25:=⟨Tryz.f192.name,by decide,Tryz.func192.trans (congrArg some (by kernel_rfl))⟩
 f26:=⟨Tryz.f193.name,by decide,Tryz.func193.trans (congrArg some (by kernel_rfl))⟩
 f27:=⟨Tryz.f194.name,by decide,Tryz.func194.trans (congrArg some (by kernel_rfl))⟩
 f28:=Tryz.func128.trans (congrArg some (by kernel_rfl))
 f29:=Tryz.func129.trans (congrArg some (by kernel_rfl))
 f46:=⟨Tryz.f216.name,by decide,Tryz.func216.trans (congrArg some (by kernel_rfl))⟩
 f47:=Tryz.func160.trans (congrArg some (by kernel_rfl))
 f48:=Tryz.func161.trans (congrArg some (by kernel_rfl))
 f49:=⟨Tryz.f217.name,by decide,Tryz.func217.trans (congrArg some (by kernel_rfl))⟩
 f50:=⟨Tryz.f218.name,by decide,Tryz.func218.trans (congrArg some (by kernel_rfl))⟩
 f57:=⟨Tryz.f234.name,by decide,Tryz.func234.trans (congrArg some (by kernel_rfl))⟩
 t0:=Tryz.underlying0
 a0:=Tryz.isAgg0
 z0:=Tryz.sizeOf0
 v0:=Tryz.zeroValue0
 t3:=Tryz.underlying3
 a3:=Tryz.isAgg3
 z3:=Tryz.sizeOf3
 v3:=Tryz.zeroValue3
 t4:=Tryz.underlying4
 a4:=Tryz.isAgg4
 z4:=Tryz.sizeOf4
 v4:=Tryz.zeroValue4
 t5:=Tryz.underlying5
 a5:=Tryz.isAgg5
 z5:=Tryz.sizeOf5
 v5:=Tryz.zeroValue5
 t9:=Tryz.underlying9
 a9:=Tryz.isAgg9
 z9:=Tryz.sizeOf9
 v9:=Tryz.zeroValue9
 t22:=Tryz.underlying53
 a22:=Tryz.isAgg53
 z22:=Tryz.sizeOf53
 v22:=Tryz.zeroValue53
 t25:=Tryz.underlying225
 a25:=Tryz.isAgg225
 z25:=Tryz.sizeOf225
 v25:=Tryz.zeroValue225
 t39:=Tryz.underlying151
 a39:=Tryz.isAgg151
 z39:=Tryz.sizeOf151
 v39:=Tryz.zeroValue151
 t45:=Tryz.underlying197
 a45:=Tryz.isAgg197
 z45:=Tryz.sizeOf197
 v45:=Tryz.zeroValue197
 t46:=Tryz.underlying198
 a46:=Tryz.isAgg198
 z46:=Tryz.sizeOf198
 v46:=Tryz.zeroValue198
 t50:=Tryz.underlying179
 a50:=Tryz.isAgg179
 z50:=Tryz.sizeOf179
 v50:=Tryz.zeroValue179
 t53:=Tryz.underlying163
 a53:=Tryz.isAgg163
 z53:=Tryz.sizeOf163
 v53:=Tryz.zeroValue163
 t55:=Tryz.underlying205
 a55:=Tryz.isAgg205
 z55:=Tryz.sizeOf205
 v55:=Tryz.zeroValue205
 t66:=Tryz.underlying235
 a66:=Tryz.isAgg235
 z66:=Tryz.sizeOf235
 v66:=Tryz.zeroValue235
 t70:=Tryz.underlying239
 a70:=Tryz.isAgg239
 z70:=Tryz.sizeOf239
 v70:=Tryz.zeroValue239
 t76:=Tryz.underlying247
 a76:=Tryz.isAgg247
 z76:=Tryz.sizeOf247
 v76:=Tryz.zeroValue247
 t77:=Tryz.underlying248
 a77:=Tryz.isAgg248
 z77:=Tryz.sizeOf248
 v77:=Tryz.zeroValue248 }
def Tryz.bitsLen_ren:Go.Shelf.Ren:=⟨fun | 15=>91 | 28=>128 | 29=>129 | n=>n,fun | 39=>151 | 3=>3 | 53=>163 | 55=>205 | 4=>4 | 5=>5 | 9=>9 | n=>n,fun | n=>n⟩
theorem Tryz.bitsLen:Go.Proofs.SlLaysF0.n15 Tryz.prog Tryz.bitsLen_ren:={
 mixed:=by kernel_rfl
 f15:=Tryz.func91.trans (congrArg some (by kernel_rfl))
 f28:=Tryz.func128.trans (congrArg some (by kernel_rfl))
 f29:=Tryz.func129.trans (congrArg some (by kernel_rfl))
 t3:=Tryz.underlying3
 a3:=Tryz.isAgg3
 z3:=Tryz.sizeOf3
 v3:=Tryz.zeroValue3
 t4:=Tryz.underlying4
 a4:=Tryz.isAgg4
 z4:=Tryz.sizeOf4
 v4:=Tryz.zeroValue4
 t5:=Tryz.underlying5
 a5:=Tryz.isAgg5
 z5:=Tryz.sizeOf5
 v5:=Tryz.zeroValue5
 t9:=Tryz.underlying9
 a9:=Tryz.isAgg9
 z9:=Tryz.sizeOf9
 v9:=Tryz.zeroValue9
 t39:=Tryz.underlying151
 a39:=Tryz.isAgg151
 z39:=Tryz.sizeOf151
 v39:=Tryz.zeroValue151
 t53:=Tryz.underlying163
 a53:=Tryz.isAgg163
 z53:=Tryz.sizeOf163
 v53:=Tryz.zeroValue163
 t55:=Tryz.underlying205
 a55:=Tryz.isAgg205
 z55:=Tryz.sizeOf205
 v55:=Tryz.zeroValue205 }
end Go.Proofs
set_option maxRecDepth 10000
namespace Go.Proofs.YtgebaodagaecmaaGreatDoor
open Go Go.Hw
set_option linter.unusedSimpArgs false
set_option linter.unusedVariables false
structure AG where
 x:At
 a:Option Addr
 c:Nat
def agC (y:AG):List Value:=atC y.x y.a y.c
theorem Joe (y:AG):(agC y).length=5:=rfl
theorem Jji (y:AG):∀ v∈agC y,v.oneCell'=true:=by simp [agC,atC,Value.oneCell']
abbrev argA (y:AG):Hw.Item:=rowT y.a y.c y.x.args
abbrev argsA (ys:List AG):List Hw.Item:=ys.map argA
abbrev rowAt (la:Option Addr)(lc:Nat)(ys:List AG):Hw.Item:=row 29 5 la ys.length lc (ys.flatMap agC)
def atsA (la:Option Addr)(lc:Nat)(ys:List AG):List Hw.Item:=rowAt la lc ys::argsA ys
def sortA (l:List At):List At:=l.mergeSort fun a b=>!decide (cmpA b a<0)
theorem Jf8 (l:List At):(sortA l).Perm l:=List.mergeSort_perm _ _
theorem sortA_sorted (l:List At):(sortA l).Pairwise fun a b=>¬ cmpA b a<0:=by
 have hO:=cmpA_ok.swo
 have h:=List.pairwise_mergeSort (le:=fun a b=>!decide (cmpA b a<0)) (fun a b c h1 h2=>by
  simp only [Bool.not_eq_true',decide_eq_false_iff_not] at *
  have:=hO.ntrans c b a (by simpa [Go.Proofs.ltOf] using h2) (by simpa [Go.Proofs.ltOf] using h1)
  simpa [Go.Proofs.ltOf] using this) (fun a b=>by
  simp only [Bool.or_eq_true,Bool.not_eq_true',decide_eq_false_iff_not]
  have:=cmpA_ok.anti a b
  omega) l
 refine h.imp ?_
 intro a b hab
 simpa using hab
theorem sortA_eq {ys rows:List At}(hp:ys.Perm rows)(hs:ys.Pairwise fun a b=>¬ cmpA b a<0):ys=sortA rows:=by
 refine List.Perm.eq_of_pairwise (le:=fun a b=>¬ cmpA b a<0) (fun a b _ _ h1 h2=>?_) hs (sortA_sorted rows) (hp.trans (Jf8 _).symm)
 have:=cmpA_ok.anti a b
 exact cmpA_ok.eq _ _ (by omega)
theorem T.apA:appB Tryz.prog 22 29 5 72=true:=by kernel_rfl
theorem RT.fr {w w':World}{M:Nat→Prop}{a:Option Addr}{ts:List Tm}(h:RT w a ts)(hne:∀ q,a=some q→0<ts.length→¬ M q.block)(hf:Fr M w w'):RT w' a ts:=by
 refine ⟨h.nil,fun q hq i t ht j v hv=>?_⟩
 have hl:0<ts.length:=by have:=(List.getElem?_eq_some_iff.1 ht).1;omega
 have h1:=h.at_ q hq i t ht j v hv
 have h2:=hf.keep q.block (h.lt hq hl) (hne q hq hl)
 unfold World.cell? at h1 ⊢
 rw [Jcq,Jcq] at h1 ⊢
 rw [h2];exact h1
theorem CmpOK.pull_swo {α β:Type}{f:β→β→Int}(hf:CmpOK f)(m:α→β):Go.Sort.SWO (Go.Proofs.ltOf fun a b=>f (m a) (m b)):=
 ⟨fun a=>hf.swo.irrefl (m a),fun a b c=>hf.swo.trans (m a) (m b) (m c),fun a b c=>hf.swo.ntrans (m a) (m b) (m c)⟩
theorem Jck {w:World}{T:TypeId}{size:Nat}{a:Option Addr}{q:Addr}{m cap:Nat}{xs:List Value}(hq:a=some q)(h:(row T size a m cap xs).φ w):∀ j u,xs[j]?=some u→w.cell? (q.add j)=some u:=by
 subst hq
 intro j u hj
 have h1:w.ownsRow 0 T size (.slice (some q) m cap) m xs:=h
 have h2:=h1.cells (g:=q.block) rfl j u hj
 rcases h1.2 with ⟨hv,_⟩ | ⟨g,c,cur,hv,_⟩
 ·cases hv
 ·simp only [Value.slice.injEq,Option.some.injEq] at hv
  rw [hv.1] at h2 ⊢
  exact h2
theorem Jd1 {w0 ws w:World}{M I:Nat→Prop}{ow:List Hw.Item}(h:Sat w0 M I ws ow w){T:TypeId}{size:Nat}{a:Option Addr}{q:Addr}{m cap:Nat}{xs:List Value}(hq:a=some q)(hm:row T size a m cap xs∈ow):∀ j u,xs[j]?=some u→w.cell? (q.add j)=some u:=
 Jck hq (h.it _ hm)
theorem row_cap {w:World}{T c m:Nat}{a:Option Addr}{xs:List Value}(h:(row T 1 a m c xs).φ w):m≤c:=by
 have h1:w.ownsRow 0 T 1 (.slice a m c) m xs:=h
 rcases h1.2 with ⟨hv,h0⟩ | ⟨g,cc,cur,hv,_,_,hmc,_⟩
 ·omega
 ·simp only [Value.slice.injEq] at hv;omega
abbrev rowPd (la:Option Addr)(lc:Nat)(ys:List Pd):Hw.Item:=row 107 2 la ys.length lc (ys.flatMap pdC)
theorem take_extA {α:Type}{l m:List α}{i:Nat}(h1:l.length=m.length)(h:l.take i=m.take i)(hi:l.length≤i):l=m:=by
 rwa [List.take_of_length_le hi,List.take_of_length_le (by omega)] at h
structure RA (w:World) (a:Option Addr) (ys:List AG):Prop where
 nil:a=none→ys.length=0
 at_:∀ q,a=some q→∀ i y,ys[i]?=some y→∀ j v,(agC y)[j]?=some v→w.cell? ((q.add (i*5)).add j)=some v
 args:∀ y∈ys,RT w y.a y.x.args
theorem RA.keeps {w w':World}{a:Option Addr}{ys:List AG}(h:RA w a ys)(k:Keeps w w'):RA w' a ys:=⟨h.nil,fun q hq i t ht j v hv=>k _ _ (h.at_ q hq i t ht j v hv),fun y hy=>(h.args y hy).keeps k⟩
theorem RA.get {w:World}{a:Option Addr}{ys:List AG}(h:RA w a ys){i:Nat}(hi:i<ys.length):∃ q y,a=some q∧ys[i]?=some y∧y∈ys∧RT w y.a y.x.args∧∀ j v,(agC y)[j]?=some v→w.cell? ((q.add (i*5)).add j)=some v:=by
 cases a with
 | none=>have:=h.nil rfl;omega
 | some q=>exact ⟨q,ys[i],rfl,List.getElem?_eq_getElem hi,List.getElem_mem hi,h.args _ (List.getElem_mem hi),h.at_ q rfl i _ (List.getElem?_eq_getElem hi)⟩
theorem RA.of_row {w0 ws w:World}{M I:Nat→Prop}{ow:List Hw.Item}{a:Option Addr}{c:Nat}{ys:List AG}(hw:Sat w0 M I ws ow w)(hm:∀ i∈atsA a c ys,i∈ow):RA w a ys:=by
 have hr:rowAt a c ys∈ow:=hm _ (.head _)
 refine ⟨fun ha=>?_,fun q hq i t ht j v hv=>?_,fun y hy=>RT.of_row (c:=y.c) rfl hw (hm _ (.tail _ (List.mem_map.2 ⟨y,hy,rfl⟩)))⟩
 ·rcases (Jdt hw hr).2 with ⟨_,h,_⟩ | ⟨b,hb,_⟩
  ·exact h
  ·rw [ha] at hb;cases hb
 ·subst hq
  have hj:j<5:=(List.getElem?_eq_some_iff.1 hv).1
  have h1:=Jdf hw hr (i*5+j) v (by rw [Jco Joe ys i j t ht hj];exact hv)
  rwa [Jdm] at h1
structure RP (w:World) (a:Option Addr) (ys:List Pd):Prop where
 nil:a=none→ys.length=0
 at_:∀ q,a=some q→∀ i y,ys[i]?=some y→∀ j v,(pdC y)[j]?=some v→w.cell? ((q.add (i*2)).add j)=some v
theorem RP.get {w:World}{a:Option Addr}{ys:List Pd}(h:RP w a ys){i:Nat}(hi:i<ys.length):∃ q y,a=some q∧ys[i]?=some y∧y∈ys∧∀ j v,(pdC y)[j]?=some v→w.cell? ((q.add (i*2)).add j)=some v:=by
 cases a with
 | none=>have:=h.nil rfl;omega
 | some q=>exact ⟨q,ys[i],rfl,List.getElem?_eq_getElem hi,List.getElem_mem hi,h.at_ q rfl i _ (List.getElem?_eq_getElem hi)⟩
theorem pdC_len':∀ y:Pd,(pdC y).length=2:=fun _=>rfl
theorem RP.of_row {w0 ws w:World}{M I:Nat→Prop}{ow:List Hw.Item}{a:Option Addr}{c:Nat}{ys:List Pd}(hw:Sat w0 M I ws ow w)(hr:rowPd a c ys∈ow):RP w a ys:=by
 refine ⟨fun ha=>?_,fun q hq i t ht j v hv=>?_⟩
 ·rcases (Jdt hw hr).2 with ⟨_,h,_⟩ | ⟨b,hb,_⟩
  ·exact h
  ·rw [ha] at hb;cases hb
 ·subst hq
  have hj:j<2:=(List.getElem?_eq_some_iff.1 hv).1
  have h1:=Jdf hw hr (i*2+j) v (by rw [Jco pdC_len' ys i j t ht hj];exact hv)
  rwa [Jdm] at h1
theorem sameTerms_calls (ls ms:List Tm)(a1 a2:Option Addr)(c1 c2:Nat)(h1:ls.length≤1099511627776)(h2:ms.length≤1099511627776)(w:World)(hr1:RT w a1 ls)(hr2:RT w a2 ms):Calls Tryz.prog 48 #[.slice a1 ls.length c1,.slice a2 ms.length c2] w fun e w'=>e=.returned (.bool (decide (ls=ms)))∧Fr0 w w':=by
 refine Jbl (args:=[.slice a1 ls.length c1,.slice a2 ms.length c2]) (fun _=>False) Tryz.func48 rfl Tryz.ntmps48 rfl rfl ?_
 refine Csr (Za rfl (Nn (Cs (Csr (Zm rfl (Zv (OV.ae rfl T.u27) (Zm rfl (Zv (OV.ae rfl T.u27) (Zv (OV.ic rfl rfl) (Nn ?_))))))))))
 refine Cc rfl (fun c10=>?_) (fun c10=>?_)
 ·refine Csr (Za rfl (Nn (WC.az ?_)))
  refine Xr ?_
  exact WX.ret1 rfl rfl rfl (fun w' hw=>⟨by rw [decide_eq_false (fun h=>c10 (by have h9:=congrArg List.length h;(try simp only [List.length_map] at h9);omega))],hw.fr⟩)
 refine Ck (Xn (Cs (Csr (Za rfl (Nn (Cb ?_))))))
 refine WC.cg (fun (i:Nat)=>[(0,.slice a1 ls.length c1),(1,.slice a2 ms.length c2),(5,.int .i64 (i:Int))])
   (fun i w'=>(i≤ls.length∧ls.take i=ms.take i)∧Sat w (fun _=>False) (fun b=>b<w.heap.size) w [] w')
   (fun i=>ls.length - i) 0 Y3 (fun w' hw=>⟨⟨by omega,by simp⟩,hw⟩) ?_
 intro i
 refine WC.pure (fun hi=>?_)
 obtain ⟨hi,heq⟩:=hi
 refine Cs (Csr (Zm rfl (Zm rfl (Zv (OV.ae rfl T.u27) (Zv (OV.cm rfl rfl) (Nn ?_))))))
 refine Cc rfl (fun c14=>?_) (fun c14=>?_)
 ·refine Ck (Xn (Cs (Cb (Cs (Hq [] (m:=9) rfl ?_)))))
  refine Hf 0 rfl (OV.aw rfl) (Hf 1 rfl (OV.aw rfl) ?_)
  obtain ⟨q1,t1,rfl,ht1,hm1,_,hc1⟩:=hr1.get (i:=i) (by omega)
  obtain ⟨q2,t2,rfl,ht2,hm2,_,hc2⟩:=hr2.get (i:=i) (by omega)
  refine Hf 2 rfl ((OV.ad rfl rfl T.u27 T.z26 (by omega)).cast (u:=.pointer (some (q1.add (i*3)))) (by rw [Int.toNat_natCast])) (Ht 3 rfl (OV.ai (cs:=tmC t1) rfl T.u26 rfl T.z26 (fun _ hw j v hj=>hw.keeps _ _ (hc1 j v hj))) (Hf 4 rfl (OV.aw rfl) (Hf 5 rfl (OV.aw rfl) (Hf 6 rfl ((OV.ad rfl rfl T.u27 T.z26 (by omega)).cast (u:=.pointer (some (q2.add (i*3)))) (by rw [Int.toNat_natCast])) (Ht 7 rfl (OV.ai (cs:=tmC t2) rfl T.u26 rfl T.z26 (fun _ hw j v hj=>hw.keeps _ _ (hc2 j v hj))) (Hf 8 rfl (OV.ky (a:=t1) (b:=t2) rfl rfl) (He (Xn ?_))))))))
  refine Cc rfl (fun c25=>?_) (fun c25=>?_)
  ·refine Csr (Za rfl (Nn (WC.az ?_)))
   refine Xq (Xr (Xr (Xq (Xr ?_))))
   exact WX.ret1 rfl rfl rfl (fun w' hw=>⟨by rw [decide_eq_false (fun h=>c25 (by rw [h] at ht1;exact Option.some.inj (ht1.symm.trans ht2)))],hw.fr⟩)
  refine Ck (Xb (Xn (Cr (Zm rfl (Zv (OV.bi (j:=1) rfl rfl (by omega)) (Za rfl (Nl ?_)))))))
  have hg:t1=t2:=by simpa using c25
  exact WX.bg (i+1) Y3 (fun w' hw=>⟨⟨by omega,take_ext_step heq ht1 (by rw [hg];exact ht2)⟩,hw⟩) (by show ls.length - (i+1)<ls.length - i;omega)
 refine Ce (Xe (Xe (Xh (Xn (Csr (Za rfl (Nn (WC.az ?_))))))))
 exact WX.ret1 rfl rfl rfl (fun w' hw=>⟨by rw [decide_eq_true (take_extA (by (try simp only [List.length_map]);omega) heq (by (try simp only [List.length_map]);omega))],hw.fr⟩)
structure BS (g:BaseG) (k:Nat) (F:List (At × Nat)):Prop where
 ok:BaseOK g
 fs:(Jci g).Perm F
 vk:g.vs.length≤9*k
 rk:g.rs.length≤k
 fk:F.length≤k
theorem addF_perm {F G:List (At × Nat)}(h:F.Perm G)(x:At):(addF F x).Perm (addF G x):=by
 unfold addF
 have h1:(x∉F.map (·.1))↔(x∉G.map (·.1)):=by rw [(h.map (·.1)).mem_iff]
 by_cases hc:factB x=true∧x∉F.map (·.1)
 ·rw [if_pos hc,if_pos ⟨hc.1,h1.1 hc.2⟩];exact h.append_right _
 ·rw [if_neg hc,if_neg (fun k=>hc ⟨k.1,h1.2 k.2⟩)];exact h
theorem addF_len (F:List (At × Nat))(x:At):(addF F x).length≤F.length+1:=by
 unfold addF;split <;> simp
theorem BS.add {g g':BaseG}{k:Nat}{F:List (At × Nat)}(b:BS g k F){x:At}(ok:BaseOK g')(h:(Jci g').Perm (addF (Jci g) x))(h1:g'.vs.length≤g.vs.length+9)(h2:g'.rs.length≤g.rs.length+1):BS g' (k+1) (addF F x):=
 ⟨ok,h.trans (addF_perm b.fs x),by have:=b.vk;omega,by have:=b.rk;omega,by have:=b.fk;have:=addF_len F x;omega⟩
theorem BS.turn {g:BaseG}{k:Nat}{F:List (At × Nat)}(b:BS g k F):BS (turnB g) k (turnF F):=
 ⟨turnB_ok b.ok,by rw [factsB_turn];exact b.fs.map _,b.vk,by simpa [turnB] using b.rk,by simpa [turnF] using b.fk⟩
theorem BS.same {g g1:BaseG}{k:Nat}{F:List (At × Nat)}(b:BS g k F)(h:SameB g g1):BS g1 k F:=
 ⟨h.ok b.ok,by rw [h.facts];exact b.fs,by rw [h.vs];exact b.vk,by rw [h.len];exact b.rk,b.fk⟩
theorem BS.nodup {g:BaseG}{k:Nat}{F:List (At × Nat)}(b:BS g k F):(F.map (·.1)).Nodup:=(b.fs.map (·.1)).nodup_iff.1 (facts_nodup b.ok)
theorem BS.mem {g:BaseG}{k:Nat}{F:List (At × Nat)}(b:BS g k F)(x:At):x∈(Jci g).map (·.1)↔x∈F.map (·.1):=(b.fs.map (·.1)).mem_iff
theorem selF_perm {F G:List (At × Nat)}(h:F.Perm G)(parts:Int):(selF F parts).Perm (selF G parts):=(h.filter _).map _
theorem n4F_perm {F G:List (At × Nat)}(h:F.Perm G):n4F F=n4F G:=(h.filter _).length_eq
theorem new_bs (p rb:Nat):BS ⟨p,none,none,0,[],rb,[]⟩ 0 []:=
 ⟨⟨fun _=>rfl,List.nodup_nil,List.nodup_nil,(fun x hx=>by cases hx),(fun x hx=>by cases hx),(fun x hx=>by cases hx),(fun x hx=>by cases hx),by simp,by simp,by simp⟩,.refl _,by simp,by simp,by simp⟩
theorem Jjo {g:BaseG}(ok:BaseOK g){x:Pd × RelG}(hx:x∈g.rs){q:List Int × Nat}(hq:q∈rp x.2):Jax (Jbx g.vs x.1 q.1)=x.1:=by
 have h:=(Jih ok hx hq).1
 unfold Jax Jbx
 simp [h]
theorem facts_args {g:BaseG}(ok:BaseOK g){x:At}(h:x∈(Jci g).map (·.1)):x.args.length≤8:=by
 obtain ⟨⟨y,n⟩,hy,rfl⟩:=List.mem_map.1 h
 unfold Jci at hy
 obtain ⟨z,hz,hq⟩:=List.mem_flatMap.1 hy
 obtain ⟨q,hq,he⟩:=List.mem_map.1 hq
 simp only [Prod.mk.injEq] at he
 have h1:=Jjo ok hz hq
 rw [he.1] at h1
 have h2:=ok.ar z hz
 rw [← h1] at h2
 exact h2
def Jed (F:List (At × Nat))(l:List At):List (At × Nat):=l.foldl addF F
theorem addAll_snoc (F:List (At × Nat))(l:List At)(x:At):Jed F (l++[x])=addF (Jed F l) x:=by simp [Jed]
theorem addF_mem (F:List (At × Nat))(x:At)(q:At × Nat):q∈addF F x↔q∈F∨(q=(x,4)∧factB x=true∧x∉F.map (·.1)):=by
 unfold addF
 split
 ·rename_i h;simp [h]
 ·rename_i h;simp;intro h1 h2 h3;exact absurd ⟨h2,by simpa using h3⟩ h
theorem addF_key (F:List (At × Nat))(x y:At):y∈(addF F x).map (·.1)↔y∈F.map (·.1)∨(y=x∧factB x=true):=by
 unfold addF
 by_cases hc:factB x=true∧x∉F.map (·.1)
 ·rw [if_pos hc,List.map_append,List.mem_append]
  simp [hc.1]
 ·rw [if_neg hc]
  constructor
  ·exact .inl
  ·rintro (h | ⟨rfl,h⟩)
   ·exact h
   ·exact Classical.byContradiction fun hh=>hc ⟨h,hh⟩
theorem Ji3:∀ (l:List At) (F:List (At × Nat)) (q:At × Nat),q∈Jed F l↔q∈F∨(q.2=4∧q.1∈l∧factB q.1=true∧q.1∉F.map (·.1))
 | [],F,q=>by simp [Jed]
 | x::l,F,q=>by
  show q∈Jed (addF F x) l↔_
  rw [Ji3 l (addF F x) q,addF_mem,addF_key]
  obtain ⟨y,n⟩:=q
  by_cases hyx:y=x
  ·subst hyx
   by_cases h1:factB y=true <;> by_cases h2:y∈F.map (·.1) <;> simp_all
   all_goals (try (constructor <;> intro h <;> simp_all))
  ·simp [hyx]
end Go.Proofs.YtgebaodagaecmaaGreatDoor
