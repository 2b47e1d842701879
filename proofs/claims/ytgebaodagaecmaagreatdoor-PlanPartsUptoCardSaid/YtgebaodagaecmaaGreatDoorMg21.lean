/- Contracts of functions of the program: what each returns and leaves in memory. Printed by gen.py and walk.py. -/
import Derived.Test.YtgebaodagaecmaaGreatDoorMg20
import Derived.Test.YtgebaodagaecmaaGreatDoorMg19
set_option maxRecDepth 10000
namespace Go.Proofs.YtgebaodagaecmaaGreatDoor
open Go Go.Hw
set_option linter.unusedSimpArgs false
set_option linter.unusedVariables false
structure TG where
 l:List Tm
 a:Option Addr
 c:Nat
def tgV (y:TG):Value:=.slice y.a y.l.length y.c
abbrev tgA (y:TG):Hw.Item:=rowT y.a y.c y.l
abbrev rowR (a:Option Addr)(c:Nat)(ys:List TG):Hw.Item:=row 27 1 a ys.length c (ys.map tgV)
theorem order_calls (ls ms:List Tm)(a1 a2:Option Addr)(c1 c2:Nat)(h1:ls.length≤1099511627776)(h2:ms.length≤1099511627776)(w:World)(hr1:RT w a1 ls)(hr2:RT w a2 ms):Calls Tryz.prog 43 #[.slice a1 ls.length c1,.slice a2 ms.length c2] w fun e w'=>e=.returned (.int .i64 (Jby cmpT ls ms))∧Fr0 w w':=by
 refine Jbl (args:=[.slice a1 ls.length c1,.slice a2 ms.length c2]) (fun _=>False) Tryz.func43 rfl Tryz.ntmps43 rfl rfl ?_
 refine Csr (Za rfl (Nn (Csr (Zm rfl (Zm rfl (WL.c0 (v:=.int .i64 (Jby cmpT ls ms)) (vs:=[.slice a1 ls.length c1,.slice a2 ms.length c2,.func (.func 57) #[] #[]]) (fun w' hw'=>cmpF_calls ls ms a1 a2 c1 c2 h1 h2 w' (hr1.keeps hw'.keeps) (hr2.keeps hw'.keeps)) ?_))))))
 refine Za rfl (Nn (WC.az ?_))
 exact WX.ret1 rfl rfl rfl (fun w' hw=>⟨rfl,hw.fr⟩)
theorem solveE_calls (ls ms:List Tm)(a1 a2:Option Addr)(c1 c2:Nat)(h1:ls.length≤1099511627776)(h2:ms.length≤1099511627776)(w:World)(hr1:RT w a1 ls)(hr2:RT w a2 ms):Calls Tryz.prog 45 #[.slice a1 ls.length c1,.slice a2 ms.length c2] w fun e w'=>e=.returned (.bool (decide (Jby cmpT ls ms=0)))∧Fr0 w w':=by
 refine Jbl (args:=[.slice a1 ls.length c1,.slice a2 ms.length c2]) (fun _=>False) Tryz.func45 rfl Tryz.ntmps45 rfl rfl ?_
 refine Csr (Za rfl (Nn (Csr (Zm rfl (Zm rfl (WL.au (v:=.int .i64 (Jby cmpT ls ms)) (by kernel_rfl) rfl rfl (fun w' hw'=>order_calls ls ms a1 a2 c1 c2 h1 h2 w' (hr1.keeps hw'.keeps) (hr2.keeps hw'.keeps)) ?_))))))
 refine Zv (OV.d0 rfl rfl) (Za rfl (Nn (WC.az ?_)))
 exact WX.ret1 rfl rfl rfl (fun w' hw=>⟨rfl,hw.fr⟩)
theorem compR1_calls (a:Option Addr)(n c:Nat)(f:Value)(hn:n<2)(w:World):Calls Tryz.prog 44 #[.slice a n c,f] w fun e w'=>e=.returned (.slice a n c)∧Fr0 w w':=by
 refine Jbl (args:=[.slice a n c,f]) (fun _=>False) Tryz.func44 rfl Tryz.ntmps44 rfl rfl ?_
 refine Csr (Za rfl (Nn (Cs (Csr (Zm rfl (Zv (OV.ae rfl T.u39) (Zv ((OV.cm rfl rfl).cast (u:=.bool true) (by rw [decide_eq_true (by omega)])) (Nn (WC.cj (show _=some (Value.bool true) from by rfl) ?_)))))))))
 refine Csr (Zm rfl (Za rfl (Nn (WC.az ?_))))
 refine Xr ?_
 exact WX.ret1 rfl rfl rfl (fun w' hw=>⟨rfl,hw.fr⟩)
theorem compA1_calls (a:Option Addr)(n c:Nat)(f:Value)(hn:n<2)(w:World):Calls Tryz.prog 59 #[.slice a n c,f] w fun e w'=>e=.returned (.slice a n c)∧Fr0 w w':=by
 refine Jbl (args:=[.slice a n c,f]) (fun _=>False) Tryz.func59 rfl Tryz.ntmps59 rfl rfl ?_
 refine Csr (Za rfl (Nn (Cs (Csr (Zm rfl (Zv (OV.ae rfl T.u22) (Zv ((OV.cm rfl rfl).cast (u:=.bool true) (by rw [decide_eq_true (by omega)])) (Nn (WC.cj (show _=some (Value.bool true) from by rfl) ?_)))))))))
 refine Csr (Zm rfl (Za rfl (Nn (WC.az ?_))))
 refine Xr ?_
 exact WX.ret1 rfl rfl rfl (fun w' hw=>⟨rfl,hw.fr⟩)
theorem var_pos {t:Tm}(h:varB t=true):0≤t.n:=by
 unfold varB at h
 simp only [Bool.and_eq_true,decide_eq_true_eq] at h
 omega
structure TurnOK (f:Tm→Tm) (g:Nat) (caps:List Value) (w0:World):Prop where
 bod:bodied Tryz.prog g=true
 run:∀ t w1,Keeps w0 w1→Calls Tryz.prog g ([tmV t]++caps).toArray w1 fun e w2=>e=.returned (tmV (f t))∧Fr0 w1 w2
def zT (n:Nat):List Tm:=List.replicate n T0
theorem Jju (n:Nat):((List.replicate n ()).flatMap fun _=>tmC T0)=(zT n).flatMap tmC:=by
 unfold zT
 induction n with
 | zero=>rfl
 | succ n ih=>rw [List.replicate_succ,List.replicate_succ,List.flatMap_cons,List.flatMap_cons,ih]
theorem fill_get {f:Tm→Tm}{l:List Tm}{i:Nat}:((l.take i).map f++zT (l.length - i)).length=(l.take i).length+(l.length - i):=by simp [zT]
theorem fill_len (f:Tm→Tm)(l:List Tm){i:Nat}(h:i≤l.length):((l.take i).map f++zT (l.length - i)).length=l.length:=by
 rw [fill_get,List.length_take];omega
theorem fill_set {f:Tm→Tm}{l:List Tm}{i:Nat}{t:Tm}(h:l[i]?=some t):((l.take i).map f++zT (l.length - i)).set i (f t)=(l.take (i+1)).map f++zT (l.length - (i+1)):=by
 have hl:=(List.getElem?_eq_some_iff.1 h).1
 rw [List.set_append_right _ _ (by rw [List.length_map,List.length_take];omega),List.length_map,List.length_take,show i - min i l.length=0 by omega,show l.length - i=(l.length - (i+1))+1 by omega]
 unfold zT
 rw [List.replicate_succ,List.set_cons_zero,Jb2 h,List.map_append,List.append_assoc]
 rfl
theorem fill_flat_len (f:Tm→Tm)(l:List Tm){i:Nat}(h:i≤l.length):(((l.take i).map f++zT (l.length - i)).flatMap tmC).length=l.length*3:=by
 rw [Jc1 Jcu,fill_len f l h]
theorem inst1_calls (vs:List Tm)(va:Option Addr)(vc:Nat)(t:Tm)(q:Nat)(hvl:vs.length≤1099511627776)(w:World)(hq:w.cell? ⟨q,0,none⟩=some (.slice va vs.length vc))(hr:RT w va vs):Calls Tryz.prog 62 #[tmV t,ptr q] w fun e w'=>e=.returned (tmV (instT vs t))∧Fr0 w w':=by
 refine Jbl (args:=[tmV t,ptr q]) (fun _=>False) Tryz.func62 rfl Tryz.ntmps62 rfl rfl ?_
 refine Csr (WL.box rfl rfl rfl ?_)
 intro b2
 refine WL.alloc T.zr26 rfl ?_
 intro b3
 refine Nn (Cs (Csr (Zv (OV.lN (cs:=tmC t) rfl T.u26 rfl T.z26 (.tail _ (.head _))) (WL.au (v:=.bool (varB t)) (by kernel_rfl) rfl rfl (fun w' hw'=>Jcn t w') ?_))))
 refine Zm rfl ?_
 refine Zp (t:=6) rfl (fun g6=>?_) (fun g6=>?_)
 ·refine Zg rfl rfl rfl (Zv (OV.f0 1 rfl T.u26 rfl) (Zg rfl rfl rfl (Zv (OV.l1 (v:=.int .i64 t.n) rfl T.u3 rfl (.tail _ (.head _)) rfl) (Zg rfl rfl rfl (Zv (OV.ah (v:=.slice va vs.length vc) rfl T.u27 rfl (fun _ hw=>hw.keeps _ _ hq)) (Zg rfl rfl rfl (Zv (OV.ae rfl T.u27) (Zg rfl rfl rfl (Zv (OV.cm rfl rfl) (Zv (OV.am rfl rfl) (Nn ?_)))))))))))
  refine Cc rfl (fun c12=>?_) (fun c12=>?_)
  ·refine Csr (Zv (OV.ah (v:=.slice va vs.length vc) rfl T.u27 rfl (fun _ hw=>hw.keeps _ _ hq)) (Zv (OV.f0 1 rfl T.u26 rfl) (Zv (OV.l1 (v:=.int .i64 t.n) rfl T.u3 rfl (.tail _ (.head _)) rfl) ?_)))
   have h0:0≤t.n:=var_pos g6
   obtain ⟨q1,u,hq1,hu,hum,_,hc⟩:=hr.get (i:=t.n.toNat) (by omega)
   refine Zv ((OV.ad (show _=some (Value.slice (some q1) vs.length vc) by rw [← hq1];rfl) rfl T.u27 T.z26 (by omega)).cast (u:=.pointer (some (q1.add (t.n.toNat*3)))) rfl) (Zv (OV.ai (cs:=tmC u) rfl T.u26 rfl T.z26 (fun _ hw j v hj=>hw.keeps _ _ (hc j v hj))) ?_)
   refine WL.ag (vs:=tmC (instT vs t)) rfl (by rw [show instT vs t=u by unfold instT;rw [if_pos ⟨g6,by omega⟩,List.getD_eq_getElem?_getD,hu];rfl];rfl) rfl T.z26 rfl ?_
   refine Nn (WC.az ?_)
   refine Xr ?_
   exact WX.retC (cs:=tmC (instT vs t)) rfl rfl rfl T.u26 rfl T.z26 (fun w' hw j v hj=>Ja0 hw (.head _) j v hj) (fun w' hw=>⟨rfl,hw.fr⟩)
  refine Ck (Xn (Csr (Zv (OV.lN (cs:=tmC t) rfl T.u26 rfl T.z26 (.tail _ (.head _))) (WL.ag (vs:=tmC (instT vs t)) rfl (by rw [show instT vs t=t by unfold instT;rw [if_neg (fun h=>c12 (by have:=h.2;have:=var_pos g6;omega))]];rfl) rfl T.z26 rfl ?_))))
  refine Nn (WC.az ?_)
  exact WX.retC (cs:=tmC (instT vs t)) rfl rfl rfl T.u26 rfl T.z26 (fun w' hw j v hj=>Ja0 hw (.head _) j v hj) (fun w' hw=>⟨rfl,hw.fr⟩)
 refine Zs rfl rfl rfl (Zs rfl rfl rfl (Zs rfl rfl rfl (Zs rfl rfl rfl (Zs rfl rfl rfl (Zv (OV.aj rfl rfl) (Nn (WC.bu (show _=some (Value.bool false) from by rfl) ?_)))))))
 refine Ck (Xn (Csr (Zv (OV.lN (cs:=tmC t) rfl T.u26 rfl T.z26 (.tail _ (.head _))) (WL.ag (vs:=tmC (instT vs t)) rfl (by rw [show instT vs t=t by unfold instT;rw [if_neg (fun h=>by rw [h.1] at g6;cases g6)]];rfl) rfl T.z26 rfl ?_))))
 refine Nn (WC.az ?_)
 exact WX.retC (cs:=tmC (instT vs t)) rfl rfl rfl T.u26 rfl T.z26 (fun w' hw j v hj=>Ja0 hw (.head _) j v hj) (fun w' hw=>⟨rfl,hw.fr⟩)
theorem replaced_calls (f:Tm→Tm)(g:Nat)(caps:List Value)(x:At)(a:Option Addr)(c:Nat)(hl:x.args.length≤1048576)(w:World)(hT:TurnOK f g caps w)(hr:RT w a x.args):Calls Tryz.prog 101 #[atV x a c,.func (.func g) #[] caps.toArray] w fun e w'=>∃ z:Option Addr × Nat,e=.returned (atV (mapA f x) z.1 z.2)∧Turns [] [rowT z.1 z.2 (mapA f x).args] w w':=by
 refine Jbl (args:=[atV x a c,.func (.func g) #[] caps.toArray]) (fun _=>False) Tryz.func101 rfl Tryz.ntmps101 rfl rfl ?_
 refine Csr (WL.box rfl rfl rfl ?_)
 intro b2
 refine WL.alloc T.zr29 rfl ?_
 intro b4
 refine Nn (Cs ?_)
 refine WC.mp (fun (z:Nat × Nat)=>[(1,.func (.func g) #[] caps.toArray),(2,.pointer (some ⟨b2,0,none⟩)),(4,.pointer (some ⟨b4,0,none⟩)),(5,.pointer (some ⟨z.1,0,none⟩))]) (fun (z:Nat × Nat)=>Sat0 w (oQ z.1 ([.int .i64 (f x.b).kind,.int .i64 (f x.b).n,.string (f x.b).s,.string x.name,.slice (some ⟨z.2,0,none⟩) x.args.length x.args.length]:List Value) 29::row 26 3 (some ⟨z.2,0,none⟩) x.args.length x.args.length ((zT x.args.length).flatMap tmC)::oQ b4 (atC ⟨T0,E0,[]⟩ none 0) 29::oQ b2 (atC x a c) 29::[])) ?_ ?_
 ·refine Hd (fun w'=>w'.heap[b2]?=some (.cells (atC x a c).toArray 29 (0,0))) [12] (fun _ hw=>hw.it (oQ b2 (atC x a c) 29) (by simp)) (m:=13) rfl ?_
  refine Hf 0 rfl (OV.aw rfl) (Hf 1 rfl (OV.f0 0 rfl T.u29 rfl) (Ht 2 rfl (OV.ai (cs:=tmC x.b) rfl T.u26 rfl T.z26 (fun _ hw j v hj=>by rw [Jap];exact Jb3 hw (o:=0) (cs':=tmC x.b) rfl j v hj)) (Hf 4 rfl (OV.f0 3 rfl T.u29 rfl) (Ht 5 rfl (OV.ah (v:=.string x.name) rfl T.u9 rfl (fun _ hw=>(Jav hw (o:=3) rfl).1)) (Hf 6 rfl (OV.f0 4 rfl T.u29 rfl) (Ht 7 rfl (OV.ah (v:=.slice a x.args.length c) rfl T.u27 rfl (fun _ hw=>(Jav hw (o:=4) rfl).1)) (Hf 8 rfl (OV.ae rfl T.u27) ?_)))))))
  refine Hr (WH.three 3 9 11 rfl rfl rfl (by kernel_rfl) (listed1:=[true,true,true,true,true,true,true,true,true,false,false,false,false]) rfl (listed2:=[true,true,true,false,true,true,true,true,true,true,false,false,false]) rfl (listed3:=[true,true,true,false,true,true,true,true,true,false,false,true,false]) rfl (fl1:=false) rfl (fl2:=false) rfl (fl3:=false) rfl ?_ ?_ ?_)
  ·refine WL.e5 (f:=g) (caps:=caps) (vs:=[tmV x.b]) (v:=tmV (f x.b)) hT.bod rfl rfl rfl (fun w' hw'=>hT.run x.b w' hw'.keeps) ?_
   refine Hc (fun _=>(fun _ hw=>hw.it (oQ b2 (atC x a c) 29) (by simp))) ?_
   refine Hr (WH.two 9 11 rfl rfl (by kernel_rfl) (listed1:=[true,true,true,true,true,true,true,true,true,true,false,false,false]) rfl (listed2:=[true,true,true,true,true,true,true,true,true,false,false,true,false]) rfl (fl1:=false) rfl (fl2:=false) rfl ?_ ?_)
   ·refine WL.ee (bytes:=32) (zc:=tmC T0) rfl rfl T.u27 T.z26 T.zr26 (by decide) (by kernel_rfl) ⟨by omega,by omega⟩ rfl ?_
    intro b17
    refine Hc (fun _=>(fun _ hw=>hw.it (oQ b2 (atC x a c) 29) (by simp))) ?_
    refine Hf 10 rfl (OV.ao (xs:=[(0,.tmp 11),(1,.tmp 13),(2,.tmp 17)]) (pl:=[(0,3),(3,1),(4,1)]) (cs:=[.int .i64 (f x.b).kind,.int .i64 (f x.b).n,.string (f x.b).s,.string x.name,.slice (some ⟨b17,0,none⟩) x.args.length x.args.length]) T.u29 T.zr29 (by kernel_rfl) rfl (Jal (us:=tmC (f x.b)) rfl rfl (Nat.le_of_ble_eq_true rfl) (Jal (us:=[_]) rfl rfl (Nat.le_of_ble_eq_true rfl) (Jal (us:=[_]) rfl rfl (Nat.le_of_ble_eq_true rfl) rfl)))) (Ho 11 rfl (fl':=false) rfl ?_)
    refine WL.alloc T.zr29 rfl ?_
    intro b5
    refine Hc (fun _=>(fun _ hw=>hw.it (oQ b2 (atC x a c) 29) (by simp))) ?_
    refine Ho 12 rfl (fl':=true) rfl ?_
    first | (refine WL.ag (vs:=[.int .i64 (f x.b).kind,.int .i64 (f x.b).n,.string (f x.b).s,.string x.name,.slice (some ⟨b17,0,none⟩) x.args.length x.args.length]) rfl rfl rfl T.z29 rfl ?_) | (refine WL.focus perm1 (WL.ag (vs:=[.int .i64 (f x.b).kind,.int .i64 (f x.b).n,.string (f x.b).s,.string x.name,.slice (some ⟨b17,0,none⟩) x.args.length x.args.length]) rfl rfl rfl T.z29 rfl ?_))
    refine Hc (fun h=>by cases h) ?_
    refine He ?_
    exact WX.fi (b5,b17) Y4 (fun w' hw=>by
     rw [Jju] at hw
     exact ((hw.perm (ow':=oQ b17 ((zT x.args.length).flatMap tmC) 26::oQ b5 ([.int .i64 (f x.b).kind,.int .i64 (f x.b).n,.string (f x.b).s,.string x.name,.slice (some ⟨b17,0,none⟩) x.args.length x.args.length]:List Value) 29::oQ b4 (atC ⟨T0,E0,[]⟩ none 0) 29::oQ b2 (atC x a c) 29::[]) (pmP [_,_,_,_] [1,0,2,3])).asRow (m:=x.args.length) (k:=3) (by rw [Jc1 Jcu];simp [zT]) (by unfold maxLen;omega)).perm (pmP [_,_,_,_] [1,0,2,3]))
   refine WL.alloc T.zr29 rfl ?_
   intro b5
   refine Hc (fun _=>(fun _ hw=>hw.it (oQ b2 (atC x a c) 29) (by simp))) ?_
   refine Ho 9 rfl (fl':=false) rfl ?_
   refine WL.ee (bytes:=32) (zc:=tmC T0) rfl rfl T.u27 T.z26 T.zr26 (by decide) (by kernel_rfl) ⟨by omega,by omega⟩ rfl ?_
   intro b17
   refine Hc (fun _=>(fun _ hw=>hw.it (oQ b2 (atC x a c) 29) (by simp))) ?_
   refine Hf 10 rfl (OV.ao (xs:=[(0,.tmp 11),(1,.tmp 13),(2,.tmp 17)]) (pl:=[(0,3),(3,1),(4,1)]) (cs:=[.int .i64 (f x.b).kind,.int .i64 (f x.b).n,.string (f x.b).s,.string x.name,.slice (some ⟨b17,0,none⟩) x.args.length x.args.length]) T.u29 T.zr29 (by kernel_rfl) rfl (Jal (us:=tmC (f x.b)) rfl rfl (Nat.le_of_ble_eq_true rfl) (Jal (us:=[_]) rfl rfl (Nat.le_of_ble_eq_true rfl) (Jal (us:=[_]) rfl rfl (Nat.le_of_ble_eq_true rfl) rfl)))) (Ho 12 rfl (fl':=true) rfl ?_)
   first | (refine WL.ag (vs:=[.int .i64 (f x.b).kind,.int .i64 (f x.b).n,.string (f x.b).s,.string x.name,.slice (some ⟨b17,0,none⟩) x.args.length x.args.length]) rfl rfl rfl T.z29 rfl ?_) | (refine WL.focus perm1 (WL.ag (vs:=[.int .i64 (f x.b).kind,.int .i64 (f x.b).n,.string (f x.b).s,.string x.name,.slice (some ⟨b17,0,none⟩) x.args.length x.args.length]) rfl rfl rfl T.z29 rfl ?_))
   refine Hc (fun h=>by cases h) ?_
   refine He ?_
   exact WX.fi (b5,b17) Y4 (fun w' hw=>by
    rw [Jju] at hw
    exact ((hw.perm (ow':=oQ b17 ((zT x.args.length).flatMap tmC) 26::oQ b5 ([.int .i64 (f x.b).kind,.int .i64 (f x.b).n,.string (f x.b).s,.string x.name,.slice (some ⟨b17,0,none⟩) x.args.length x.args.length]:List Value) 29::oQ b4 (atC ⟨T0,E0,[]⟩ none 0) 29::oQ b2 (atC x a c) 29::[]) (pmP [_,_,_,_] [1,0,2,3])).asRow (m:=x.args.length) (k:=3) (by rw [Jc1 Jcu];simp [zT]) (by unfold maxLen;omega)).perm (pmP [_,_,_,_] [1,0,2,3]))
  ·refine WL.ee (bytes:=32) (zc:=tmC T0) rfl rfl T.u27 T.z26 T.zr26 (by decide) (by kernel_rfl) ⟨by omega,by omega⟩ rfl ?_
   intro b17
   refine Hc (fun _=>(fun _ hw=>hw.it (oQ b2 (atC x a c) 29) (by simp))) ?_
   refine Hr (WH.two 3 11 rfl rfl (by kernel_rfl) (listed1:=[true,true,true,true,true,true,true,true,true,true,false,false,false]) rfl (listed2:=[true,true,true,false,true,true,true,true,true,true,false,true,false]) rfl (fl1:=false) rfl (fl2:=false) rfl ?_ ?_)
   ·refine WL.e5 (f:=g) (caps:=caps) (vs:=[tmV x.b]) (v:=tmV (f x.b)) hT.bod rfl rfl rfl (fun w' hw'=>hT.run x.b w' hw'.keeps) ?_
    refine Hc (fun _=>(fun _ hw=>hw.it (oQ b2 (atC x a c) 29) (by simp))) ?_
    refine Hf 10 rfl (OV.ao (xs:=[(0,.tmp 11),(1,.tmp 13),(2,.tmp 17)]) (pl:=[(0,3),(3,1),(4,1)]) (cs:=[.int .i64 (f x.b).kind,.int .i64 (f x.b).n,.string (f x.b).s,.string x.name,.slice (some ⟨b17,0,none⟩) x.args.length x.args.length]) T.u29 T.zr29 (by kernel_rfl) rfl (Jal (us:=tmC (f x.b)) rfl rfl (Nat.le_of_ble_eq_true rfl) (Jal (us:=[_]) rfl rfl (Nat.le_of_ble_eq_true rfl) (Jal (us:=[_]) rfl rfl (Nat.le_of_ble_eq_true rfl) rfl)))) (Ho 11 rfl (fl':=false) rfl ?_)
    refine WL.alloc T.zr29 rfl ?_
    intro b5
    refine Hc (fun _=>(fun _ hw=>hw.it (oQ b2 (atC x a c) 29) (by simp))) ?_
    refine Ho 12 rfl (fl':=true) rfl ?_
    first | (refine WL.ag (vs:=[.int .i64 (f x.b).kind,.int .i64 (f x.b).n,.string (f x.b).s,.string x.name,.slice (some ⟨b17,0,none⟩) x.args.length x.args.length]) rfl rfl rfl T.z29 rfl ?_) | (refine WL.focus perm1 (WL.ag (vs:=[.int .i64 (f x.b).kind,.int .i64 (f x.b).n,.string (f x.b).s,.string x.name,.slice (some ⟨b17,0,none⟩) x.args.length x.args.length]) rfl rfl rfl T.z29 rfl ?_))
    refine Hc (fun h=>by cases h) ?_
    refine He ?_
    exact WX.fi (b5,b17) Y4 (fun w' hw=>by
     rw [Jju] at hw
     exact ((hw.perm (ow':=oQ b17 ((zT x.args.length).flatMap tmC) 26::oQ b5 ([.int .i64 (f x.b).kind,.int .i64 (f x.b).n,.string (f x.b).s,.string x.name,.slice (some ⟨b17,0,none⟩) x.args.length x.args.length]:List Value) 29::oQ b4 (atC ⟨T0,E0,[]⟩ none 0) 29::oQ b2 (atC x a c) 29::[]) (pmP [_,_,_,_] [1,0,2,3])).asRow (m:=x.args.length) (k:=3) (by rw [Jc1 Jcu];simp [zT]) (by unfold maxLen;omega)).perm (pmP [_,_,_,_] [1,0,2,3]))
   refine WL.alloc T.zr29 rfl ?_
   intro b5
   refine Hc (fun _=>(fun _ hw=>hw.it (oQ b2 (atC x a c) 29) (by simp))) ?_
   refine Ho 3 rfl (fl':=false) rfl ?_
   refine WL.e5 (f:=g) (caps:=caps) (vs:=[tmV x.b]) (v:=tmV (f x.b)) hT.bod rfl rfl rfl (fun w' hw'=>hT.run x.b w' hw'.keeps) ?_
   refine Hc (fun _=>(fun _ hw=>hw.it (oQ b2 (atC x a c) 29) (by simp))) ?_
   refine Hf 10 rfl (OV.ao (xs:=[(0,.tmp 11),(1,.tmp 13),(2,.tmp 17)]) (pl:=[(0,3),(3,1),(4,1)]) (cs:=[.int .i64 (f x.b).kind,.int .i64 (f x.b).n,.string (f x.b).s,.string x.name,.slice (some ⟨b17,0,none⟩) x.args.length x.args.length]) T.u29 T.zr29 (by kernel_rfl) rfl (Jal (us:=tmC (f x.b)) rfl rfl (Nat.le_of_ble_eq_true rfl) (Jal (us:=[_]) rfl rfl (Nat.le_of_ble_eq_true rfl) (Jal (us:=[_]) rfl rfl (Nat.le_of_ble_eq_true rfl) rfl)))) (Ho 12 rfl (fl':=true) rfl ?_)
   first | (refine WL.ag (vs:=[.int .i64 (f x.b).kind,.int .i64 (f x.b).n,.string (f x.b).s,.string x.name,.slice (some ⟨b17,0,none⟩) x.args.length x.args.length]) rfl rfl rfl T.z29 rfl ?_) | (refine WL.focus perm1 (WL.ag (vs:=[.int .i64 (f x.b).kind,.int .i64 (f x.b).n,.string (f x.b).s,.string x.name,.slice (some ⟨b17,0,none⟩) x.args.length x.args.length]) rfl rfl rfl T.z29 rfl ?_))
   refine Hc (fun h=>by cases h) ?_
   refine He ?_
   exact WX.fi (b5,b17) Y4 (fun w' hw=>by
    rw [Jju] at hw
    exact ((hw.perm (ow':=oQ b17 ((zT x.args.length).flatMap tmC) 26::oQ b5 ([.int .i64 (f x.b).kind,.int .i64 (f x.b).n,.string (f x.b).s,.string x.name,.slice (some ⟨b17,0,none⟩) x.args.length x.args.length]:List Value) 29::oQ b4 (atC ⟨T0,E0,[]⟩ none 0) 29::oQ b2 (atC x a c) 29::[]) (pmP [_,_,_,_] [1,0,2,3])).asRow (m:=x.args.length) (k:=3) (by rw [Jc1 Jcu];simp [zT]) (by unfold maxLen;omega)).perm (pmP [_,_,_,_] [1,0,2,3]))
  refine WL.alloc T.zr29 rfl ?_
  intro b5
  refine Hc (fun _=>(fun _ hw=>hw.it (oQ b2 (atC x a c) 29) (by simp))) ?_
  refine Hr (WH.two 3 9 rfl rfl (by kernel_rfl) (listed1:=[true,true,true,true,true,true,true,true,true,false,false,true,false]) rfl (listed2:=[true,true,true,false,true,true,true,true,true,true,false,true,false]) rfl (fl1:=false) rfl (fl2:=false) rfl ?_ ?_)
  ·refine WL.e5 (f:=g) (caps:=caps) (vs:=[tmV x.b]) (v:=tmV (f x.b)) hT.bod rfl rfl rfl (fun w' hw'=>hT.run x.b w' hw'.keeps) ?_
   refine Hc (fun _=>(fun _ hw=>hw.it (oQ b2 (atC x a c) 29) (by simp))) ?_
   refine Ho 9 rfl (fl':=false) rfl ?_
   refine WL.ee (bytes:=32) (zc:=tmC T0) rfl rfl T.u27 T.z26 T.zr26 (by decide) (by kernel_rfl) ⟨by omega,by omega⟩ rfl ?_
   intro b17
   refine Hc (fun _=>(fun _ hw=>hw.it (oQ b2 (atC x a c) 29) (by simp))) ?_
   refine Hf 10 rfl (OV.ao (xs:=[(0,.tmp 11),(1,.tmp 13),(2,.tmp 17)]) (pl:=[(0,3),(3,1),(4,1)]) (cs:=[.int .i64 (f x.b).kind,.int .i64 (f x.b).n,.string (f x.b).s,.string x.name,.slice (some ⟨b17,0,none⟩) x.args.length x.args.length]) T.u29 T.zr29 (by kernel_rfl) rfl (Jal (us:=tmC (f x.b)) rfl rfl (Nat.le_of_ble_eq_true rfl) (Jal (us:=[_]) rfl rfl (Nat.le_of_ble_eq_true rfl) (Jal (us:=[_]) rfl rfl (Nat.le_of_ble_eq_true rfl) rfl)))) (Ho 12 rfl (fl':=true) rfl ?_)
   first | (refine WL.ag (vs:=[.int .i64 (f x.b).kind,.int .i64 (f x.b).n,.string (f x.b).s,.string x.name,.slice (some ⟨b17,0,none⟩) x.args.length x.args.length]) rfl rfl rfl T.z29 rfl ?_) | (refine WL.focus perm1 (WL.ag (vs:=[.int .i64 (f x.b).kind,.int .i64 (f x.b).n,.string (f x.b).s,.string x.name,.slice (some ⟨b17,0,none⟩) x.args.length x.args.length]) rfl rfl rfl T.z29 rfl ?_))
   refine Hc (fun h=>by cases h) ?_
   refine He ?_
   exact WX.fi (b5,b17) Y4 (fun w' hw=>by
    rw [Jju] at hw
    exact ((hw.perm (ow':=oQ b17 ((zT x.args.length).flatMap tmC) 26::oQ b5 ([.int .i64 (f x.b).kind,.int .i64 (f x.b).n,.string (f x.b).s,.string x.name,.slice (some ⟨b17,0,none⟩) x.args.length x.args.length]:List Value) 29::oQ b4 (atC ⟨T0,E0,[]⟩ none 0) 29::oQ b2 (atC x a c) 29::[]) (pmP [_,_,_,_] [1,0,2,3])).asRow (m:=x.args.length) (k:=3) (by rw [Jc1 Jcu];simp [zT]) (by unfold maxLen;omega)).perm (pmP [_,_,_,_] [1,0,2,3]))
  refine WL.ee (bytes:=32) (zc:=tmC T0) rfl rfl T.u27 T.z26 T.zr26 (by decide) (by kernel_rfl) ⟨by omega,by omega⟩ rfl ?_
  intro b17
  refine Hc (fun _=>(fun _ hw=>hw.it (oQ b2 (atC x a c) 29) (by simp))) ?_
  refine Ho 3 rfl (fl':=false) rfl ?_
  refine WL.e5 (f:=g) (caps:=caps) (vs:=[tmV x.b]) (v:=tmV (f x.b)) hT.bod rfl rfl rfl (fun w' hw'=>hT.run x.b w' hw'.keeps) ?_
  refine Hc (fun _=>(fun _ hw=>hw.it (oQ b2 (atC x a c) 29) (by simp))) ?_
  refine Hf 10 rfl (OV.ao (xs:=[(0,.tmp 11),(1,.tmp 13),(2,.tmp 17)]) (pl:=[(0,3),(3,1),(4,1)]) (cs:=[.int .i64 (f x.b).kind,.int .i64 (f x.b).n,.string (f x.b).s,.string x.name,.slice (some ⟨b17,0,none⟩) x.args.length x.args.length]) T.u29 T.zr29 (by kernel_rfl) rfl (Jal (us:=tmC (f x.b)) rfl rfl (Nat.le_of_ble_eq_true rfl) (Jal (us:=[_]) rfl rfl (Nat.le_of_ble_eq_true rfl) (Jal (us:=[_]) rfl rfl (Nat.le_of_ble_eq_true rfl) rfl)))) (Ho 12 rfl (fl':=true) rfl ?_)
  first | (refine WL.ag (vs:=[.int .i64 (f x.b).kind,.int .i64 (f x.b).n,.string (f x.b).s,.string x.name,.slice (some ⟨b17,0,none⟩) x.args.length x.args.length]) rfl rfl rfl T.z29 rfl ?_) | (refine WL.focus perm1 (WL.ag (vs:=[.int .i64 (f x.b).kind,.int .i64 (f x.b).n,.string (f x.b).s,.string x.name,.slice (some ⟨b17,0,none⟩) x.args.length x.args.length]) rfl rfl rfl T.z29 rfl ?_))
  refine Hc (fun h=>by cases h) ?_
  refine He ?_
  exact WX.fi (b5,b17) Y4 (fun w' hw=>by
   rw [Jju] at hw
   exact ((hw.perm (ow':=oQ b17 ((zT x.args.length).flatMap tmC) 26::oQ b5 ([.int .i64 (f x.b).kind,.int .i64 (f x.b).n,.string (f x.b).s,.string x.name,.slice (some ⟨b17,0,none⟩) x.args.length x.args.length]:List Value) 29::oQ b4 (atC ⟨T0,E0,[]⟩ none 0) 29::oQ b2 (atC x a c) 29::[]) (pmP [_,_,_,_] [1,0,2,3])).asRow (m:=x.args.length) (k:=3) (by rw [Jc1 Jcu];simp [zT]) (by unfold maxLen;omega)).perm (pmP [_,_,_,_] [1,0,2,3]))
 rintro ⟨b5,b17⟩
 refine Cs (Csr (Zv (OV.f0 4 rfl T.u29 rfl) (Zv (OV.l1 (v:=.slice a x.args.length c) rfl T.u27 rfl (.tail _ (.tail _ (.tail _ (.head _)))) rfl) (Zv (OV.ae rfl T.u27) (Zm rfl (Nn (Cb ?_)))))))
 refine WC.cg (fun (i:Nat)=>[(1,.func (.func g) #[] caps.toArray),(4,.pointer (some ⟨b4,0,none⟩)),(5,.pointer (some ⟨b5,0,none⟩)),(20,.slice a x.args.length c),(21,.int .i64 (x.args.length:Int)),(22,.int .i64 (i:Int))])
   (fun i w'=>i≤x.args.length∧Sat0 w (oQ b5 ([.int .i64 (f x.b).kind,.int .i64 (f x.b).n,.string (f x.b).s,.string x.name,.slice (some ⟨b17,0,none⟩) x.args.length x.args.length]:List Value) 29::row 26 3 (some ⟨b17,0,none⟩) x.args.length x.args.length (((x.args.take i).map f++zT (x.args.length - i)).flatMap tmC)::oQ b4 (atC ⟨T0,E0,[]⟩ none 0) 29::oQ b2 (atC x a c) 29::[]) w')
   (fun i=>x.args.length - i) 0 Y6 (fun w' hw=>⟨by omega,hw⟩) ?_
 intro i
 refine WC.pure (fun hi=>?_)
 have hfl:=fill_len f x.args hi
 refine Csr (Zv (OV.cm rfl rfl) (Nn (Cs ?_)))
 refine Cc rfl (fun c23=>?_) (fun c23=>?_)
 ·refine Ck (Xn (Cs (Cb (Csr (Zm rfl ?_)))))
  obtain ⟨q1,t,hq,ht,htm,_,hc⟩:=hr.get (i:=i) (by omega)
  refine Zv ((OV.ad (show _=some (Value.slice (some q1) x.args.length c) by rw [← hq];rfl) rfl T.u27 T.z26 (by omega)).cast (u:=.pointer (some (q1.add (i*3)))) (by rw [Int.toNat_natCast])) (Zv (OV.ai (cs:=tmC t) rfl T.u26 rfl T.z26 (fun _ hw j v hj=>hw.keeps _ _ (hc j v hj))) (WL.alloc T.zr26 rfl ?_))
  intro b7
  refine Za rfl (WL.ag (vs:=tmC t) rfl rfl rfl T.z26 rfl ?_)
  refine Nn (Hd (fun w'=>w'.heap[b5]?=some (.cells ([.int .i64 (f x.b).kind,.int .i64 (f x.b).n,.string (f x.b).s,.string x.name,.slice (some ⟨b17,0,none⟩) x.args.length x.args.length]:List Value).toArray 29 (0,0))∧w'.heap[b7]?=some (.cells (tmC t).toArray 26 (0,0))) [7] (fun _ hw=>⟨hw.it (oQ b5 ([.int .i64 (f x.b).kind,.int .i64 (f x.b).n,.string (f x.b).s,.string x.name,.slice (some ⟨b17,0,none⟩) x.args.length x.args.length]:List Value) 29) (by simp),hw.it (oQ b7 (tmC t) 26) (by simp)⟩) (m:=8) rfl ?_)
  refine Hf 0 rfl (OV.f0 4 rfl T.u29 rfl) (Ht 1 rfl (OV.ah (v:=.slice (some ⟨b17,0,none⟩) x.args.length x.args.length) rfl T.u27 rfl (fun _ hw=>(Jav hw.1 (o:=4) rfl).1)) (Hf 2 rfl (OV.aw rfl) (Hf 3 rfl (OV.aw rfl) (Ht 4 rfl (OV.ai (cs:=tmC t) rfl T.u26 rfl T.z26 (fun _ hw j v hj=>by rw [Jap];exact Jb3 hw.2 (o:=0) (cs':=tmC t) rfl j v hj)) (Ho 5 rfl (fl':=false) rfl ?_)))))
  refine WL.e5 (f:=g) (caps:=caps) (vs:=[tmV t]) (v:=tmV (f t)) hT.bod rfl rfl rfl (fun w' hw'=>hT.run t w' hw'.keeps) ?_
  refine Hc (fun _=>(fun _ hw=>⟨hw.it (oQ b5 ([.int .i64 (f x.b).kind,.int .i64 (f x.b).n,.string (f x.b).s,.string x.name,.slice (some ⟨b17,0,none⟩) x.args.length x.args.length]:List Value) 29) (by simp),hw.it (oQ b7 (tmC t) 26) (by simp)⟩)) ?_
  refine Hf 6 rfl ((OV.ad rfl rfl T.u27 T.z26 (by omega)).cast (u:=.pointer (some ⟨b17,i*3,none⟩)) (by rw [Int.toNat_natCast,Jap,Nat.zero_add])) (Ho 7 rfl (fl':=true) rfl ?_)
  refine WL.focus perm2 (WL.ia (vs:=tmC (f t)) (o:=i*3) rfl rfl rfl rfl T.z26 (by rw [fill_flat_len f x.args (by omega)];show i*3+3≤_;omega) ?_)
  refine Hc (fun h=>by cases h) ?_
  refine He (Xb (Xn (Cr (Zv (OV.bi (j:=1) rfl rfl (by omega)) (Zm rfl (Nl ?_))))))
  have hfp:=Jlz ((x.args.take i).map f++zT (x.args.length - i)) i (f t) (by omega)
  rw [hfp,fill_set ht]
  exact WX.bg (i+1) Y6 (fun w' hw=>⟨by omega,hw.pik [[row 26 3 (some ⟨b17,0,none⟩) x.args.length x.args.length (((x.args.take (i+1)).map f++zT (x.args.length - (i+1))).flatMap tmC)],[oQ b7 (tmC t) 26],[oQ b5 ([.int .i64 (f x.b).kind,.int .i64 (f x.b).n,.string (f x.b).s,.string x.name,.slice (some ⟨b17,0,none⟩) x.args.length x.args.length]:List Value) 29],[oQ b4 (atC ⟨T0,E0,[]⟩ none 0) 29],[oQ b2 (atC x a c) 29]] [2,0,3,4] 5⟩) (by show x.args.length - (i+1)<x.args.length - i;omega)
 refine Ce (Xe (Xe (Xh (Xn (Csr (Zv (OV.lN (cs:=([.int .i64 (f x.b).kind,.int .i64 (f x.b).n,.string (f x.b).s,.string x.name,.slice (some ⟨b17,0,none⟩) x.args.length x.args.length]:List Value)) rfl T.u29 rfl T.z29 (.head _)) ?_))))))
 refine WL.focus perm2 (WL.ag (vs:=[.int .i64 (f x.b).kind,.int .i64 (f x.b).n,.string (f x.b).s,.string x.name,.slice (some ⟨b17,0,none⟩) x.args.length x.args.length]) rfl rfl rfl T.z29 rfl ?_)
 refine Nn (WC.az ?_)
 have hm:((x.args.take i).map f++zT (x.args.length - i))=(mapA f x).args:=by
  rw [List.take_of_length_le (by omega),show x.args.length - i=0 by omega]
  exact List.append_nil _
 have hml:x.args.length=(mapA f x).args.length:=by simp [mapA]
 refine WX.retC (cs:=([.int .i64 (f x.b).kind,.int .i64 (f x.b).n,.string (f x.b).s,.string x.name,.slice (some ⟨b17,0,none⟩) x.args.length x.args.length]:List Value)) rfl rfl rfl T.u29 rfl T.z29 (fun w' hw j v hj=>Ja0 hw (.head _) j v hj) (fun w' hw=>⟨(some ⟨b17,0,none⟩,x.args.length),by unfold atV atC;rw [← hml];rfl,?_⟩)
 have h9:Turns [] [row 26 3 (some ⟨b17,0,none⟩) x.args.length x.args.length (((x.args.take i).map f++zT (x.args.length - i)).flatMap tmC)] w w':=(hw.pik [[oQ b4 ([.int .i64 (f x.b).kind,.int .i64 (f x.b).n,.string (f x.b).s,.string x.name,.slice (some ⟨b17,0,none⟩) x.args.length x.args.length]:List Value) 29],[oQ b5 ([.int .i64 (f x.b).kind,.int .i64 (f x.b).n,.string (f x.b).s,.string x.name,.slice (some ⟨b17,0,none⟩) x.args.length x.args.length]:List Value) 29],[row 26 3 (some ⟨b17,0,none⟩) x.args.length x.args.length (((x.args.take i).map f++zT (x.args.length - i)).flatMap tmC)],[oQ b2 (atC x a c) 29]] [2] 4).turned0
 rw [hm] at h9
 show Turns [] [row 26 3 (some ⟨b17,0,none⟩) (mapA f x).args.length x.args.length ((mapA f x).args.flatMap tmC)] w w'
 rw [← hml]
 exact h9
theorem TurnOK.keeps {f:Tm→Tm}{g:Nat}{caps:List Value}{w w':World}(h:TurnOK f g caps w)(k:Keeps w w'):TurnOK f g caps w':=⟨h.bod,fun t w1 hk=>h.run t w1 (k.trans hk)⟩
set_option maxHeartbeats 1000000 in
theorem turned_calls (f:Tm→Tm)(g:Nat)(caps:List Value)(q:CG)(hs:CS q)(w:World)(hT:TurnOK f g caps w)(hr:RC w q):Calls Tryz.prog 61 #[cgV q,.func (.func g) #[] caps.toArray] w fun e w'=>∃ g':CG,e=.returned (cgV g')∧g'.cl=mapC f q.cl∧Turns [] (cgA g') w w':=by
 refine Jbl (args:=[cgV q,.func (.func g) #[] caps.toArray]) (fun _=>False) Tryz.func61 rfl Tryz.ntmps61 rfl rfl ?_
 refine Csr (WL.box rfl rfl rfl ?_)
 intro b2
 refine WL.alloc T.zr32 rfl ?_
 intro b4
 refine Nn (Csr (Zv (OV.f0 0 rfl T.u32 rfl) ?_))
 have hbl:=hs.bl
 have htl:=hs.tl
 have hsh:=hs.at_ q.hd (Or.inl rfl)
 refine Zv (OV.ai (cs:=atC q.hd.x q.hd.a q.hd.c) rfl T.u29 rfl T.z29 (fun _ hw j v hj=>by rw [Jap];exact Jbo hw (.tail _ (.head _)) (o:=0) (cs':=atC q.hd.x q.hd.a q.hd.c) rfl j v hj)) (Zm rfl (WL.cT (ι:=Option Addr × Nat) (vs:=[atV q.hd.x q.hd.a q.hd.c,.func (.func g) #[] caps.toArray]) (vv:=fun z=>atV (mapA f q.hd.x) z.1 z.2) (pp:=fun _=>True) [] (AA:=fun z=>[rowT z.1 z.2 (mapA f q.hd.x).args]) rfl (fun w' hw' _=>(replaced_calls f g caps q.hd.x q.hd.a q.hd.c (by omega) w' (hT.keeps hw'.keeps) (hr.hd.keeps hw'.keeps)).mono (fun en w'' ⟨z,h1,h2⟩=>⟨z,h1,trivial,h2⟩)) ?_))
 rintro ⟨hda,hdc⟩ _
 refine Zv (OV.ao (xs:=[(0,.tmp 14)]) (pl:=[(0,5),(5,1),(6,1)]) (cs:=cgC ⟨⟨mapA f q.hd.x,hda,hdc⟩,none,0,[],none,0,[]⟩) T.u32 T.zr32 (by kernel_rfl) rfl (Jal (us:=atC (mapA f q.hd.x) hda hdc) rfl rfl (Nat.le_of_ble_eq_true rfl) rfl)) (WL.alloc T.zr32 rfl ?_)
 intro b5
 refine WL.ag (vs:=cgC ⟨⟨mapA f q.hd.x,hda,hdc⟩,none,0,[],none,0,[]⟩) rfl rfl rfl T.z32 rfl ?_
 refine Nn (Cs (Csr (Zv (OV.f0 5 rfl T.u32 rfl) (Zv (OV.l1 (v:=.slice q.ba q.bd.length q.bc) rfl T.u22 rfl (.tail _ (.tail _ (.tail _ (.head _)))) rfl) (Zv (OV.ae rfl T.u22) (Zm rfl (Nn (Cb (WC.weak (S':=Sat0 w (oQ b5 (cgC ⟨⟨mapA f q.hd.x,hda,hdc⟩,none,0,[],none,0,[]⟩) 32::row 29 5 none 0 0 []::rowT hda hdc (mapA f q.hd.x).args::oQ b4 (cgC ⟨⟨⟨T0,E0,[]⟩,none,0⟩,none,0,[],none,0,[]⟩) 32::oQ b2 (cgC q) 32::[])) (fun w' hw=>(hw.rowNil 29 5).perm (pmP [_,_,_,_,_] [1,0,2,3,4])) ?_)))))))))
 refine WC.da (fun (i:Nat) (ba:Option Addr) (bc:Nat) (ys:List AG)=>[(1,.func (.func g) #[] caps.toArray),(2,.pointer (some ⟨b2,0,none⟩)),(4,.pointer (some ⟨b4,0,none⟩)),(5,.pointer (some ⟨b5,0,none⟩)),(17,.slice q.ba q.bd.length q.bc),(18,.int .i64 (q.bd.length:Int)),(19,.int .i64 (i:Int))])
   (fun i ba bc ys w'=>(i≤q.bd.length∧ys.length=i∧ys.map AG.x=(q.bd.take i).map fun y=>mapA f y.x)∧Sat0 w (oQ b5 (cgC ⟨⟨mapA f q.hd.x,hda,hdc⟩,ba,bc,ys,none,0,[]⟩) 32::rowAt ba bc ys::rowT hda hdc (mapA f q.hd.x).args::oQ b4 (cgC ⟨⟨⟨T0,E0,[]⟩,none,0⟩,none,0,[],none,0,[]⟩) 32::oQ b2 (cgC q) 32::argsA ys) w')
   (fun i _ _ _=>q.bd.length - i) 0 none 0 [] Y7 (fun w' hw=>⟨⟨by omega,rfl,rfl⟩,hw⟩) ?_
 intro i ba bc ys
 refine WC.pure (fun hi=>?_)
 obtain ⟨hi,hyl,hyx⟩:=hi
 refine Csr (Zv (OV.cm rfl rfl) (Nn (Cs ?_)))
 refine Cc rfl (fun c20=>?_) (fun c20=>?_)
 ·refine Ck (Xn (Cs (Cb (Csr ?_))))
  obtain ⟨q1,y,hq,ht,htm,hra,hc⟩:=hr.bd.get (i:=i) (by omega)
  refine Zv ((OV.ad (show _=some (Value.slice (some q1) q.bd.length q.bc) by rw [← hq];rfl) rfl T.u22 T.z29 (by omega)).cast (u:=.pointer (some (q1.add (i*5)))) (by rw [Int.toNat_natCast])) (Zv (OV.ai (cs:=agC y) rfl T.u29 rfl T.z29 (fun _ hw j v hj=>hw.keeps _ _ (hc j v hj))) (WL.alloc T.zr29 rfl ?_))
  intro b7
  refine WL.ag (vs:=agC y) rfl rfl rfl T.z29 rfl ?_
  refine Nn (Hd (fun w'=>w'.heap[b5]?=some (.cells (cgC ⟨⟨mapA f q.hd.x,hda,hdc⟩,ba,bc,ys,none,0,[]⟩).toArray 32 (0,0))∧w'.heap[b7]?=some (.cells (agC y).toArray 29 (0,0))) [8] (fun _ hw=>⟨hw.it (oQ b5 (cgC ⟨⟨mapA f q.hd.x,hda,hdc⟩,ba,bc,ys,none,0,[]⟩) 32) (by simp),hw.it (oQ b7 (agC y) 29) (by simp)⟩) (m:=9) rfl ?_)
  refine Hf 0 rfl (OV.f0 5 rfl T.u32 rfl) (Ht 1 rfl (OV.ah (v:=.slice ba ys.length bc) rfl T.u22 rfl (fun _ hw=>(Jav hw.1 (o:=5) rfl).1)) (Ht 2 rfl (OV.ai (cs:=agC y) rfl T.u29 rfl T.z29 (fun _ hw j v hj=>by rw [Jap,Nat.zero_add];exact (Jav hw.2 hj).1)) (Hf 3 rfl (OV.aw rfl) (Ho 4 rfl (fl':=false) rfl ?_))))
  have hsy:=hs.at_ y (Or.inr htm)
  refine WL.cT (ι:=Option Addr × Nat) (vs:=[atV y.x y.a y.c,.func (.func g) #[] caps.toArray]) (vv:=fun z=>atV (mapA f y.x) z.1 z.2) (pp:=fun _=>True) [] (AA:=fun z=>[rowT z.1 z.2 (mapA f y.x).args]) rfl (fun w' hw' _=>(replaced_calls f g caps y.x y.a y.c (by omega) w' (hT.keeps hw'.keeps) (hra.keeps hw'.keeps)).mono (fun en w'' ⟨z,h1,h2⟩=>⟨z,h1,trivial,h2⟩)) ?_
  rintro ⟨qa,qc⟩ _
  refine Hc (fun _=>(fun _ hw=>⟨hw.it (oQ b5 (cgC ⟨⟨mapA f q.hd.x,hda,hdc⟩,ba,bc,ys,none,0,[]⟩) 32) (by simp),hw.it (oQ b7 (agC y) 29) (by simp)⟩)) ?_
  refine Ho 5 rfl (fl':=false) rfl ?_
  refine WL.bh (cs:=agC (⟨mapA f y.x,qa,qc⟩:AG)) T.u22 T.z29 T.zr29 rfl rfl (by omega) (by omega) rfl ?_
  intro b28
  refine Hc (fun _=>(fun _ hw=>⟨hw.it (oQ b5 (cgC ⟨⟨mapA f q.hd.x,hda,hdc⟩,ba,bc,ys,none,0,[]⟩) 32) (by simp),hw.it (oQ b7 (agC y) 29) (by simp)⟩)) ?_
  refine Ho 6 rfl (fl':=false) rfl ?_
  refine WL.focus (ow':=rowAt ba bc ys::oQ b28 (agC (⟨mapA f y.x,qa,qc⟩:AG)) 29::rowT qa qc (mapA f y.x).args::oQ b7 (agC y) 29::oQ b5 (cgC ⟨⟨mapA f q.hd.x,hda,hdc⟩,ba,bc,ys,none,0,[]⟩) 32::rowT hda hdc (mapA f q.hd.x).args::oQ b4 (cgC ⟨⟨⟨T0,E0,[]⟩,none,0⟩,none,0,[],none,0,[]⟩) 32::oQ b2 (cgC q) 32::argsA ys) (pmP [_,_,_,_,_,_,_,_] [4,0,1,2,3,5,6,7]) ?_
  refine WL.append (news:=agC (⟨mapA f y.x,qa,qc⟩:AG)) rfl rfl T.apA (fun _ _=>Jcs (.tail _ (.head _)) rfl) (Jji _) ⟨by omega,by unfold maxLen;omega⟩ rfl ?_
  intro a29 c29
  refine Hc (fun _=>(fun _ hw=>⟨hw.it (oQ b5 (cgC ⟨⟨mapA f q.hd.x,hda,hdc⟩,ba,bc,ys,none,0,[]⟩) 32) (by simp),hw.it (oQ b7 (agC y) 29) (by simp)⟩)) ?_
  refine Hf 7 rfl (OV.f0 5 rfl T.u32 rfl) (Ho 8 rfl (fl':=true) rfl ?_)
  refine WL.focus (ow':=oQ b5 (cgC ⟨⟨mapA f q.hd.x,hda,hdc⟩,ba,bc,ys,none,0,[]⟩) 32::rowAt a29 c29 (ys++[(⟨mapA f y.x,qa,qc⟩:AG)])::oQ b28 (agC (⟨mapA f y.x,qa,qc⟩:AG)) 29::rowT qa qc (mapA f y.x).args::oQ b7 (agC y) 29::rowT hda hdc (mapA f q.hd.x).args::oQ b4 (cgC ⟨⟨⟨T0,E0,[]⟩,none,0⟩,none,0,[],none,0,[]⟩) 32::oQ b2 (cgC q) 32::argsA ys) (by
   rw [show ys.length+1=(ys++[(⟨mapA f y.x,qa,qc⟩:AG)]).length by simp,show ys.flatMap agC++agC (⟨mapA f y.x,qa,qc⟩:AG)=(ys++[(⟨mapA f y.x,qa,qc⟩:AG)]).flatMap agC by simp]
   exact pmP [_,_,_,_,_,_,_,_] [4,0,1,2,3,5,6,7]) (WL.br (o:=5) rfl rfl rfl T.z22 (by show 5<7;omega) ?_)
  refine Hc (fun h=>by cases h) ?_
  refine He (Xb (Xn (Cr (Zv (OV.bi (j:=1) rfl rfl (by omega)) (Zm rfl (Nl ?_))))))
  exact WX.ce (i+1) a29 c29 (ys++[(⟨mapA f y.x,qa,qc⟩:AG)]) Y7 (fun w' hw=>⟨⟨by omega,by simp [hyl],by rw [Jb2 ht,List.map_append,List.map_append,hyx];rfl⟩,by
   rw [Ji2]
   rw [show ys.length+1=(ys++[(⟨mapA f y.x,qa,qc⟩:AG)]).length by simp] at hw
   refine Hw.Sat.pick [[oQ b5 (cgC ⟨⟨mapA f q.hd.x,hda,hdc⟩,a29,c29,ys++[(⟨mapA f y.x,qa,qc⟩:AG)],none,0,[]⟩) 32],[rowAt a29 c29 (ys++[(⟨mapA f y.x,qa,qc⟩:AG)])],[oQ b28 (agC (⟨mapA f y.x,qa,qc⟩:AG)) 29],[rowT qa qc (mapA f y.x).args],[oQ b7 (agC y) 29],[rowT hda hdc (mapA f q.hd.x).args],[oQ b4 (cgC ⟨⟨⟨T0,E0,[]⟩,none,0⟩,none,0,[],none,0,[]⟩) 32],[oQ b2 (cgC q) 32],argsA ys] [0,1,5,6,7,8,3] 9 rfl (by decide) (by decide) ?_
   exact hw⟩) (by show q.bd.length - (i+1)<q.bd.length - i;omega)
 refine Ce (Xe (Xe (Xh (Xn (Cs (Csr (Zv (OV.f0 6 rfl T.u32 rfl) (Zv (OV.l1 (v:=.slice q.ta q.ts.length q.tc) rfl T.u30 rfl (.tail _ (.tail _ (.tail _ (.tail _ (.head _))))) rfl) (Zv (OV.ae rfl T.u30) (Zm rfl (Nn (Cb ?_))))))))))))
 rw [List.take_of_length_le (by omega)] at hyx
 refine WC.weak (S':=Sat0 w (oQ b5 (cgC ⟨⟨mapA f q.hd.x,hda,hdc⟩,ba,bc,ys,none,0,[]⟩) 32::row 61 7 none 0 0 []::rowT hda hdc (mapA f q.hd.x).args::oQ b4 (cgC ⟨⟨⟨T0,E0,[]⟩,none,0⟩,none,0,[],none,0,[]⟩) 32::oQ b2 (cgC q) 32::rowAt ba bc ys::argsA ys)) (fun w' hw=>(hw.rowNil 61 7).perm (pmP [_,_,_,_,_,_] [1,0,3,4,5,2])) ?_
 clear hi
 refine WC.da (fun (i:Nat) (ta:Option Addr) (tc:Nat) (us:List Ts)=>[(1,.func (.func g) #[] caps.toArray),(2,.pointer (some ⟨b2,0,none⟩)),(4,.pointer (some ⟨b4,0,none⟩)),(5,.pointer (some ⟨b5,0,none⟩)),(33,.slice q.ta q.ts.length q.tc),(34,.int .i64 (q.ts.length:Int)),(35,.int .i64 (i:Int))])
   (fun i ta tc us w'=>(i≤q.ts.length∧us.length=i∧us=(q.ts.take i).map (mapT f))∧Sat0 w (oQ b5 (cgC ⟨⟨mapA f q.hd.x,hda,hdc⟩,ba,bc,ys,ta,tc,us⟩) 32::rowS ta tc us::rowT hda hdc (mapA f q.hd.x).args::oQ b4 (cgC ⟨⟨⟨T0,E0,[]⟩,none,0⟩,none,0,[],none,0,[]⟩) 32::oQ b2 (cgC q) 32::rowAt ba bc ys::argsA ys) w')
   (fun i _ _ _=>q.ts.length - i) 0 none 0 [] Y7 (fun w' hw=>⟨⟨by omega,rfl,rfl⟩,hw⟩) ?_
 intro i ta tc us
 refine WC.pure (fun hi=>?_)
 obtain ⟨hi,hul,hue⟩:=hi
 refine Csr (Zv (OV.cm rfl rfl) (Nn (Cs ?_)))
 refine Cc rfl (fun c36=>?_) (fun c36=>?_)
 ·refine Ck (Xn (Cs (Cb (Csr ?_))))
  obtain ⟨q1,t,hq,ht,htm,hc⟩:=hr.ts.get (i:=i) (by omega)
  refine Zv ((OV.ad (show _=some (Value.slice (some q1) q.ts.length q.tc) by rw [← hq];rfl) rfl T.u30 T.z61 (by omega)).cast (u:=.pointer (some (q1.add (i*7)))) (by rw [Int.toNat_natCast])) (Zv (OV.ai (cs:=tsC t) rfl T.u61 rfl T.z61 (fun _ hw j v hj=>hw.keeps _ _ (hc j v hj))) (WL.alloc T.zr61 rfl ?_))
  intro b9
  refine WL.ag (vs:=tsC t) rfl rfl rfl T.z61 rfl ?_
  refine Nn (Csr (Zm rfl (Zv (OV.f0 1 rfl T.u61 rfl) (Zv (OV.ai (cs:=tmC t.l) rfl T.u26 rfl T.z26 (fun _ hw j v hj=>by rw [Jap];exact Jbo hw (.head _) (o:=1) (cs':=tmC t.l) rfl j v hj)) (WL.e5 (f:=g) (caps:=caps) (vs:=[tmV t.l]) (v:=tmV (f t.l)) hT.bod rfl rfl rfl (fun w' hw'=>hT.run t.l w' hw'.keeps) ?_)))))
  refine WL.alloc T.zr26 rfl ?_
  intro b10
  refine WL.ag (vs:=tmC (f t.l)) rfl rfl rfl T.z26 rfl ?_
  refine Nn (Hd (fun w'=>w'.heap[b5]?=some (.cells (cgC ⟨⟨mapA f q.hd.x,hda,hdc⟩,ba,bc,ys,ta,tc,us⟩).toArray 32 (0,0))∧w'.heap[b9]?=some (.cells (tsC t).toArray 61 (0,0))∧w'.heap[b10]?=some (.cells (tmC (f t.l)).toArray 26 (0,0))) [13] (fun _ hw=>⟨hw.it (oQ b5 (cgC ⟨⟨mapA f q.hd.x,hda,hdc⟩,ba,bc,ys,ta,tc,us⟩) 32) (by simp),hw.it (oQ b9 (tsC t) 61) (by simp),hw.it (oQ b10 (tmC (f t.l)) 26) (by simp)⟩) (m:=14) rfl ?_)
  refine Hf 0 rfl (OV.f0 6 rfl T.u32 rfl) (Ht 1 rfl (OV.ah (v:=.slice ta us.length tc) rfl T.u30 rfl (fun _ hw=>(Jav hw.1 (o:=6) rfl).1)) (Hf 2 rfl (OV.f0 0 rfl T.u61 rfl) (Ht 3 rfl (OV.ah (v:=.int .i64 t.op) rfl T.u3 rfl (fun _ hw=>(Jav hw.2.1 (o:=0) rfl).1)) (Ht 4 rfl (OV.ai (cs:=tmC (f t.l)) rfl T.u26 rfl T.z26 (fun _ hw j v hj=>by rw [Jap];exact Jb3 hw.2.2 (o:=0) (cs':=tmC (f t.l)) rfl j v hj)) (Hf 5 rfl (OV.aw rfl) (Hf 6 rfl (OV.f0 4 rfl T.u61 rfl) (Ht 7 rfl (OV.ai (cs:=tmC t.r) rfl T.u26 rfl T.z26 (fun _ hw j v hj=>by rw [Jap];exact Jb3 hw.2.1 (o:=4) (cs':=tmC t.r) rfl j v hj)) (Ho 8 rfl (fl':=false) rfl ?_))))))))
  refine WL.e5 (f:=g) (caps:=caps) (vs:=[tmV t.r]) (v:=tmV (f t.r)) hT.bod rfl rfl rfl (fun w' hw'=>hT.run t.r w' hw'.keeps) ?_
  refine Hc (fun _=>(fun _ hw=>⟨hw.it (oQ b5 (cgC ⟨⟨mapA f q.hd.x,hda,hdc⟩,ba,bc,ys,ta,tc,us⟩) 32) (by simp),hw.it (oQ b9 (tsC t) 61) (by simp),hw.it (oQ b10 (tmC (f t.l)) 26) (by simp)⟩)) ?_
  refine Hf 9 rfl (OV.ao (xs:=[(0,.tmp 46),(1,.tmp 47),(2,.tmp 51)]) (pl:=[(0,1),(1,3),(4,3)]) (cs:=tsC (mapT f t)) T.u61 T.zr61 (by kernel_rfl) rfl (Jal (us:=[_]) rfl rfl (Nat.le_of_ble_eq_true rfl) (Jal (us:=tmC (f t.l)) rfl rfl (Nat.le_of_ble_eq_true rfl) (Jal (us:=tmC (f t.r)) rfl rfl (Nat.le_of_ble_eq_true rfl) rfl)))) (Ho 10 rfl (fl':=false) rfl ?_)
  refine WL.bh (cs:=tsC (mapT f t)) T.u30 T.z61 T.zr61 rfl rfl (by omega) (by omega) rfl ?_
  intro b53
  refine Hc (fun _=>(fun _ hw=>⟨hw.it (oQ b5 (cgC ⟨⟨mapA f q.hd.x,hda,hdc⟩,ba,bc,ys,ta,tc,us⟩) 32) (by simp),hw.it (oQ b9 (tsC t) 61) (by simp),hw.it (oQ b10 (tmC (f t.l)) 26) (by simp)⟩)) ?_
  refine Ho 11 rfl (fl':=false) rfl ?_
  refine WL.focus (ow':=rowS ta tc us::oQ b53 (tsC (mapT f t)) 61::oQ b10 (tmC (f t.l)) 26::oQ b9 (tsC t) 61::oQ b5 (cgC ⟨⟨mapA f q.hd.x,hda,hdc⟩,ba,bc,ys,ta,tc,us⟩) 32::rowT hda hdc (mapA f q.hd.x).args::oQ b4 (cgC ⟨⟨⟨T0,E0,[]⟩,none,0⟩,none,0,[],none,0,[]⟩) 32::oQ b2 (cgC q) 32::rowAt ba bc ys::argsA ys) (pmP [_,_,_,_,_,_,_,_] [4,0,1,2,3,5,6,7]) ?_
  refine WL.append (news:=tsC (mapT f t)) rfl rfl T.apS (fun _ _=>Jcs (.tail _ (.head _)) rfl) (Jn0 _) ⟨by omega,by unfold maxLen;omega⟩ rfl ?_
  intro a54 c54
  refine Hc (fun _=>(fun _ hw=>⟨hw.it (oQ b5 (cgC ⟨⟨mapA f q.hd.x,hda,hdc⟩,ba,bc,ys,ta,tc,us⟩) 32) (by simp),hw.it (oQ b9 (tsC t) 61) (by simp),hw.it (oQ b10 (tmC (f t.l)) 26) (by simp)⟩)) ?_
  refine Hf 12 rfl (OV.f0 6 rfl T.u32 rfl) (Ho 13 rfl (fl':=true) rfl ?_)
  refine WL.focus perm4 (WL.br (o:=6) rfl rfl rfl T.z30 (by show 6<7;omega) ?_)
  refine Hc (fun h=>by cases h) ?_
  refine He (Xb (Xn (Cr (Zv (OV.bi (j:=1) rfl rfl (by omega)) (Zm rfl (Nl ?_))))))
  have el:us.length+1=(us++[(mapT f t)]).length:=by simp
  have ef:us.flatMap tsC++tsC (mapT f t)=(us++[(mapT f t)]).flatMap tsC:=by simp
  exact WX.ce (i+1) a54 c54 (us++[(mapT f t)]) Y7 (fun w' hw=>⟨⟨by omega,by simp [hul],by rw [Jb2 ht,List.map_append,hue];rfl⟩,by
   rw [el,ef] at hw
   exact hw.pik [[oQ b5 (cgC ⟨⟨mapA f q.hd.x,hda,hdc⟩,ba,bc,ys,a54,c54,us++[(mapT f t)]⟩) 32],[rowS a54 c54 (us++[(mapT f t)])],[oQ b53 (tsC (mapT f t)) 61],[oQ b10 (tmC (f t.l)) 26],[oQ b9 (tsC t) 61],[rowT hda hdc (mapA f q.hd.x).args],[oQ b4 (cgC ⟨⟨⟨T0,E0,[]⟩,none,0⟩,none,0,[],none,0,[]⟩) 32],[oQ b2 (cgC q) 32],rowAt ba bc ys::argsA ys] [0,1,5,6,7,8] 9⟩) (by show q.ts.length - (i+1)<q.ts.length - i;omega)
 refine Ce (Xe (Xe (Xh (Xn (Csr (Zv (OV.lN (cs:=cgC ⟨⟨mapA f q.hd.x,hda,hdc⟩,ba,bc,ys,ta,tc,us⟩) rfl T.u32 rfl T.z32 (.head _)) ?_))))))
 refine WL.focus perm3 (WL.ag (vs:=cgC ⟨⟨mapA f q.hd.x,hda,hdc⟩,ba,bc,ys,ta,tc,us⟩) rfl rfl rfl T.z32 rfl ?_)
 refine Nn (WC.az ?_)
 rw [List.take_of_length_le (by omega)] at hue
 refine WX.retC (cs:=cgC ⟨⟨mapA f q.hd.x,hda,hdc⟩,ba,bc,ys,ta,tc,us⟩) rfl rfl rfl T.u32 rfl T.z32 (fun w' hw j v hj=>Ja0 hw (.head _) j v hj) (fun w' hw=>⟨⟨⟨mapA f q.hd.x,hda,hdc⟩,ba,bc,ys,ta,tc,us⟩,rfl,mapC_eq rfl hyx hue,?_⟩)
 exact (hw.pik [[oQ b4 (cgC ⟨⟨mapA f q.hd.x,hda,hdc⟩,ba,bc,ys,ta,tc,us⟩) 32],[oQ b5 (cgC ⟨⟨mapA f q.hd.x,hda,hdc⟩,ba,bc,ys,ta,tc,us⟩) 32],[rowS ta tc us],[rowT hda hdc (mapA f q.hd.x).args],[oQ b2 (cgC q) 32],rowAt ba bc ys::argsA ys] [3,5,2] 6).turned0
theorem instance_calls (q:CG)(hs:CS q)(vs:List Tm)(va:Option Addr)(vc:Nat)(hvl:vs.length≤1099511627776)(w:World)(hr:RC w q)(hv:RT w va vs):Calls Tryz.prog 25 #[cgV q,.slice va vs.length vc] w fun e w'=>∃ g':CG,e=.returned (cgV g')∧g'.cl=mapC (instT vs) q.cl∧Turns [] (cgA g') w w':=by
 refine Jbl (args:=[cgV q,.slice va vs.length vc]) (fun _=>False) Tryz.func25 rfl Tryz.ntmps25 rfl rfl ?_
 refine Csr (WL.box rfl rfl rfl ?_)
 intro b2
 refine WL.box rfl rfl rfl ?_
 intro b3
 refine WL.alloc T.zr32 rfl ?_
 intro b4
 refine Nn (Csr (Zv (OV.lN (cs:=cgC q) rfl T.u32 rfl T.z32 (.tail _ (.tail _ (.head _)))) (Zv (OV.makeFunc rfl) (WL.cT (ι:=CG) (vs:=[cgV q,.func (.func 62) #[] #[ptr b3]]) (vv:=fun g'=>cgV g') (pp:=fun g'=>g'.cl=mapC (instT vs) q.cl) [] (AA:=fun g'=>cgA g') rfl (fun w' hw' _=>(turned_calls (instT vs) 62 [ptr b3] q hs w' ⟨by kernel_rfl,fun t w1 hk=>inst1_calls vs va vc t b3 hvl w1 (hk _ _ (Jav (hw'.it (oQ b3 [Value.slice va vs.length vc] 27) (.tail _ (.head _))) (o:=0) rfl).1) ((hv.keeps hw'.keeps).keeps hk)⟩ (hr.keeps hw'.keeps)).mono (fun en w'' ⟨g',h1,h2,h3⟩=>⟨g',h1,h2,h3⟩)) ?_))))
 intro g' hg'
 refine WL.focus (ow':=oQ b4 (cgC ⟨⟨⟨T0,E0,[]⟩,none,0⟩,none,0,[],none,0,[]⟩) 32::(cgA g'++(oQ b3 [Value.slice va vs.length vc] 27::oQ b2 (cgC q) 32::[]))) (pmC [cgA g',[oQ b4 (cgC ⟨⟨⟨T0,E0,[]⟩,none,0⟩,none,0,[],none,0,[]⟩) 32],[oQ b3 [Value.slice va vs.length vc] 27],[oQ b2 (cgC q) 32]] [1,0,2,3]) ?_
 refine WL.ag (vs:=cgC g') rfl rfl rfl T.z32 rfl ?_
 refine Nn (WC.az ?_)
 refine WX.retC (cs:=cgC g') rfl rfl rfl T.u32 rfl T.z32 (fun w' hw j v hj=>Ja0 hw (.head _) j v hj) (fun w' hw=>⟨g',rfl,hg',?_⟩)
 exact (hw.pik [[oQ b4 (cgC g') 32],cgA g',[oQ b3 [Value.slice va vs.length vc] 27],[oQ b2 (cgC q) 32]] [1] 4).turned0
structure BG where
 ys:List Bd
 a:Option Addr
 c:Nat
def bgV (y:BG):Value:=.slice y.a y.ys.length y.c
abbrev bgA (y:BG):Hw.Item:=rowB y.a y.c y.ys
abbrev rowBB (a:Option Addr)(c:Nat)(bs:List BG):Hw.Item:=row 54 1 a bs.length c (bs.map bgV)
theorem T.apR2:appB Tryz.prog 39 27 1 24=true:=by kernel_rfl
def Jon {γ:Type}(bp:Value)(q:CG)(lead:Option Nat)(w0:World)(A0:List Hw.Item)(AA:γ→List Hw.Item)(pp:γ→Prop)(bl:List Bn):Prop:=
 ∀ (p:PG) (w1:World),p.al=nI (Jbm q.cl)→jnEq p.js (makeP q.cl lead)→Keeps w0 w1→Holds (A0++pgA p) w1 →
  Calls Tryz.prog 40 #[bp,cgV q,.int .i64 (leadI lead),pgV p] w1 fun e w2=>∃ z:γ × Option Addr × Nat × List BG,e=.returned (.slice z.2.1 z.2.2.2.length z.2.2.1)∧(pp z.1∧z.2.2.2.map (fun y=>sb y.ys)=bl∧∀ y∈z.2.2.2,y.ys.length≤1048576)∧Turns A0 (AA z.1++(rowBB z.2.1 z.2.2.1 z.2.2.2::z.2.2.2.map bgA)) w1 w2
def Jo7 (rs:List (List Tm))(RES:List (List Tm)→Prop):Prop:=
 ∀ (a:Option Addr) (c:Nat) (ts:List TG) (w1:World),(ts.map TG.l).Perm rs→ts.Pairwise (fun x y=>¬ Jby cmpT y.l x.l<0)→Holds (rowR a c ts::ts.map tgA) w1 →
  Calls Tryz.prog 44 #[.slice a ts.length c,.func (.func 45) #[] #[]] w1 fun e w2=>∃ z:List TG,e=.returned (.slice a z.length c)∧RES (z.map TG.l)∧Turns (rowR a c ts::ts.map tgA) (rowR a c z::z.map tgA) w1 w2
def valF (n:Nat)(s:Bn)(v:Nat):List Tm:=((List.range v).map fun k:Nat=>(gotT s (k:Int)).getD T0)++zT (n - v)
theorem valF_len {n v:Nat}(s:Bn)(h:v≤n):(valF n s v).length=n:=by
 unfold valF zT
 rw [List.length_append,List.length_map,List.length_range,List.length_replicate];omega
theorem valF_flat {n v:Nat}(s:Bn)(h:v≤n):((valF n s v).flatMap tmC).length=n*3:=by rw [Jc1 Jcu,valF_len s h]
theorem valF_set {n v:Nat}(s:Bn)(h:v<n):(valF n s v).set v ((gotT s (v:Int)).getD T0)=valF n s (v+1):=by
 unfold valF zT
 rw [List.set_append_right _ _ (by rw [List.length_map,List.length_range];omega),List.length_map,List.length_range,Nat.sub_self,show n - v=(n - (v+1))+1 by omega,List.replicate_succ,List.set_cons_zero,List.range_succ,List.map_append,List.append_assoc]
 rfl
theorem valF_end (n:Nat)(s:Bn):valF n s n=valsB n s:=by
 unfold valF valsB zT
 rw [Nat.sub_self]
 exact List.append_nil _
theorem CmpOK.pull0 {α β:Type}{f:α→α→Int}(hf:CmpOK f)(g:β→α):Go.Sort.SWO (Go.Proofs.ltOf fun a b:β=>f (g a) (g b)):=
 have h:=hf.swo
 ⟨fun x=>h.irrefl _,fun x y z=>h.trans _ _ _,fun x y z=>h.ntrans _ _ _⟩
set_option maxHeartbeats 1000000 in
theorem solve_from {γ:Type}(A0:List Hw.Item)(AA:γ→List Hw.Item)(pp:γ→Prop)(bl:List Bn)(RES:List (List Tm)→Prop)(bp:Value)(q:CG)(hs:CS q)(hv:VC q.cl)(hn:nV q.cl≤1048576)(lead:Option Nat)(hld:∀ l,lead=some l→l<q.cl.bd.length)(w0:World)(hN:Jcy w0)(hC:Jjg w0)(hr:RC w0 q)(w:World)(hk:Keeps w0 w)(hB:∀ b,DD A0 b→w0.heap.size≤b)(hA:Holds A0 w)(hbl:bl.length≤1048576)(hb:Jon bp q lead w0 A0 AA pp bl)(hcm:Jo7 (bl.map (valsB (nV q.cl))) RES):Calls Tryz.prog 12 #[bp,cgV q,.int .i64 (leadI lead)] w fun e w'=>∃ z:γ × Option Addr × Nat × List TG,e=.returned (.tuple #[.slice z.2.1 z.2.2.2.length z.2.2.1,.int .i64 0])∧(pp z.1∧RES (z.2.2.2.map TG.l))∧Turns A0 (AA z.1++(rowR z.2.1 z.2.2.1 z.2.2.2::z.2.2.2.map tgA)) w w':=by
 refine Jdl hA (args:=[bp,cgV q,.int .i64 (leadI lead)]) Tryz.func12 rfl Tryz.ntmps12 rfl rfl ?_
 refine Csr (WL.box rfl rfl rfl ?_)
 intro b4
 refine Za rfl (Za rfl (Nn (Csr (Zv (OV.lN (cs:=cgC q) rfl T.u32 rfl T.z32 (.head _)) (Zm rfl (WL.cT (ι:=PG) (vs:=[cgV q,.int .i64 (leadI lead)]) (vv:=fun p=>.tuple #[pgV p,.int .i64 0]) (pp:=fun p=>p.al=nI (Jbm q.cl)∧jnEq p.js (makeP q.cl lead)) [] (AA:=fun p=>pgA p) rfl (fun w' hw' _=>make_calls q hs hv lead hld w' (hN.keeps (Jb0 hk hB hw')) (hC.keeps (Jb0 hk hB hw')) (hr.keeps (Jb0 hk hB hw'))) ?_))))))
 rintro p ⟨hpa,hpj⟩
 refine Zm rfl (Zv (OV.extract rfl rfl) (Zv (OV.extract rfl rfl) (WL.alloc T.zr87 rfl ?_)))
 intro bb8
 refine WL.ag (vs:=pgC p) rfl rfl rfl T.z87 rfl ?_
 refine Za rfl (Nn (Cs (Csr (Zm rfl (Zv ((OV.ic rfl rfl).cast (u:=.bool false) rfl) (Nn (WC.bu (show _=some (Value.bool false) from by rfl) ?_)))))))
 refine Ck (Xn (Csr (Zv (OV.lN (cs:=cgC q) rfl T.u32 rfl T.z32 (show oQ b4 (cgC q) 32∈_ by simp)) (WL.c0 (v:=.int .i64 (nV q.cl:Nat)) (vs:=[cgV q]) (fun w' hw'=>cvars_calls q hs w' (hr.keeps (Jb0 hk hB hw'))) ?_))))
 refine Za rfl (Nn (Csr (Za rfl (Nn (Cs (Csr (Zm rfl (Zv (OV.lN (cs:=cgC q) rfl T.u32 rfl T.z32 (show oQ b4 (cgC q) 32∈_ by simp)) (Zm rfl (Zv (OV.lN (cs:=pgC p) rfl T.u87 rfl T.z87 (.head _)) (WL.focus (ow':=A0++(pgA p++[oQ bb8 (pgC p) 87,oQ b4 (cgC q) 32])) (pmC [[oQ bb8 (pgC p) 87],pgA p,[oQ b4 (cgC q) 32],A0] [3,1,0,2]) ?_)))))))))))
 refine WL.cT (ι:=γ × Option Addr × Nat × List BG) (vs:=[bp,cgV q,.int .i64 (leadI lead),pgV p]) (vv:=fun z=>.slice z.2.1 z.2.2.2.length z.2.2.1) (pp:=fun z=>pp z.1∧z.2.2.2.map (fun y=>sb y.ys)=bl∧∀ y∈z.2.2.2,y.ys.length≤1048576) A0 (AA:=fun z=>AA z.1++(rowBB z.2.1 z.2.2.1 z.2.2.2::z.2.2.2.map bgA)) rfl (fun w' hw' hH=>hb p w' hpa hpj (Jb0 hk hB hw') (Hw.Sat.holdsAll (Hw.Sat.part (by rw [← List.append_assoc];exact List.sublist_append_left _ _) hw'))) ?_
 rintro ⟨z0,ba,bc,bs⟩ ⟨hpz,hbs,hby⟩
 refine Zv (OV.ae rfl T.u90) (Zm rfl (Nn (Cb ?_)))
 refine WC.weak (S':=SatA w A0 (row 27 1 none 0 0 []::rowBB ba bc bs::([]++((bs.map bgA)++AA z0)))) (fun w' hw=>by
  rw [List.append_assoc] at hw
  exact ((hw.pik [AA z0,[rowBB ba bc bs],(bs.map bgA),pgA p,[oQ bb8 (pgC p) 87],[oQ b4 (cgC q) 32]] [1,2,0] 6).rowNil 27 1)) ?_
 refine WC.da (fun (i:Nat) (la:Option Addr) (lc:Nat) (ts:List TG)=>[(10,.int .i64 (nV q.cl:Nat)),(31,.slice ba bs.length bc),(32,.int .i64 (bs.length:Int)),(33,.int .i64 (i:Int)),(11,.slice la ts.length lc)])
   (fun i la lc ts w'=>(i≤bs.length∧ts.length=i∧ts.map TG.l=((bs.take i).map fun y=>sb y.ys).map (valsB (nV q.cl))∧∀ t∈ts,t.l.length≤1048576)∧SatA w A0 (rowR la lc ts::rowBB ba bc bs::(ts.map tgA++((bs.map bgA)++AA z0))) w')
   (fun i _ _ _=>bs.length - i) 0 none 0 [] Y5 (fun w' hw=>⟨⟨by omega,rfl,rfl,fun t ht=>by cases ht⟩,hw⟩) ?_
 intro i la lc ts
 refine WC.pure (fun hi=>?_)
 obtain ⟨hi,htn,hte,htl⟩:=hi
 have hsl0:bs.length=bl.length:=by rw [← hbs,List.length_map]
 refine Csr (Zv (OV.cm rfl rfl) (Nn (Cs ?_)))
 refine Cc rfl (fun c34=>?_) (fun c34=>?_)
 ·refine Ck (Xn (Cs (Cb (Csr ?_))))
  obtain ⟨y,hy⟩:∃ y,bs[i]?=some y:=⟨_,List.getElem?_eq_getElem (by omega)⟩
  have hym:=List.mem_of_getElem? hy
  refine WL.jd (fun w' hw'=>(Jdt hw' (show rowBB ba bc bs∈_ from .tail _ (.head _))).2) (fun hbq=>?_)
  obtain ⟨q9,hq9⟩:∃ q9,ba=some q9:=by
   rcases hbq with ⟨_,h,_⟩ | ⟨b,hb9,_⟩
   ·omega
   ·exact ⟨_,hb9⟩
  refine Zv ((OV.ad (show _=some (Value.slice (some q9) bs.length bc) by rw [← hq9];rfl) rfl T.u90 T.z54 (by omega)).cast (u:=.pointer (some (q9.add i))) (by rw [Int.toNat_natCast,Nat.mul_one])) ?_
  refine WL.val (OV.ah (v:=bgV y) rfl T.u54 rfl (fun _ hw=>by have h:=Jd1 hw hq9 (.tail _ (.head _)) i (bgV y) (by rw [List.getElem?_map,hy];rfl);exact h)) rfl ?_
  refine Za rfl (Nn (Csr (Zm rfl (WL.ee (bytes:=32) (zc:=tmC T0) rfl rfl T.u27 T.z26 T.zr26 (by decide) (by kernel_rfl) ⟨by omega,by omega⟩ rfl ?_))))
  intro b38
  refine Za rfl (Nn (Cs (Csr (Zm rfl (Zm rfl (Nn (Cb ?_)))))))
  refine WC.weak (S':=SatA w A0 (row 26 3 (some ⟨b38,0,none⟩) (nV q.cl) (nV q.cl) ((valF (nV q.cl) (sb y.ys) 0).flatMap tmC)::rowR la lc ts::rowBB ba bc bs::(ts.map tgA++((bs.map bgA)++AA z0)))) (fun w' hw=>by
   rw [Jju] at hw
   exact hw.asRow (m:=nV q.cl) (k:=3) (by rw [Jc1 Jcu];simp [zT]) (by unfold maxLen;omega)) ?_
  refine WC.cg (fun (v:Nat)=>[(10,.int .i64 (nV q.cl:Nat)),(31,.slice ba bs.length bc),(32,.int .i64 (bs.length:Int)),(33,.int .i64 (i:Int)),(11,.slice la ts.length lc),(13,bgV y),(14,.slice (some ⟨b38,0,none⟩) (nV q.cl) (nV q.cl)),(39,.int .i64 (nV q.cl:Nat)),(40,.int .i64 (v:Int))])
    (fun v w'=>v≤nV q.cl∧SatA w A0 (row 26 3 (some ⟨b38,0,none⟩) (nV q.cl) (nV q.cl) ((valF (nV q.cl) (sb y.ys) v).flatMap tmC)::rowR la lc ts::rowBB ba bc bs::(ts.map tgA++((bs.map bgA)++AA z0))) w')
    (fun v=>nV q.cl - v) 0 Y9 (fun w' hw=>⟨by omega,hw⟩) ?_
  intro v
  refine WC.pure (fun hvn=>?_)
  have hvf:=valF_len (sb y.ys) hvn
  refine Csr (Zv (OV.cm rfl rfl) (Nn (Cs ?_)))
  refine Cc rfl (fun c41=>?_) (fun c41=>?_)
  ·refine Ck (Xn (Cs (Cb (Csr (Zm rfl (Za rfl (Nn (Cr (Zm rfl (Zm rfl (Zm rfl (Zm rfl (WL.c0 (v:=.tuple #[tmV ((gotT (sb y.ys) (v:Int)).getD T0),.bool (gotT (sb y.ys) (v:Int)).isSome]) (vs:=[bgV y,.int .i64 (v:Int)]) (fun w' hw'=>tlook_calls y.ys (v:Int) y.a y.c (by have:=hby y hym;omega) w' (hN.keeps (Jb0 hk hB hw')) (RBd.of_row (c:=y.c) hw' (.tail _ (.tail _ (.tail _ (List.mem_append_right _ (List.mem_append_left _ (List.mem_map.2 ⟨y,hym,rfl⟩)))))))) ?_)))))))))))))
   refine Zm rfl (Zv (OV.extract rfl rfl) (Zv (OV.extract rfl rfl) (Zv ((OV.ad rfl rfl T.u27 T.z26 (by omega)).cast (u:=.pointer (some ⟨b38,v*3,none⟩)) (by rw [Int.toNat_natCast,Jap,Nat.zero_add])) (WL.ia (vs:=tmC ((gotT (sb y.ys) (v:Int)).getD T0)) (o:=v*3) rfl rfl rfl rfl T.z26 (by rw [valF_flat _ (by omega)];show v*3+3≤_;omega) ?_))))
   refine Nl (Xb (Xn (Cr (Zv (OV.bi (j:=1) rfl rfl (by omega)) (Zm rfl (Nl ?_))))))
   have hfp:=Jlz (valF (nV q.cl) (sb y.ys) v) v ((gotT (sb y.ys) (v:Int)).getD T0) (by omega)
   rw [hfp,valF_set _ (by omega)]
   exact WX.bg (v+1) Y9 (fun w' hw=>⟨by omega,hw⟩) (by show nV q.cl - (v+1)<nV q.cl - v;omega)
  refine Ce (Xe (Xe (Xh (Xn ?_))))
  obtain rfl:v=nV q.cl:=by omega
  refine WC.weak (S':=SatA w A0 (tgA (⟨valsB (nV q.cl) (sb y.ys),some ⟨b38,0,none⟩,nV q.cl⟩:TG)::rowR la lc ts::rowBB ba bc bs::(ts.map tgA++((bs.map bgA)++AA z0)))) (fun w' hw=>by
   rw [valF_end] at hw
   show SatA w A0 (row 26 3 (some ⟨b38,0,none⟩) (valsB (nV q.cl) (sb y.ys)).length (nV q.cl) ((valsB (nV q.cl) (sb y.ys)).flatMap tmC)::_) w'
   rw [Jfp]
   exact hw) ?_
  rw [show Value.slice (some ⟨b38,0,none⟩) (nV q.cl) (nV q.cl)=tgV (⟨valsB (nV q.cl) (sb y.ys),some ⟨b38,0,none⟩,nV q.cl⟩:TG) by unfold tgV;simp only [Jfp]]
  refine Cr (Zm rfl (Zm rfl (WL.bn T.u39 T.z27 T.zr27 rfl rfl rfl ?_)))
  intro b55
  refine WL.focus (ow':=rowR la lc ts::oQ b55 [tgV (⟨valsB (nV q.cl) (sb y.ys),some ⟨b38,0,none⟩,nV q.cl⟩:TG)] 27::tgA (⟨valsB (nV q.cl) (sb y.ys),some ⟨b38,0,none⟩,nV q.cl⟩:TG)::rowBB ba bc bs::(ts.map tgA++((bs.map bgA)++AA z0))) (pmP [_,_,_,_] [2,0,1,3]) ?_
  refine WL.append (news:=[tgV (⟨valsB (nV q.cl) (sb y.ys),some ⟨b38,0,none⟩,nV q.cl⟩:TG)]) rfl rfl T.apR2 (fun _ _=>Jd9 (.tail _ (.head _)) rfl) (by intro u hu;simp only [List.mem_singleton] at hu;subst hu;rfl) ⟨by omega,by unfold maxLen;omega⟩ rfl ?_
  intro a56 c56
  refine Za rfl (Nl (Xb (Xn (Cr (Zv (OV.bi (j:=1) rfl rfl (by omega)) (Zm rfl (Nl ?_)))))))
  have el:ts.length+1=(ts++[(⟨valsB (nV q.cl) (sb y.ys),some ⟨b38,0,none⟩,nV q.cl⟩:TG)]).length:=by simp
  have ef:ts.map tgV++[tgV (⟨valsB (nV q.cl) (sb y.ys),some ⟨b38,0,none⟩,nV q.cl⟩:TG)]=(ts++[(⟨valsB (nV q.cl) (sb y.ys),some ⟨b38,0,none⟩,nV q.cl⟩:TG)]).map tgV:=by simp
  rw [el,ef]
  exact WX.ce (i+1) a56 c56 (ts++[(⟨valsB (nV q.cl) (sb y.ys),some ⟨b38,0,none⟩,nV q.cl⟩:TG)]) Y5 (fun w' hw=>⟨⟨by omega,by simp [htn],by rw [Jb2 hy,List.map_append,List.map_append,List.map_append,hte];rfl,fun t ht=>by
    rcases List.mem_append.1 ht with h | h
    ·exact htl t h
    ·simp only [List.mem_singleton] at h;subst h;show (valsB _ _).length≤_;rw [Jfp];exact hn⟩,by
   rw [show (ts++[(⟨valsB (nV q.cl) (sb y.ys),some ⟨b38,0,none⟩,nV q.cl⟩:TG)]).map tgA=ts.map tgA++[tgA (⟨valsB (nV q.cl) (sb y.ys),some ⟨b38,0,none⟩,nV q.cl⟩:TG)] by simp,List.append_assoc]
   exact hw.pik [[rowR a56 c56 (ts++[(⟨valsB (nV q.cl) (sb y.ys),some ⟨b38,0,none⟩,nV q.cl⟩:TG)])],[oQ b55 [tgV (⟨valsB (nV q.cl) (sb y.ys),some ⟨b38,0,none⟩,nV q.cl⟩:TG)] 27],[tgA (⟨valsB (nV q.cl) (sb y.ys),some ⟨b38,0,none⟩,nV q.cl⟩:TG)],[rowBB ba bc bs],ts.map tgA,(bs.map bgA),AA z0] [0,3,4,2,5,6] 7⟩) (by show bs.length - (i+1)<bs.length - i;omega)
 refine Ce (Xe (Xe (Xh (Xn (Cs ?_)))))
 have htb:ts.map TG.l=bl.map (valsB (nV q.cl)):=by rw [hte,List.take_of_length_le (by omega),hbs]
 refine Cr (Zm rfl ?_)
 have hsl:bs.length=bl.length:=by rw [← hbs,List.length_map]
 refine WL.weak (S':=SatA w A0 (row 27 1 la ts.attach.length lc (ts.attach.map fun z=>tgV z.1)::rowBB ba bc bs::(ts.map tgA++((bs.map bgA)++AA z0)))) (fun w' hw=>by
  rw [List.length_attach,show (ts.attach.map fun z=>tgV z.1)=ts.map tgV from by
   show ts.attach.map (tgV ∘ Subtype.val)=_
   rw [← List.map_map,List.attach_map_subtype_val]]
  exact hw) ?_
 refine WL.e6 (ι:=List {t // t∈ts}) (vs:=[.slice la ts.length lc,.func (.func 43) #[] #[]]) (vv:=fun _=>.tuple #[]) (pp:=fun ys=>ys.Perm ts.attach∧ys.Pairwise (fun x y=>Go.Proofs.ltOf (fun a b:{t // t∈ts}=>Jby cmpT a.1.l b.1.l) y x=false)) (jj:=fun ys=>row 27 1 la ys.length lc (ys.map fun z=>tgV z.1)) (by kernel_rfl) rfl rfl (fun w' hw' hH=>by
  have h9:=sortFunc0_calls Tryz.sortR (fun z:{t // t∈ts}=>tgV z.1) (fun _=>rfl) (fun a b=>Jby cmpT a.1.l b.1.l) ((Jgi Jnl).pull0 fun z:{t // t∈ts}=>z.1.l) 43 (by kernel_rfl) la ts.attach w' hH (fun q9 hq9 w3 hfr a b=>?_) (by rw [List.length_attach];omega)
  ·rw [List.length_attach] at h9
   exact h9.mono (fun en w'' ⟨h1,ys,h2,h3,h4⟩=>⟨ys,h1,⟨h2,h3⟩,by rw [List.length_attach];exact h4⟩)
  ·have key:∀ c:{t // t∈ts},RT w3 c.1.a c.1.l:=fun c=>by
    have hmem:tgA c.1∈(ts.map tgA++((bs.map bgA)++AA z0)):=List.mem_append_left _ (List.mem_map.2 ⟨c.1,c.2,rfl⟩)
    refine (RT.of_row (c:=c.1.c) rfl hw' (.tail _ (.tail _ hmem))).fr (fun b hb _ hbq=>?_) hfr
    exact hw'.apart (.tail _ hmem) q9.block ⟨q9,hq9,rfl⟩ ⟨b,hb,hbq⟩
   exact order_calls a.1.l b.1.l a.1.a b.1.a a.1.c b.1.c (by have:=htl a.1 a.2;omega) (by have:=htl b.1 b.2;omega) w3 (key a) (key b)) ?_
 rintro ys ⟨hyp,hyq⟩
 obtain ⟨us,hus⟩:∃ us:List TG,us=ys.map (·.1):=⟨_,rfl⟩
 have hup:us.Perm ts:=by rw [hus];have h9:=hyp.map (·.1);rwa [List.attach_map_subtype_val] at h9
 have huq:us.Pairwise (fun x y=>¬ Jby cmpT y.l x.l<0):=by
  rw [hus,List.pairwise_map]
  refine hyq.imp fun {x y} h=>?_
  simpa [Go.Proofs.ltOf] using h
 have hul:ts.length=us.length:=hup.length_eq.symm
 refine WL.weak (S':=SatA w A0 (rowR la lc us::us.map tgA++(rowBB ba bc bs::((bs.map bgA)++AA z0)))) (fun w' hw=>by
  have e1:ys.length=us.length:=by rw [hus,List.length_map]
  have e2:(ys.map fun z=>tgV z.1)=us.map tgV:=by rw [hus,List.map_map];rfl
  rw [e1,e2] at hw
  exact hw.perm (((List.Perm.cons _ ((hup.map tgA).append_right _)).trans (List.Perm.cons _ List.perm_middle)))) ?_
 rw [hul]
 refine Nn (Csr (Zm rfl (WL.cT (ι:=List TG) (vs:=[.slice la us.length lc,.func (.func 45) #[] #[]]) (vv:=fun z=>.slice la z.length lc) (pp:=fun z=>RES (z.map TG.l)) (rowR la lc us::us.map tgA) (AA:=fun z=>rowR la lc z::z.map tgA) rfl (fun w' hw' hH=>(hcm la lc us w' (by rw [← htb];exact hup.map TG.l) huq hH).mono (fun en w'' ⟨z,h1,h2,h3⟩=>⟨z,h1,h2,h3⟩)) ?_)))
 intro zs hzs
 refine Za rfl (Za rfl (Nn (WC.az ?_)))
 exact WX.ret2 rfl rfl rfl rfl (fun w' hw=>⟨(z0,la,lc,zs),rfl,⟨hpz,hzs⟩,(hw.pik [rowR la lc zs::zs.map tgA,[rowBB ba bc bs],(bs.map bgA),AA z0] [3,0] 4).turned⟩)
theorem decB_snd {t:Ts}(h:(decB t).1=true):(decB t).2=true:=by
 unfold decB at h ⊢
 split
 ·rfl
 ·rename_i hn;rw [if_neg hn] at h;cases h
def SolOK {γ:Type}(bp:Value)(q:CG)(lead:Option Nat)(w0:World)(A0:List Hw.Item)(AA:γ→List Hw.Item)(pp:γ→Prop)(RES:List (List Tm)→Prop):Prop:=
 ∀ w1:World,Keeps w0 w1→Holds A0 w1→Calls Tryz.prog 12 #[bp,cgV q,.int .i64 (leadI lead)] w1 fun e w2=>∃ z:γ × Option Addr × Nat × List TG,e=.returned (.tuple #[.slice z.2.1 z.2.2.2.length z.2.2.1,.int .i64 0])∧(pp z.1∧RES (z.2.2.2.map TG.l))∧Turns A0 (AA z.1++(rowR z.2.1 z.2.2.1 z.2.2.2::z.2.2.2.map tgA)) w1 w2
def CompAOK (hs:List At)(RES:List At→Prop):Prop:=
 ∀ (a:Option Addr) (c:Nat) (ys:List AG) (w1:World),(ys.map AG.x).Perm hs→ys.Pairwise (fun x y=>¬ cmpA y.x x.x<0)→Holds (rowAt a c ys::argsA ys) w1 →
  Calls Tryz.prog 59 #[.slice a ys.length c,.func (.func 60) #[] #[]] w1 fun e w2=>∃ z:List AG,e=.returned (.slice a z.length c)∧RES (z.map AG.x)∧Turns (rowAt a c ys::argsA ys) (rowAt a c z::argsA z) w1 w2
def headI (q:Cl)(r:List Tm):At:=mapA (instT r) q.hd
theorem Ji6 (q:CG)(hs:CS q)(l:List Nat)(la:Option Addr)(lc:Nat)(ys:List Bd)(ya:Option Addr)(yc:Nat)(hl:l.length≤1048576)(hli:∀ i∈l,i<q.ts.length)(hyl:ys.length≤1048576)(w:World)(hN:Jcy w)(hr:RC w q)(hL:RI w la (nI l).length (nI l))(hY:RBd w ya ys):Calls Tryz.prog 88 #[cgV q,.slice la (nI l).length lc,.slice ya ys.length yc] w fun e w'=>e=.returned (.bool (Jej q.cl l (sb ys)))∧Fr0 w w':=by
 refine Jbl (args:=[cgV q,.slice la (nI l).length lc,.slice ya ys.length yc]) (fun _=>False) Tryz.func88 rfl Tryz.ntmps88 rfl rfl ?_
 refine Csr (WL.box rfl rfl rfl ?_)
 intro b3
 refine Za rfl (Nn (Cs (Csr (Zm rfl (Zv (OV.ae rfl T.u51) (Zm rfl (Nn (Cb ?_))))))))
 refine WC.cg (fun (i:Nat)=>[(2,.slice ya ys.length yc),(3,.pointer (some ⟨b3,0,none⟩)),(11,.slice la (nI l).length lc),(12,.int .i64 ((nI l).length:Int)),(13,.int .i64 (i:Int))])
   (fun i w'=>(i≤(nI l).length∧∀ u∈l.take i,okT (sb ys) (clT q.cl u)=true)∧Sat0 w (oQ b3 (cgC q) 32::[]) w')
   (fun i=>(nI l).length - i) 0 Y5 (fun w' hw=>⟨⟨by omega,fun u hu=>by simp at hu⟩,hw⟩) ?_
 intro i
 refine WC.pure (fun hi=>?_)
 obtain ⟨hi,hn⟩:=hi
 refine Csr (Zv (OV.cm rfl rfl) (Nn (Cs ?_)))
 refine Cc rfl (fun c14=>?_) (fun c14=>?_)
 ·refine Ck (Xn (Cs (Cb (Csr ?_))))
  have htl:=hs.tl
  have hnl:(nI l).length=l.length:=List.length_map _
  obtain ⟨q9,hq9⟩:=hL.some (by omega)
  obtain ⟨u,hu⟩:∃ u,l[i]?=some u:=⟨_,List.getElem?_eq_getElem (by omega)⟩
  have hui:=hli u (List.mem_of_getElem? hu)
  have hun:(nI l)[i]?=some (u:Int):=by unfold nI;rw [List.getElem?_map,hu];rfl
  have hL2:RI w (some q9) (nI l).length (nI l):=by rw [← hq9];exact hL
  refine Zv ((OV.ad (show _=some (Value.slice (some q9) (nI l).length lc) by rw [← hq9];rfl) rfl T.u51 T.z3 (by omega)).cast (u:=.pointer (some (q9.add i))) (by rw [Int.toNat_natCast,Nat.mul_one])) (Zv (OV.ah (v:=.int .i64 (u:Int)) rfl T.u3 rfl (fun _ hw=>hw.keeps _ _ (ri_at hL2 hun))) (Za rfl (Nn (Csr (Zm rfl (Zv (OV.f0 6 rfl T.u32 rfl) (Zv (OV.l1 (v:=.slice q.ta q.ts.length q.tc) rfl T.u30 rfl (.head _) rfl) (Zm rfl ?_))))))))
  obtain ⟨q1,t,hq,ht,htm,hc⟩:=hr.ts.get (i:=u) (by omega)
  refine Zv ((OV.ad (show _=some (Value.slice (some q1) q.ts.length q.tc) by rw [← hq];rfl) rfl T.u30 T.z61 (by omega)).cast (u:=.pointer (some (q1.add (u*7)))) (by rw [Int.toNat_natCast])) (Zv (OV.ai (cs:=tsC t) rfl T.u61 rfl T.z61 (fun _ hw j v hj=>hw.keeps _ _ (hc j v hj))) (WL.au (v:=tsV (appT (sb ys) t)) (by kernel_rfl) rfl rfl (fun w' hw'=>applyTest_calls ys t ya yc (by omega) w' (hN.keeps hw'.keeps) (hY.keeps hw'.keeps)) ?_))
  refine WL.au (v:=.tuple #[.bool (decB (appT (sb ys) t)).1,.bool (decB (appT (sb ys) t)).2]) (by kernel_rfl) rfl rfl (fun w' hw'=>decide_calls (appT (sb ys) t) w') ?_
  refine Zm rfl (Zv (OV.extract rfl rfl) (Zv (OV.extract rfl rfl) (Za rfl (Za rfl (Nn (Csr (Zm rfl (Zv (OV.not rfl) (Zm rfl ?_)))))))))
  refine Zp (t:=30) rfl (fun g30=>?_) (fun g30=>?_)
  ·refine Zs rfl rfl rfl (Zs rfl rfl rfl (Zv (OV.am rfl rfl) (Nn (WC.cj (show _=some (Value.bool true) from by rfl) ?_))))
   refine Csr (Za rfl (Nn (WC.az ?_)))
   refine Xq (Xr (Xr (Xq (Xr ?_))))
   have hno:Jej q.cl l (sb ys)=false:=by
    unfold Jej
    rw [List.all_eq_false]
    refine ⟨u,List.mem_of_getElem? hu,?_⟩
    rw [Jm9 ht]
    unfold okT
    intro h
    have:=decB_snd h
    simp_all
   exact WX.ret1 rfl rfl rfl (fun w' hw=>⟨by rw [hno],hw.fr⟩)
  refine Zg rfl rfl rfl (Zm rfl (Zg rfl rfl rfl (Zv (OV.not rfl) (Zv (OV.aj rfl rfl) (Nn ?_)))))
  refine Cc rfl (fun c33=>?_) (fun c33=>?_)
  ·refine Csr (Za rfl (Nn (WC.az ?_)))
   refine Xq (Xr (Xr (Xq (Xr ?_))))
   have hno:Jej q.cl l (sb ys)=false:=by
    unfold Jej
    rw [List.all_eq_false]
    refine ⟨u,List.mem_of_getElem? hu,?_⟩
    rw [Jm9 ht]
    unfold okT
    intro h
    simp_all
   exact WX.ret1 rfl rfl rfl (fun w' hw=>⟨by rw [hno],hw.fr⟩)
  refine Ck (Xb (Xn (Cr (Zv (OV.bi (j:=1) rfl rfl (by omega)) (Zm rfl (Nl ?_))))))
  exact WX.bg (i+1) Y5 (fun w' hw=>⟨⟨by omega,fun z hz=>by
   rw [Jb2 hu] at hz
   rcases List.mem_append.1 hz with h1 | h1
   ·exact hn z h1
   ·simp only [List.mem_singleton] at h1;rw [h1,Jm9 ht];unfold okT;simpa using c33⟩,hw⟩) (by show (nI l).length - (i+1)<(nI l).length - i;omega)
 refine Ce (Xe (Xe (Xh (Xn (Csr (Za rfl (Nn (WC.az ?_))))))))
 have hnl:(nI l).length=l.length:=List.length_map _
 have hyes:Jej q.cl l (sb ys)=true:=by
  unfold Jej
  exact List.all_eq_true.2 fun u hu=>hn u (by rw [List.take_of_length_le (by omega)];exact hu)
 exact WX.ret1 rfl rfl rfl (fun w' hw=>⟨by rw [hyes],hw.fr⟩)
set_option maxHeartbeats 1000000 in
theorem fire_from {γ:Type}(A0:List Hw.Item)(AA:γ→List Hw.Item)(pp:γ→Prop)(RES:List (List Tm)→Prop)(RES2:List (List Tm)→List At→Prop)(bp:Value)(q:CG)(hs:CS q)(lead:Option Nat)(w0:World)(hr:RC w0 q)(w:World)(hk:Keeps w0 w)(hB:∀ b,DD A0 b→w0.heap.size≤b)(hA:Holds A0 w)(hsol:SolOK bp q lead w0 A0 AA pp RES)(hrl:∀ rs,RES rs→rs.length≤1048576∧∀ r∈rs,r.length≤1048576)(hcm:∀ rs,RES rs→CompAOK (rs.map (headI q.cl)) (RES2 rs)):Calls Tryz.prog 24 #[bp,cgV q,.int .i64 (leadI lead)] w fun e w'=>∃ z:γ × List (List Tm) × Option Addr × Nat × List AG,e=.returned (.tuple #[.slice z.2.2.1 z.2.2.2.2.length z.2.2.2.1,.int .i64 0])∧(pp z.1∧RES z.2.1∧RES2 z.2.1 (z.2.2.2.2.map AG.x))∧Turns A0 (AA z.1++(rowAt z.2.2.1 z.2.2.2.1 z.2.2.2.2::argsA z.2.2.2.2)) w w':=by
 refine Jdl hA (args:=[bp,cgV q,.int .i64 (leadI lead)]) Tryz.func24 rfl Tryz.ntmps24 rfl rfl ?_
 refine Csr (WL.box rfl rfl rfl ?_)
 intro b4
 refine Za rfl (Za rfl (Nn (Csr (Zm rfl (Zv (OV.lN (cs:=cgC q) rfl T.u32 rfl T.z32 (.head _)) (Zm rfl (WL.focus (ow':=A0++[oQ b4 (cgC q) 32]) (pmC [[oQ b4 (cgC q) 32],A0] [1,0]) ?_)))))))
 refine WL.cT (ι:=γ × Option Addr × Nat × List TG) (vs:=[bp,cgV q,.int .i64 (leadI lead)]) (vv:=fun z=>.tuple #[.slice z.2.1 z.2.2.2.length z.2.2.1,.int .i64 0]) (pp:=fun z=>pp z.1∧RES (z.2.2.2.map TG.l)) A0 (AA:=fun z=>AA z.1++(rowR z.2.1 z.2.2.1 z.2.2.2::z.2.2.2.map tgA)) rfl (fun w' hw' hH=>hsol w' (Jb0 hk hB hw') hH) ?_
 rintro ⟨z0,ta,tc,ts⟩ ⟨hpz,hres⟩
 have hrl2:=hrl _ hres
 rw [List.length_map] at hrl2
 have hrl3:ts.length≤1048576:=hrl2.1
 have hsh:=hs.at_ q.hd (Or.inl rfl)
 refine Zm rfl (Zv (OV.extract rfl rfl) (Zv (OV.extract rfl rfl) (Za rfl (Za rfl (Nn (Cs (Csr (Zm rfl (Zv ((OV.ic rfl rfl).cast (u:=.bool false) rfl) (Nn (WC.bu (show _=some (Value.bool false) from by rfl) ?_)))))))))))
 refine Ck (Xn (Csr (Za rfl (Nn (Cs (Csr (Zm rfl (Zv (OV.ae rfl T.u39) (Zm rfl (Nn (Cb ?_)))))))))))
 refine WC.weak (S':=SatA w A0 (row 29 5 none 0 0 []::rowR ta tc ts::oQ b4 (cgC q) 32::([]++(ts.map tgA++AA z0)))) (fun w' hw=>by
  rw [List.append_assoc] at hw
  exact ((hw.pik [AA z0,[rowR ta tc ts],ts.map tgA,[oQ b4 (cgC q) 32]] [1,3,2,0] 4).rowNil 29 5)) ?_
 refine WC.da (fun (i:Nat) (la:Option Addr) (lc:Nat) (ys:List AG)=>[(4,.pointer (some ⟨b4,0,none⟩)),(10,.slice la ys.length lc),(23,.slice ta ts.length tc),(24,.int .i64 (ts.length:Int)),(25,.int .i64 (i:Int))])
   (fun i la lc ys w'=>(i≤ts.length∧ys.length=i∧ys.map AG.x=((ts.take i).map TG.l).map (headI q.cl)∧∀ y∈ys,y.x.args.length≤1048575)∧SatA w A0 (rowAt la lc ys::rowR ta tc ts::oQ b4 (cgC q) 32::(argsA ys++(ts.map tgA++AA z0))) w')
   (fun i _ _ _=>ts.length - i) 0 none 0 [] Y5 (fun w' hw=>⟨⟨by omega,rfl,rfl,fun t ht=>by cases ht⟩,hw⟩) ?_
 intro i la lc ys
 refine WC.pure (fun hi=>?_)
 obtain ⟨hi,hyn,hye,hya⟩:=hi
 refine Csr (Zv (OV.cm rfl rfl) (Nn (Cs ?_)))
 refine Cc rfl (fun c26=>?_) (fun c26=>?_)
 ·refine Ck (Xn (Cs (Cb (Csr ?_))))
  obtain ⟨y,hy⟩:∃ y,ts[i]?=some y:=⟨_,List.getElem?_eq_getElem (by omega)⟩
  have hym:=List.mem_of_getElem? hy
  refine WL.jd (fun w' hw'=>(Jdt hw' (show rowR ta tc ts∈_ from .tail _ (.head _))).2) (fun hbq=>?_)
  obtain ⟨q9,hq9⟩:∃ q9,ta=some q9:=by
   rcases hbq with ⟨_,h,_⟩ | ⟨b,hb9,_⟩
   ·omega
   ·exact ⟨_,hb9⟩
  refine Zv ((OV.ad (show _=some (Value.slice (some q9) ts.length tc) by rw [← hq9];rfl) rfl T.u39 T.z27 (by omega)).cast (u:=.pointer (some (q9.add i))) (by rw [Int.toNat_natCast,Nat.mul_one])) ?_
  refine WL.val (OV.ah (v:=tgV y) rfl T.u27 rfl (fun _ hw=>by have h:=Jd1 hw hq9 (.tail _ (.head _)) i (tgV y) (by rw [List.getElem?_map,hy];rfl);exact h)) rfl ?_
  refine Za rfl (Nn (Cr (Zm rfl (Zv (OV.lN (cs:=cgC q) rfl T.u32 rfl T.z32 (.tail _ (.tail _ (.head _)))) (Zm rfl (WL.cT (ι:=CG) (vs:=[cgV q,tgV y]) (vv:=fun g'=>cgV g') (pp:=fun g'=>g'.cl=mapC (instT y.l) q.cl) [] (AA:=fun g'=>cgA g') rfl (fun w' hw' _=>(instance_calls q hs y.l y.a y.c (by have:=hrl2.2 y.l (List.mem_map.2 ⟨y,hym,rfl⟩);omega) w' (hr.keeps (Jb0 hk hB hw')) (RT.of_row (c:=y.c) rfl hw' (.tail _ (.tail _ (.tail _ (List.mem_append_right _ (List.mem_append_left _ (List.mem_map.2 ⟨y,hym,rfl⟩)))))))).mono (fun en w'' ⟨g',h1,h2,h3⟩=>⟨g',h1,h2,h3⟩)) ?_))))))
  intro g' hg'
  have hgx:g'.hd.x=headI q.cl y.l:=congrArg Cl.hd hg'
  refine Zv (OV.fieldS (vs:=agC g'.hd) rfl T.u32 rfl T.u29 rfl T.z29 rfl) (WL.bh (cs:=agC g'.hd) T.u22 T.z29 T.zr29 rfl rfl (by omega) (by omega) rfl ?_)
  intro b34
  refine WL.focus (ow':=rowAt la lc ys::(oQ b34 (agC g'.hd) 29::(cgA g'++(rowR ta tc ts::oQ b4 (cgC q) 32::(argsA ys++(ts.map tgA++AA z0)))))) (pmC [[oQ b34 (agC g'.hd) 29],cgA g',[rowAt la lc ys],[rowR ta tc ts],[oQ b4 (cgC q) 32],argsA ys,(ts.map tgA++AA z0)] [2,0,1,3,4,5,6]) ?_
  refine WL.append (news:=agC g'.hd) rfl rfl T.apA (fun _ _=>Jcs (.tail _ (.head _)) rfl) (Jji _) ⟨by omega,by unfold maxLen;omega⟩ rfl ?_
  intro a35 c35
  refine Za rfl (Nl (Xb (Xn (Cr (Zv (OV.bi (j:=1) rfl rfl (by omega)) (Zm rfl (Nl ?_)))))))
  have el:ys.length+1=(ys++[g'.hd]).length:=by simp
  have ef:ys.flatMap agC++agC g'.hd=(ys++[g'.hd]).flatMap agC:=by simp
  rw [el,ef]
  exact WX.ce (i+1) a35 c35 (ys++[g'.hd]) Y5 (fun w' hw=>⟨⟨by omega,by simp [hyn],by rw [Jb2 hy,List.map_append,List.map_append,List.map_append,hye];simp only [List.map_cons,List.map_nil];rw [hgx],fun t ht=>by
    rcases List.mem_append.1 ht with h | h
    ·exact hya t h
    ·simp only [List.mem_singleton] at h;subst h;rw [hgx];show (q.hd.x.args.map _).length≤_;rw [List.length_map];exact hsh.1⟩,by
   rw [Ji2,List.append_assoc]
   refine Hw.Sat.pick [[rowAt a35 c35 (ys++[g'.hd])],[oQ b34 (agC g'.hd) 29],[argA g'.hd],atsA g'.ba g'.bc g'.bd++[rowS g'.ta g'.tc g'.ts],[rowR ta tc ts],[oQ b4 (cgC q) 32],argsA ys,(ts.map tgA++AA z0)] [0,4,5,6,2,7] 8 rfl (by decide) (by decide) ?_
   exact hw⟩) (by show ts.length - (i+1)<ts.length - i;omega)
 refine Ce (Xe (Xe (Xh (Xn (Cs ?_)))))
 have hye2:ys.map AG.x=(ts.map TG.l).map (headI q.cl):=by rw [hye,List.take_of_length_le (by omega)]
 have hyl2:ys.length=ts.length:=by have h9:=congrArg List.length hye2;simpa using h9
 refine Cr (Zm rfl (WL.focus (ow':=rowAt la lc ys::(argsA ys++(rowR ta tc ts::oQ b4 (cgC q) 32::(ts.map tgA++AA z0)))) (by exact pmC [[rowAt la lc ys],[rowR ta tc ts],[oQ b4 (cgC q) 32],argsA ys,(ts.map tgA++AA z0)] [0,3,1,2,4]) ?_))
 obtain ⟨us,hus⟩:∃ us:List {y:AG // y∈ys},us.map (·.1)=ys:=⟨_,List.attach_map_subtype_val ys⟩
 have hul:us.length=ys.length:=by have h:=congrArg List.length hus;rwa [List.length_map] at h
 have huf:us.flatMap (fun z=>agC z.1)=ys.flatMap agC:=by have h:=congrArg (List.flatMap agC) hus;rwa [List.flatMap_map] at h
 refine WL.cT (ι:=List {y:AG // y∈ys}) (vs:=[.slice la ys.length lc,.func (.func 29) #[] #[]]) (vv:=fun _=>.tuple #[]) (pp:=fun vs=>vs.Perm us∧vs.Pairwise (fun x y=>Go.Proofs.ltOf (fun a b:{y:AG // y∈ys}=>cmpA a.1.x b.1.x) y x=false)) [rowAt la lc ys] (AA:=fun vs=>[rowAt la lc (vs.map (·.1))]) rfl (fun w' hw' hH=>?_) ?_
 ·have hcon:=sortFuncK_calls (P:=Tryz.prog) Tryz.sortA (T:=29) (c:=lc) 5 (by decide) (by kernel_rfl) T.z29 (fun z:{y:AG // y∈ys}=>agC z.1) (fun _=>rfl) (fun z=>Jji z.1) (fun a b=>cmpA a.1.x b.1.x) (cmpA_ok.pull_swo fun z:{y:AG // y∈ys}=>z.1.x) 29 (by kernel_rfl) la us w' (by rw [hul,huf];exact hH) ?_ (by omega)
  ·rw [hul,huf] at hcon
   refine hcon.mono ?_
   rintro en w'' ⟨h1,vs,h2,h3,h4⟩
   refine ⟨vs,h1,⟨h2,h3⟩,?_⟩
   have e1:(vs.map (·.1)).length=vs.length:=List.length_map ..
   have e2:(vs.map (·.1)).flatMap agC=vs.flatMap fun z=>agC z.1:=by rw [List.flatMap_map]
   show Turns _ [row _ _ la (vs.map (·.1)).length lc ((vs.map (·.1)).flatMap agC)] _ _
   rw [e1,e2];exact h4
  ·intro q8 hq8 w2 hf y1 y2
   have hrt:∀ y:{y:AG // y∈ys},RT w2 y.1.a y.1.x.args:=fun y=>by
    have hm:argA y.1∈rowAt la lc ys::(argsA ys++(rowR ta tc ts::oQ b4 (cgC q) 32::(ts.map tgA++AA z0))):=.tail _ (List.mem_append_left _ (List.mem_map.2 ⟨y.1,y.2,rfl⟩))
    refine RT.fr (RT.of_row (c:=y.1.c) rfl hw' hm) (fun q2 hq2 _ he=>?_) hf
    exact (List.pairwise_cons.1 hw'.disj).1 (argA y.1) (List.mem_append_right _ (List.mem_append_left _ (List.mem_map.2 ⟨y.1,y.2,rfl⟩))) q8.block ⟨q8,hq8,rfl⟩ ⟨q2,hq2,he⟩
   exact cmpA_calls y1.1.x y2.1.x y1.1.a y2.1.a y1.1.c y2.1.c (by have:=hya y1.1 y1.2;omega) (by have:=hya y2.1 y2.2;omega) w2 (hrt y1) (hrt y2)
 rintro vs ⟨hvp,hvsort⟩
 obtain ⟨vv,hvv⟩:∃ vv,vv=vs.map (·.1):=⟨_,rfl⟩
 have htp:vv.Perm ys:=by have h:=hvp.map (·.1);rwa [hus,← hvv] at h
 have htl:ys.length=vv.length:=htp.length_eq.symm
 have htq:vv.Pairwise (fun x y=>¬ cmpA y.x x.x<0):=by
  rw [hvv,List.pairwise_map]
  refine hvsort.imp fun {x y} h=>?_
  simpa [Go.Proofs.ltOf] using h
 refine WL.weak (S':=SatA w A0 (rowAt la lc vv::argsA vv++(rowR ta tc ts::oQ b4 (cgC q) 32::(ts.map tgA++AA z0)))) (fun w' hw=>by
  rw [← hvv] at hw
  exact hw.perm (List.Perm.cons _ ((htp.map argA).append_right _))) ?_
 rw [htl]
 refine Nn (Csr (Zm rfl (WL.cT (ι:=List AG) (vs:=[.slice la vv.length lc,.func (.func 60) #[] #[]]) (vv:=fun z=>.slice la z.length lc) (pp:=fun z=>RES2 (ts.map TG.l) (z.map AG.x)) (rowAt la lc vv::argsA vv) (AA:=fun z=>rowAt la lc z::argsA z) rfl (fun w' hw' hH=>(hcm _ hres la lc vv w' (by rw [← hye2];exact htp.map AG.x) htq hH).mono (fun en w'' ⟨z,h1,h2,h3⟩=>⟨z,h1,h2,h3⟩)) ?_)))
 intro zs hzs
 refine Za rfl (Za rfl (Nn (WC.az ?_)))
 exact WX.ret2 rfl rfl rfl rfl (fun w' hw=>⟨(z0,ts.map TG.l,la,lc,zs),rfl,⟨hpz,hres,hzs⟩,(hw.pik [rowAt la lc zs::argsA zs,[rowR ta tc ts],[oQ b4 (cgC q) 32],ts.map tgA,AA z0] [4,0] 5).turned⟩)
abbrev onN:ByteArray:=⟨#[111,110]⟩
def onG:CG:=⟨⟨⟨T0,onN,[]⟩,none,0⟩,none,0,[],none,0,[]⟩
theorem on_name:nameB onN=true:=by
 unfold nameB
 rw [decide_eq_true_eq]
 refine ⟨by decide,by decide,by decide,by decide,by decide,fun i hi=>?_⟩
 have h2:i<2:=hi
 rcases i with _ | _ | i
 ·decide
 ·decide
 ·omega
theorem on_chk:chkA onG.hd.x=0:=chkA_zero.2 ⟨on_name,by decide,Or.inl rfl,fun t ht=>by cases ht⟩
theorem on_terms:Ja1 onG.cl=[T0]:=rfl
theorem on_ded:dedV (Ja1 onG.cl)=[]:=by
 rw [on_terms]
 decide
theorem on_vc:VC onG.cl where
 bl:=by decide
 tl:=by decide
 hd:=on_chk
 bd:=fun a ha=>by cases ha
 ts:=fun t ht=>by cases ht
 hb:=by decide
 safe:=fun t ht hv=>by
  have h1:t=T0:=by
   rcases List.mem_append.1 ht with h | h
   ·rcases List.mem_cons.1 h with h | h
    ·exact h
    ·cases h
   ·cases h
  rw [h1] at hv
  exact absurd hv (by decide)
 num:=fun i t hi=>by rw [on_ded] at hi;simp at hi
theorem on_nV:nV onG.cl=0:=by unfold nV;rw [on_ded];rfl
theorem on_cs:CS onG where
 at_:=fun y hy=>by
  rcases hy with rfl | hy
  ·exact ⟨by decide,by decide⟩
  ·cases hy
 bl:=by decide
 tl:=by decide
 tt:=by rw [on_terms];decide
theorem on_rc (w:World):RC w onG:=⟨RT.nil0 w,⟨fun _=>rfl,(fun q hq=>by cases hq),fun y hy=>by cases hy⟩,⟨fun _=>rfl,fun q hq=>by cases hq⟩⟩
theorem on_ref:refC onG.cl 0=91:=by
 unfold refC
 rw [if_neg (fun h=>h on_vc.chk),if_pos (Or.inr (by decide))]
theorem perm_one {α:Type}{l:List α}{x:α}(h:l.Perm [x]):l=[x]:=List.perm_singleton.1 h
theorem bind0_calls (bp:Value)(aa:Option Addr)(ac:Nat)(ja:Option Addr)(jc:Nat)(w:World)(hN:Jcy w):Calls Tryz.prog 40 #[bp,cgV onG,.int .i64 (-1),pgV ⟨aa,ac,[],ja,jc,[]⟩] w fun e w'=>∃ b,e=.returned (.slice (some ⟨b,0,none⟩) 1 1)∧Turns [] [oQ b [Value.slice none 0 0] 54] w w':=by
 refine Jbl (args:=[bp,cgV onG,.int .i64 (-1),pgV ⟨aa,ac,[],ja,jc,[]⟩]) (fun _=>False) Tryz.func40 rfl Tryz.ntmps40 rfl rfl ?_
 refine Csr (WL.box rfl rfl rfl ?_)
 intro b5
 refine WL.box rfl rfl rfl ?_
 intro b7
 refine Za rfl (Nn (WC.scope ?_))
 refine Cs (Csr (Zv (OV.lN (cs:=cgC onG) rfl T.u32 rfl T.z32 (.tail _ (.head _))) (Zv (OV.f0 0 rfl T.u87 rfl) (Zv (OV.l1 (v:=.slice aa 0 ac) rfl T.u51 rfl (.head _) rfl) (WL.c0 (v:=.bool true) (vs:=[cgV onG,.slice aa 0 ac,.slice none 0 0]) (fun w' hw'=>(Ji6 onG on_cs [] aa ac [] none 0 (by decide) (fun i hi=>by cases hi) (by decide) w' (hN.keeps hw'.keeps) (on_rc w') ⟨rfl,fun _=>rfl,fun b hb j n hj=>by simp at hj⟩ (RBd.nil0 w'))) ?_)))))
 refine Zv (OV.not rfl) (Nn (WC.bu (show _=some (Value.bool false) from by rfl) ?_))
 refine Ck (Xn (Cs (Csr (Zv (OV.f0 1 rfl T.u87 rfl) (Zv (OV.l1 (v:=.slice ja 0 jc) rfl T.u85 rfl (.head _) rfl) (Zv (OV.ae rfl T.u85) (Zv ((OV.d0 rfl rfl).cast (u:=.bool true) rfl) (Nn (WC.cj (show _=some (Value.bool true) from by rfl) ?_)))))))))
 refine Csr (WL.bn T.u90 T.z54 T.zr54 rfl rfl rfl ?_)
 intro b25
 refine Za rfl (Nn (WC.az ?_))
 refine Xr (WX.fh ?_)
 exact WX.ret1 rfl rfl rfl (fun w' hw=>⟨b25,rfl,(hw.pik [[oQ b25 [Value.slice none 0 0] 54],[oQ b7 (pgC ⟨aa,ac,[],ja,jc,[]⟩) 87],[oQ b5 (cgC onG) 32]] [0] 3).turned0⟩)
theorem on_binds (bp:Value)(w0:World)(hN:Jcy w0):Jon (γ:=Unit) bp onG none w0 [] (fun _=>[]) (fun _=>True) [[]]:=by
 intro p w1 hpa hpj hk _
 obtain ⟨aa,ac,al,ja,jc,js⟩:=p
 obtain rfl:al=[]:=hpa
 obtain rfl:js=[]:=by
  have h9:=congrArg List.length (show js.map _=_ from hpj)
  rw [List.length_map] at h9
  exact List.length_eq_zero_iff.1 h9
 refine (bind0_calls bp aa ac ja jc w1 (hN.keeps hk)).mono ?_
 rintro e w2 ⟨b,h1,h2⟩
 refine ⟨((),some ⟨b,0,none⟩,1,[⟨[],none,0⟩]),h1,⟨trivial,rfl,fun y hy=>by simp only [List.mem_singleton] at hy;subst hy;decide⟩,?_⟩
 have h3:=(Sat.startA (w:=w1) (A:=[]) ⟨(fun i hi=>by cases hi),(fun i hi=>by cases hi),List.Pairwise.nil⟩)
 have h4:Sat w1 (DD []) (fun b=>b<w1.heap.size∧¬ DD [] b) w1 ([oQ b [Value.slice none 0 0] 54]++[]) w2:=Hw.Sat.turns (A:=[]) (ow:=[]) h3 h2
 have h5:=(h4.asRow (m:=1) (k:=1) rfl (by decide)).rowNil 64 4
 exact (h5.perm (pmP [_,_] [1,0])).turned
theorem on_comp:Jo7 ([[]].map (valsB (nV onG.cl))) (fun rs=>rs=[[]]):=by
 intro a c ts w1 hp _ hA
 have h1:ts.map TG.l=[[]]:=by
  have h2:=perm_one (x:=valsB (nV onG.cl) []) hp
  rw [h2,on_nV];rfl
 have h3:ts.length=1:=by have h4:=congrArg List.length h1;simpa using h4
 exact (compR1_calls a ts.length c _ (by omega) w1).mono (fun e w2 ⟨h5,h6⟩=>⟨ts,h5,h1,⟨h6.mono (fun _ f=>f.elim),(Hw.Sat.keep (Sat.startA hA) h6).holdsAll.φ,fun i hi b hb=>⟨(Hw.Sat.keep (Sat.startA hA) h6).holdsAll.lt i hi b hb,Or.inl ⟨i,hi,hb⟩⟩,hA.disj⟩⟩)
theorem on_compA (rs:List (List Tm))(hrs:rs=[[]]):CompAOK (rs.map (headI onG.cl)) (fun xs=>xs=rs.map (headI onG.cl)):=by
 intro a c ys w1 hp _ hA
 have h1:ys.map AG.x=rs.map (headI onG.cl):=by
  subst hrs
  exact perm_one hp
 have h3:ys.length=1:=by have h4:=congrArg List.length h1;rw [hrs] at h4;simpa using h4
 exact (compA1_calls a ys.length c _ (by omega) w1).mono (fun e w2 ⟨h5,h6⟩=>⟨ys,h5,h1,⟨h6.mono (fun _ f=>f.elim),(Hw.Sat.keep (Sat.startA hA) h6).holdsAll.φ,fun i hi b hb=>⟨(Hw.Sat.keep (Sat.startA hA) h6).holdsAll.lt i hi b hb,Or.inl ⟨i,hi,hb⟩⟩,hA.disj⟩⟩)
theorem nil_holds (w:World):Holds [] w:=⟨(fun i hi=>by cases hi),(fun i hi=>by cases hi),List.Pairwise.nil⟩
theorem on_solve (bp:Value)(w0:World)(hN:Jcy w0)(hC:Jjg w0):SolOK (γ:=Unit) bp onG none w0 [] (fun _=>[]) (fun _=>True) (fun rs=>rs=[[]]):=by
 intro w1 hk hA
 exact solve_from (γ:=Unit) [] (fun _=>[]) (fun _=>True) [[]] (fun rs=>rs=[[]]) bp onG on_cs on_vc (by rw [on_nV];decide) none (fun l hl=>by cases hl) w0 hN hC (on_rc w0) w1 hk (fun b hb=>absurd hb (DD_nil b)) hA (by decide) (on_binds bp w0 hN) on_comp
theorem on_fire (bp:Value)(w0 w1:World)(hk:Keeps w0 w1)(hN:Jcy w0)(hC:Jjg w0):Calls Tryz.prog 24 #[bp,cgV onG,.int .i64 (leadI none)] w1 fun e w'=>∃ z:Unit × List (List Tm) × Option Addr × Nat × List AG,e=.returned (.tuple #[.slice z.2.2.1 z.2.2.2.2.length z.2.2.2.1,.int .i64 0])∧(True∧z.2.1=[[]]∧z.2.2.2.2.map AG.x=z.2.1.map (headI onG.cl))∧Turns [] ([]++(rowAt z.2.2.1 z.2.2.2.1 z.2.2.2.2::argsA z.2.2.2.2)) w1 w':=
 fire_from (γ:=Unit) [] (fun _=>[]) (fun _=>True) (fun rs=>rs=[[]]) (fun rs xs=>xs=rs.map (headI onG.cl)) bp onG on_cs none w0 (on_rc w0) w1 hk (fun b hb=>absurd hb (DD_nil b)) (nil_holds w1) (on_solve bp w0 hN hC) (fun rs hrs=>by subst hrs;exact ⟨by decide,fun r hr=>by simp only [List.mem_singleton] at hr;subst hr;decide⟩) on_compA
theorem first_calls (w:World)(hN:Jcy w)(hC:Jjg w):Calls Tryz.prog 11 #[] w fun e w'=>e=.returned (.bool true)∧Fr0 w w':=by
 refine Jbl (args:=[]) (fun _=>False) Tryz.func11 rfl Tryz.ntmps11 rfl rfl ?_
 refine Csr (Za rfl (Nn (Csr (Zv (OV.ao (xs:=[(1,.const (.string onN))]) (pl:=[(0,3),(3,1),(4,1)]) (cs:=atC ⟨T0,onN,[]⟩ none 0) T.u29 T.zr29 (by kernel_rfl) rfl (Jal (us:=[_]) rfl rfl (Nat.le_of_ble_eq_true rfl) rfl)) (Zv (OV.ao (xs:=[(0,.tmp 9)]) (pl:=[(0,5),(5,1),(6,1)]) (cs:=cgC onG) T.u32 T.zr32 (by kernel_rfl) rfl (Jal (us:=atC ⟨T0,onN,[]⟩ none 0) rfl rfl (Nat.le_of_ble_eq_true rfl) rfl)) (WL.alloc T.zr32 rfl ?_))))))
 intro b1
 refine WL.ag (vs:=cgC onG) rfl rfl rfl T.z32 rfl ?_
 refine Nn (Csr (WL.cT (ι:=Nat × Nat) (vs:=[]) (vv:=fun z=>ptr z.1) (pp:=fun _=>True) [] (AA:=fun z=>baseA ⟨z.1,none,none,0,[],z.2,[]⟩) rfl (fun w' hw' _=>(bnew_calls w').mono (fun en w'' ⟨p,rb,h1,h2⟩=>⟨(p,rb),h1,trivial,h2⟩)) ?_))
 rintro ⟨bp,rb⟩ _
 refine Za rfl (Nn (Cs (Csr (Zm rfl (Zv (OV.kz T.u35 rfl rfl) (Nn (WC.bu (show _=some (Value.bool false) from by rfl) ?_)))))))
 refine Ck (Xn (Csr (Zm rfl (Zv (OV.lN (cs:=cgC onG) rfl T.u32 rfl T.z32 (show oQ b1 (cgC onG) 32∈_ by simp)) (WL.cT (ι:=Unit × Option Addr × Nat × List TG) (vs:=[ptr bp,cgV onG,.int .i64 (-1)]) (vv:=fun z=>.tuple #[.slice z.2.1 z.2.2.2.length z.2.2.1,.int .i64 0]) (pp:=fun z=>True∧z.2.2.2.map TG.l=[[]]) [] (AA:=fun z=>[]++(rowR z.2.1 z.2.2.1 z.2.2.2::z.2.2.2.map tgA)) rfl (fun w' hw' _=>on_solve (ptr bp) w (hN) (hC) w' hw'.keeps (nil_holds w')) ?_)))))
 rintro ⟨_,ta,tc,ts⟩ ⟨_,hts⟩
 dsimp only at hts
 obtain ⟨t,rfl⟩:∃ t,ts=[t]:=List.length_eq_one_iff.1 (by have h9:=congrArg List.length hts;rwa [List.length_map] at h9)
 have htl:t.l=[]:=by simpa using hts
 refine Zm rfl (Zv (OV.extract rfl rfl) (Zv (OV.extract rfl rfl) (Za rfl (Za rfl (Nn (Csr (Zm rfl (Zv (OV.lN (cs:=cgC onG) rfl T.u32 rfl T.z32 (show oQ b1 (cgC onG) 32∈_ by simp)) (WL.cT (ι:=Unit × List (List Tm) × Option Addr × Nat × List AG) (vs:=[ptr bp,cgV onG,.int .i64 (-1)]) (vv:=fun z=>.tuple #[.slice z.2.2.1 z.2.2.2.2.length z.2.2.2.1,.int .i64 0]) (pp:=fun z=>True∧z.2.1=[[]]∧z.2.2.2.2.map AG.x=z.2.1.map (headI onG.cl)) [] (AA:=fun z=>[]++(rowAt z.2.2.1 z.2.2.2.1 z.2.2.2.2::argsA z.2.2.2.2)) rfl (fun w' hw' _=>on_fire (ptr bp) w w' hw'.keeps hN hC) ?_)))))))))
 rintro ⟨_,rs,la,lc,ys⟩ ⟨_,hrs,hys⟩
 dsimp only at hrs hys
 rw [hrs] at hys
 obtain ⟨y,rfl⟩:∃ y,ys=[y]:=List.length_eq_one_iff.1 (by have h9:=congrArg List.length hys;rwa [List.length_map] at h9)
 have hyx:y.x=headI onG.cl []:=by simpa using hys
 refine Zm rfl (Zv (OV.extract rfl rfl) (Zv (OV.extract rfl rfl) (Za rfl (Za rfl (Nn (Csr (Zv (OV.lN (cs:=cgC onG) rfl T.u32 rfl T.z32 (show oQ b1 (cgC onG) 32∈_ by simp)) (WL.c0 (v:=.tuple #[pgV ⟨none,0,[],none,0,[]⟩,.int .i64 91]) (vs:=[cgV onG,.int .i64 0]) (fun w' hw'=>(make_bad onG on_cs 0 (by rw [on_ref];decide) w' (hN.keeps hw'.keeps) (hC.keeps hw'.keeps) (on_rc w')).mono (fun en w'' ⟨h1,h2⟩=>⟨by rw [h1,on_ref],h2⟩)) ?_))))))))
 refine Zm rfl (Zv (OV.extract rfl rfl) (Zv (OV.extract rfl rfl) (WL.alloc T.zr87 rfl ?_)))
 intro b7
 refine WL.ag (vs:=pgC ⟨none,0,[],none,0,[]⟩) rfl rfl rfl T.z87 rfl ?_
 refine Za rfl (Nn (Csr (Zm rfl (Zv ((OV.d0 rfl rfl).cast (u:=.bool true) (rfl)) (Zm rfl (WL.known (t:=33) (b:=true) rfl (by rfl) ?_))))))
 refine Zg rfl rfl rfl (Zm rfl (Zg rfl rfl rfl (Zv ((OV.d0 rfl rfl).cast (u:=.bool true) (rfl)) (Zv (OV.am rfl rfl) (Zm rfl (WL.known (t:=37) (b:=true) rfl (by rfl) ?_))))))
 refine Zg rfl rfl rfl (Zm rfl (Zg rfl rfl rfl (Zv (OV.ae rfl T.u39) (Zg rfl rfl rfl (Zv ((OV.d0 rfl rfl).cast (u:=.bool true) (rfl)) (Zv (OV.am rfl rfl) (Zm rfl (WL.known (t:=42) (b:=true) rfl (by rfl) ?_))))))))
 refine Zg rfl rfl rfl (Zm rfl (Zg rfl rfl rfl ?_))
 refine WL.jd (fun w' hw'=>Jeh (hw'.it (rowR ta tc [t]) (by simp)) Nat.zero_lt_one) (fun hqq=>?_)
 obtain ⟨q1,hq1⟩:=hqq
 refine Zv ((OV.ad (show _=some (Value.slice (some ⟨q1,0,none⟩) 1 tc) by rw [← hq1];rfl) rfl T.u39 T.z27 (by omega)).cast (u:=.pointer (some ((⟨q1,0,none⟩:Addr).add 0))) rfl) (Zg rfl rfl rfl (Zv (OV.ah (v:=tgV t) rfl T.u27 rfl (fun w2 hw=>(Jd1 (a:=ta) hw hq1 (show rowR ta tc [t]∈_ by simp) 0 (tgV t) rfl:_))) (Zg rfl rfl rfl (Zv (OV.ae rfl T.u27) (Zg rfl rfl rfl (Zv ((OV.d0 rfl rfl).cast (u:=.bool true) (by show Value.bool (decide (((t.l.length:Nat):Int)=0))=_;rw [htl];rfl)) (Zv (OV.am rfl rfl) (Zm rfl (WL.known (t:=49) (b:=true) rfl (by rfl) ?_)))))))))
 refine Zg rfl rfl rfl (Zm rfl (Zg rfl rfl rfl (Zv (OV.ae rfl T.u22) (Zg rfl rfl rfl (Zv ((OV.d0 rfl rfl).cast (u:=.bool true) (rfl)) (Zv (OV.am rfl rfl) (Zm rfl (WL.known (t:=54) (b:=true) rfl (by rfl) ?_))))))))
 refine Zg rfl rfl rfl (Zm rfl (Zg rfl rfl rfl ?_))
 refine WL.jd (fun w' hw'=>Jeh (hw'.it (rowAt la lc [y]) (by simp)) Nat.zero_lt_one) (fun hqq=>?_)
 obtain ⟨q2,hq2⟩:=hqq
 refine Zv ((OV.ad (show _=some (Value.slice (some ⟨q2,0,none⟩) 1 lc) by rw [← hq2];rfl) rfl T.u22 T.z29 (by omega)).cast (u:=.pointer (some ⟨q2,0,none⟩)) rfl) (Zg rfl rfl rfl (Zv (OV.f0 3 rfl T.u29 rfl) (Zg rfl rfl rfl (Zv (OV.ah (v:=.string y.x.name) rfl T.u9 rfl (fun w2 hw=>by have h:=Jd1 (a:=la) hw hq2 (show rowAt la lc [y]∈_ by simp) 3 (.string y.x.name) rfl;exact h)) (Zg rfl rfl rfl (Zv ((OV.mf rfl rfl).cast (u:=.bool true) (by show Value.bool (decide (y.x.name=onN))=_;rw [decide_eq_true (by rw [hyx];rfl)])) (Zv (OV.am rfl rfl) (Zm rfl (WL.known (t:=61) (b:=true) rfl (by rfl) ?_)))))))))
 refine Zg rfl rfl rfl (Zm rfl (Zg rfl rfl rfl (Zv ((OV.d0 rfl rfl).cast (u:=.bool true) (rfl)) (Zv (OV.am rfl rfl) (Za rfl (Nn (WC.az ?_)))))))
 exact WX.ret1 rfl rfl rfl (fun w' hw=>⟨rfl,hw.fr⟩)
end Go.Proofs.YtgebaodagaecmaaGreatDoor
