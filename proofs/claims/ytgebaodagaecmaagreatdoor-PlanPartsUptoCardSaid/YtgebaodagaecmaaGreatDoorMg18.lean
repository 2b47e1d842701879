/- Contracts of functions of the program: what each returns and leaves in memory. Printed by gen.py and walk.py. -/
import Derived.Test.YtgebaodagaecmaaGreatDoorMg17
set_option maxRecDepth 10000
namespace Go.Proofs.YtgebaodagaecmaaGreatDoor
open Go Go.Hw
set_option linter.unusedSimpArgs false
set_option linter.unusedVariables false
theorem madeTm_take {l:List Tm}{i:Nat}{t:Tm}(h:l[i]?=some t):(l.take (i+1)).map Jch=(l.take i).map Jch++[Jch t]:=by rw [Jb2 h,List.map_append];rfl
set_option maxHeartbeats 1000000 in
theorem Jfu (x:At)(a:Option Addr)(c:Nat)(hl:x.args.length≤1048576)(hs:x.name.size≤1099511627776)(w:World)(hr:RT w a x.args):Calls Tryz.prog 30 #[atV x a c] w fun e w'=>∃ z:Option Addr × Nat,e=.returned (atV (Jaf x) z.1 z.2)∧Turns [] [rowT z.1 z.2 (Jaf x).args] w w':=by
 refine Jbl (args:=[atV x a c]) (fun _=>False) Tryz.func30 rfl Tryz.ntmps30 rfl rfl ?_
 refine Csr (WL.box rfl rfl rfl ?_)
 intro b1
 refine WL.alloc T.zr29 rfl ?_
 intro b2
 refine Nn (Csr (Zv (OV.f0 0 rfl T.u29 rfl) (Zv (OV.ai (cs:=tmC x.b) rfl T.u26 rfl T.z26 (fun _ hw j v hj=>by rw [Jap];exact Jbo hw (.tail _ (.head _)) (o:=0) (cs':=tmC x.b) rfl j v hj)) (Zv (OV.f0 3 rfl T.u29 rfl) (Zv (OV.l1 (v:=.string x.name) rfl T.u9 rfl (.tail _ (.head _)) rfl) (Zv (OV.ao (xs:=[(0,.tmp 7),(1,.tmp 9)]) (pl:=[(0,3),(3,1),(4,1)]) (cs:=atC ⟨x.b,x.name,[]⟩ none 0) T.u29 T.zr29 (by kernel_rfl) rfl (Jal (us:=tmC x.b) rfl rfl (Nat.le_of_ble_eq_true rfl) (Jal (us:=[_]) rfl rfl (Nat.le_of_ble_eq_true rfl) (rfl)))) (WL.alloc T.zr29 rfl ?_)))))))
 intro b3
 refine WL.ag (vs:=atC ⟨x.b,x.name,[]⟩ none 0) rfl rfl rfl T.z29 rfl ?_
 refine Nn (Cs (Csr (Zv (OV.f0 0 rfl T.u29 rfl) (Zv (OV.ai (cs:=tmC x.b) rfl T.u26 rfl T.z26 (fun _ hw j v hj=>by rw [Jap];exact Jbo hw (.tail _ (.tail _ (.head _))) (o:=0) (cs':=tmC x.b) rfl j v hj)) ?_))))
 obtain ⟨mb,hmb⟩:∃ mb,mb=if chkA ⟨x.b,pN,[]⟩=0 then x.b else T0:=⟨_,rfl⟩
 refine Zv (OV.ao (xs:=[(0,.tmp 12),(1,.const (.string pN))]) (pl:=[(0,3),(3,1),(4,1)]) (cs:=atC ⟨x.b,pN,[]⟩ none 0) T.u29 T.zr29 (by kernel_rfl) rfl (Jal (us:=tmC x.b) rfl rfl (Nat.le_of_ble_eq_true rfl) (Jal (us:=[_]) rfl rfl (Nat.le_of_ble_eq_true rfl) (rfl)))) (WL.au (v:=.int .i64 (chkA ⟨x.b,pN,[]⟩)) (by kernel_rfl) rfl rfl (fun w' hw'=>refChk_calls ⟨x.b,pN,[]⟩ none 0 (by show 0≤_;omega) (by show 1≤_;omega) w' (RT.nil0 _)) ?_)
 refine Zv (OV.ic rfl rfl) (Nn ?_)
 refine WC.ig [(1,.pointer (some ⟨b1,0,none⟩)),(2,.pointer (some ⟨b2,0,none⟩)),(3,.pointer (some ⟨b3,0,none⟩))] (Sat0 w (oQ b3 (atC ⟨mb,x.name,[]⟩ none 0) 29::oQ b2 (atC ⟨T0,E0,[]⟩ none 0) 29::oQ b1 (atC x a c) 29::[])) ?_ ?_
 ·refine Cc rfl (fun c15=>?_) (fun c15=>?_)
  ·refine Cr (Zv (OV.ao (xs:=[]) (pl:=[(0,1),(1,1),(2,1)]) (cs:=tmC T0) T.u26 T.zr26 (by kernel_rfl) rfl rfl) (Zv (OV.f0 0 rfl T.u29 rfl) (WL.kw (o:=0) (vs:=tmC T0) rfl rfl rfl T.z26 (Nat.le_of_ble_eq_true rfl) ?_)))
   refine Nl ?_
   have em:mb=T0:=by rw [hmb,if_neg c15]
   exact WX.dp Y3 (fun w' hw=>by rw [em];exact hw)
  refine Ck ?_
  have em:mb=x.b:=by rw [hmb,if_pos (by simpa using c15)]
  exact WX.dp Y3 (fun w' hw=>by rw [em];exact hw)
 refine Cs (Csr (Zv (OV.f0 3 rfl T.u29 rfl) (Zv (OV.l1 (v:=.string x.name) rfl T.u9 rfl (.tail _ (.tail _ (.head _))) rfl) ?_)))
 obtain ⟨mn,hmn⟩:∃ mn,mn=if chkA ⟨T0,x.name,[]⟩=0 then x.name else pN:=⟨_,rfl⟩
 refine Zv (OV.ao (xs:=[(1,.tmp 19)]) (pl:=[(0,3),(3,1),(4,1)]) (cs:=atC ⟨T0,x.name,[]⟩ none 0) T.u29 T.zr29 (by kernel_rfl) rfl (Jal (us:=[_]) rfl rfl (Nat.le_of_ble_eq_true rfl) (rfl))) (WL.au (v:=.int .i64 (chkA ⟨T0,x.name,[]⟩)) (by kernel_rfl) rfl rfl (fun w' hw'=>refChk_calls ⟨T0,x.name,[]⟩ none 0 (by show 0≤_;omega) hs w' (RT.nil0 _)) ?_)
 refine Zv (OV.ic rfl rfl) (Nn ?_)
 refine WC.ig [(1,.pointer (some ⟨b1,0,none⟩)),(2,.pointer (some ⟨b2,0,none⟩)),(3,.pointer (some ⟨b3,0,none⟩))] (Sat0 w (oQ b3 (atC ⟨mb,mn,[]⟩ none 0) 29::oQ b2 (atC ⟨T0,E0,[]⟩ none 0) 29::oQ b1 (atC x a c) 29::[])) ?_ ?_
 ·refine Cc rfl (fun c22=>?_) (fun c22=>?_)
  ·refine Cr (Zv (OV.f0 3 rfl T.u29 rfl) (WL.br (o:=3) rfl rfl rfl T.z9 (by show 3<5;omega) ?_))
   refine Nl ?_
   have em:mn=pN:=by rw [hmn,if_neg c22]
   exact WX.dp Y3 (fun w' hw=>by rw [em];exact hw)
  refine Ck ?_
  have em:mn=x.name:=by rw [hmn,if_pos (by simpa using c22)]
  exact WX.dp Y3 (fun w' hw=>by rw [em];exact hw)
 refine Cs (Csr (Za rfl (Nn ?_)))
 refine WC.mp (fun (z:Option Addr × Nat)=>[(1,.pointer (some ⟨b1,0,none⟩)),(2,.pointer (some ⟨b2,0,none⟩)),(3,.pointer (some ⟨b3,0,none⟩))]) (fun (z:Option Addr × Nat)=>Sat0 w (rowT z.1 z.2 (Jaf x).args::oQ b3 (atC (Jaf x) z.1 z.2) 29::oQ b2 (atC ⟨T0,E0,[]⟩ none 0) 29::oQ b1 (atC x a c) 29::[])) ?_ ?_
 ·refine Cb (WC.weak (S':=Sat0 w (row 26 3 none 0 0 []::oQ b3 (atC ⟨mb,mn,[]⟩ none 0) 29::oQ b2 (atC ⟨T0,E0,[]⟩ none 0) 29::oQ b1 (atC x a c) 29::[])) (fun w' hw=>hw.rowNil 26 3) ?_)
  refine WC.da (fun (i:Nat) (la:Option Addr) (lc:Nat) (args:List Tm)=>[(1,.pointer (some ⟨b1,0,none⟩)),(2,.pointer (some ⟨b2,0,none⟩)),(3,.pointer (some ⟨b3,0,none⟩)),(4,.int .i64 (i:Int))])
    (fun i la lc args w'=>(i≤x.args.length∧i≤8∧args.length=i∧args=(x.args.take i).map Jch)∧Sat0 w (rowT la lc args::oQ b3 (atC ⟨mb,mn,args⟩ la lc) 29::oQ b2 (atC ⟨T0,E0,[]⟩ none 0) 29::oQ b1 (atC x a c) 29::[]) w')
    (fun i _ _ _=>x.args.length - i) 0 none 0 [] Y4 (fun w' hw=>⟨⟨by omega,by omega,rfl,rfl⟩,hw⟩) ?_
  intro i la lc args
  refine WC.pure (fun hi=>?_)
  obtain ⟨hi,hi8,hal,hae⟩:=hi
  refine Cs (Csr (Zm rfl (Zv (OV.f0 4 rfl T.u29 rfl) (Zv (OV.l1 (v:=.slice a x.args.length c) rfl T.u27 rfl (.tail _ (.tail _ (.tail _ (.head _)))) rfl) (Zv (OV.ae rfl T.u27) (Zv (OV.cm rfl rfl) (Zm rfl ?_)))))))
  refine Zp (t:=29) rfl (fun g29=>?_) (fun g29=>?_)
  ·refine Zg rfl rfl rfl (Zm rfl (Zg rfl rfl rfl (Zv (OV.cm rfl rfl) (Zv (OV.am rfl rfl) (Nn ?_)))))
   refine Cc rfl (fun c32=>?_) (fun c32=>?_)
   ·refine Ck (Xn (Cs (Cb (Csr (Zv (OV.f0 4 rfl T.u29 rfl) (Zv (OV.l1 (v:=.slice a x.args.length c) rfl T.u27 rfl (.tail _ (.tail _ (.tail _ (.head _)))) rfl) (Zm rfl ?_)))))))
    obtain ⟨q1,t,hq,ht,htm,_,hc⟩:=hr.get (i:=i) (by omega)
    refine Zv ((OV.ad (show _=some (Value.slice (some q1) x.args.length c) by rw [← hq];rfl) rfl T.u27 T.z26 (by omega)).cast (u:=.pointer (some (q1.add (i*3)))) (by rw [Int.toNat_natCast])) (Zv (OV.ai (cs:=tmC t) rfl T.u26 rfl T.z26 (fun _ hw j v hj=>hw.keeps _ _ (hc j v hj))) (WL.alloc T.zr26 rfl ?_))
    intro b5
    refine WL.ag (vs:=tmC t) rfl rfl rfl T.z26 rfl ?_
    refine Nn (Cs (Csr (Zv (OV.lN (cs:=tmC t) rfl T.u26 rfl T.z26 (.head _)) (WL.au (v:=.bool (varB t)) (by kernel_rfl) rfl rfl (fun w' hw'=>Jdb t w') ?_))))
    refine Zv (OV.not rfl) (Nn ?_)
    refine WC.ig [(1,.pointer (some ⟨b1,0,none⟩)),(2,.pointer (some ⟨b2,0,none⟩)),(3,.pointer (some ⟨b3,0,none⟩)),(4,.int .i64 (i:Int)),(5,.pointer (some ⟨b5,0,none⟩))] (Sat0 w (oQ b5 (tmC (Jch t)) 26::rowT la lc args::oQ b3 (atC ⟨mb,mn,args⟩ la lc) 29::oQ b2 (atC ⟨T0,E0,[]⟩ none 0) 29::oQ b1 (atC x a c) 29::[])) ?_ ?_
    ·refine Cc rfl (fun c42=>?_) (fun c42=>?_)
     ·refine Cr (Zv (OV.lN (cs:=tmC t) rfl T.u26 rfl T.z26 (.head _)) (WL.au (v:=tmV (Jbz t)) (by kernel_rfl) rfl rfl (fun w' hw'=>Je0 t w') ?_))
      refine WL.ag (vs:=tmC (Jbz t)) rfl rfl rfl T.z26 rfl ?_
      refine Nl ?_
      have em:Jch t=Jbz t:=by unfold Jch;rw [if_neg (by simpa using c42)]
      exact WX.dp Y5 (fun w' hw=>by rw [em];exact hw)
     refine Ck ?_
     have em:Jch t=t:=by unfold Jch;rw [if_pos (by simpa using c42)]
     exact WX.dp Y5 (fun w' hw=>by rw [em];exact hw)
    refine WC.focus (ow':=oQ b5 (tmC (Jch t)) 26::oQ b3 (atC ⟨mb,mn,args⟩ la lc) 29::rowT la lc args::oQ b2 (atC ⟨T0,E0,[]⟩ none 0) 29::oQ b1 (atC x a c) 29::[]) (pmP [_,_,_,_,_] [0,2,1,3,4]) ?_
    refine Cr (Zv (OV.f0 4 rfl T.u29 rfl) (Zv (OV.l1 (v:=.slice la args.length lc) rfl T.u27 rfl (.tail _ (.head _)) rfl) (Zv (OV.lN (cs:=tmC (Jch t)) rfl T.u26 rfl T.z26 (.head _)) (WL.bh (cs:=tmC (Jch t)) T.u27 T.z26 T.zr26 rfl rfl (by omega) (by omega) rfl ?_))))
    intro b48
    refine WL.focus (ow':=oQ b48 (tmC (Jch t)) 26::oQ b5 (tmC (Jch t)) 26::rowT la lc args::oQ b3 (atC ⟨mb,mn,args⟩ la lc) 29::oQ b2 (atC ⟨T0,E0,[]⟩ none 0) 29::oQ b1 (atC x a c) 29::[]) (pmP [_,_,_,_,_,_] [0,1,3,2,4,5]) ?_
    refine WL.focus (ow':=rowT la lc args::oQ b48 (tmC (Jch t)) 26::oQ b5 (tmC (Jch t)) 26::oQ b3 (atC ⟨mb,mn,args⟩ la lc) 29::oQ b2 (atC ⟨T0,E0,[]⟩ none 0) 29::oQ b1 (atC x a c) 29::[]) (pmP [_,_,_,_,_,_] [2,0,1,3,4,5]) ?_
    refine WL.append (news:=tmC (Jch t)) rfl rfl T.apT (fun _ _=>Jcs (.tail _ (.head _)) rfl) (Jf6 _) ⟨by omega,by unfold maxLen;omega⟩ rfl ?_
    intro a49 c49
    refine Zv (OV.f0 4 rfl T.u29 rfl) ?_
    refine WL.focus perm3 (WL.br (o:=4) rfl rfl rfl T.z27 (by show 4<5;omega) ?_)
    refine Nl (Xb (Xn (Cr (Zm rfl (Zv (OV.bi (j:=1) rfl rfl (by omega)) (Za rfl (Nl ?_)))))))
    have el:args.length+1=(args++[Jch t]).length:=by simp
    have ef:args.flatMap tmC++tmC (Jch t)=(args++[Jch t]).flatMap tmC:=by simp
    exact WX.ce (i+1) a49 c49 (args++[Jch t]) Y4 (fun w' hw=>⟨⟨by omega,by omega,by simp [hal],by rw [madeTm_take ht,hae]⟩,by
     rw [el,ef] at hw
     exact hw.pik [[oQ b3 (atC ⟨mb,mn,args++[Jch t]⟩ a49 c49) 29],[rowT a49 c49 (args++[Jch t])],[oQ b48 (tmC (Jch t)) 26],[oQ b5 (tmC (Jch t)) 26],[oQ b2 (atC ⟨T0,E0,[]⟩ none 0) 29],[oQ b1 (atC x a c) 29]] [1,0,4,5] 6⟩) (by show x.args.length - (i+1)<x.args.length - i;omega)
   refine Ce (Xe (Xe (Xh ?_)))
   have e8:x.args.take 8=x.args.take i:=by
    rcases Nat.lt_or_ge i 8 with h | h
    ·rw [List.take_of_length_le (by omega),List.take_of_length_le (by omega)]
    ·rw [show i=8 by omega]
   have hat:Jaf x=⟨mb,mn,args⟩:=by unfold Jaf;rw [← hmb,← hmn,hae,e8]
   exact WX.fi (la,lc) Y3 (fun w' hw=>by rw [hat];exact hw)
  refine Zs rfl rfl rfl (Zs rfl rfl rfl (Zv (OV.aj rfl rfl) (Nn (WC.bu (show _=some (Value.bool false) from by rfl) ?_))))
  refine Ce (Xe (Xe (Xh ?_)))
  have e8:x.args.take 8=x.args.take i:=by
   rcases Nat.lt_or_ge i 8 with h | h
   ·rw [List.take_of_length_le (by omega),List.take_of_length_le (by omega)]
   ·rw [show i=8 by omega]
  have hat:Jaf x=⟨mb,mn,args⟩:=by unfold Jaf;rw [← hmb,← hmn,hae,e8]
  exact WX.fi (la,lc) Y3 (fun w' hw=>by rw [hat];exact hw)
 rintro ⟨la,lc⟩
 refine WC.focus (ow':=oQ b3 (atC (Jaf x) la lc) 29::rowT la lc (Jaf x).args::oQ b2 (atC ⟨T0,E0,[]⟩ none 0) 29::oQ b1 (atC x a c) 29::[]) (pmP [_,_,_,_] [1,0,2,3]) ?_
 refine Csr (Zv (OV.lN (cs:=atC (Jaf x) la lc) rfl T.u29 rfl T.z29 (.head _)) ?_)
 refine WL.focus perm2 (WL.ag (vs:=atC (Jaf x) la lc) rfl rfl rfl T.z29 rfl ?_)
 refine Nn (WC.az ?_)
 refine WX.retC (cs:=atC (Jaf x) la lc) rfl rfl rfl T.u29 rfl T.z29 (fun w' hw j v hj=>Ja0 hw (.head _) j v hj) (fun w' hw=>⟨(la,lc),rfl,?_⟩)
 exact (hw.pik [[oQ b2 (atC (Jaf x) la lc) 29],[oQ b3 (atC (Jaf x) la lc) 29],[rowT la lc (Jaf x).args],[oQ b1 (atC x a c) 29]] [2] 4).turned0
theorem Jj3 (l:List Tm)(a:Option Addr)(c:Nat)(t:Tm)(hl:l.length≤1099511627776)(w:World)(hr:RT w a l):Calls Tryz.prog 32 #[.slice a l.length c,tmV t] w fun e w'=>e=.returned (tmV (safeT l t))∧Fr0 w w':=by
 refine Jbl (args:=[.slice a l.length c,tmV t]) (fun _=>False) Tryz.func32 rfl Tryz.ntmps32 rfl rfl ?_
 refine Csr (WL.box rfl rfl rfl ?_)
 intro b3
 refine WL.alloc T.zr26 rfl ?_
 intro b4
 refine Nn (Cs (Csr (Zm rfl (Zv (OV.lN (cs:=tmC t) rfl T.u26 rfl T.z26 (.tail _ (.head _))) (WL.au (v:=.bool (decide (t∈l))) (by kernel_rfl) rfl rfl (fun w' hw'=>within_calls l a c t hl w' (hr.keeps hw'.keeps)) ?_)))))
 refine Nn ?_
 refine Cc rfl (fun c7=>?_) (fun c7=>?_)
 ·refine Csr (Zv (OV.lN (cs:=tmC t) rfl T.u26 rfl T.z26 (.tail _ (.head _))) (WL.ag (vs:=tmC (safeT l t)) rfl (by rw [show safeT l t=t by unfold safeT;rw [if_pos c7]];rfl) rfl T.z26 rfl ?_))
  refine Nn (WC.az ?_)
  refine Xr ?_
  exact WX.retC (cs:=tmC (safeT l t)) rfl rfl rfl T.u26 rfl T.z26 (fun w' hw j v hj=>Ja0 hw (.head _) j v hj) (fun w' hw=>⟨rfl,hw.fr⟩)
 refine Ck (Xn (Csr (Zv (OV.lN (cs:=tmC t) rfl T.u26 rfl T.z26 (.tail _ (.head _))) (WL.au (v:=tmV (Jb4 t)) (by kernel_rfl) rfl rfl (fun w' hw'=>ground_calls t w') ?_))))
 refine WL.ag (vs:=tmC (safeT l t)) rfl (by rw [show safeT l t=Jb4 t by unfold safeT;rw [if_neg c7]];rfl) rfl T.z26 rfl ?_
 refine Nn (WC.az ?_)
 exact WX.retC (cs:=tmC (safeT l t)) rfl rfl rfl T.u26 rfl T.z26 (fun w' hw j v hj=>Ja0 hw (.head _) j v hj) (fun w' hw=>⟨rfl,hw.fr⟩)
theorem madeTest_calls (t:Ts)(l:List Tm)(a:Option Addr)(c:Nat)(hl:l.length≤1099511627776)(w:World)(hr:RT w a l):Calls Tryz.prog 33 #[tsV t,.slice a l.length c] w fun e w'=>e=.returned (tsV (Jfb l t))∧Fr0 w w':=by
 refine Jbl (args:=[tsV t,.slice a l.length c]) (fun _=>False) Tryz.func33 rfl Tryz.ntmps33 rfl rfl ?_
 refine Csr (WL.box rfl rfl rfl ?_)
 intro b2
 refine WL.alloc T.zr61 rfl ?_
 intro b4
 refine Nn (Csr (Zv (OV.f0 0 rfl T.u61 rfl) (Zv (OV.l1 (v:=.int .i64 t.op) rfl T.u3 rfl (.tail _ (.head _)) rfl) (Za rfl (Nn (Cs (Cs ?_)))))))
 refine WC.ig [(1,.slice a l.length c),(2,.pointer (some ⟨b2,0,none⟩)),(4,.pointer (some ⟨b4,0,none⟩)),(5,.int .i64 t.op),(15,.bool (decide (t.op<1∨4<t.op)))] (Sat0 w (oQ b4 (tsC ⟨0,T0,T0⟩) 61::oQ b2 (tsC t) 61::[])) ?_ ?_
 ·refine Cr (Zm rfl (Zv (OV.cm rfl rfl) (Zm rfl ?_)))
  refine Zp (t:=12) rfl (fun g12=>?_) (fun g12=>?_)
  ·refine Zs rfl rfl rfl (Zs rfl rfl rfl (Zv (OV.am rfl rfl) (Nl ?_)))
   exact WX.dp ⟨rfl,rfl,rfl,rfl,by rw [decide_eq_true (Or.inl g12)];rfl,trivial⟩ (fun w' hw=>hw)
  refine Zg rfl rfl rfl (Zm rfl (Zg rfl rfl rfl (Zv (OV.k7 rfl rfl) (Zv (OV.aj rfl rfl) (Nl ?_)))))
  exact WX.dp ⟨rfl,rfl,rfl,rfl,by rw [show decide (t.op<1∨4<t.op)=decide (t.op > 4) from decide_eq_decide.2 ⟨fun h=>h.resolve_left g12,Or.inr⟩];rfl,trivial⟩ (fun w' hw=>hw)
 refine WC.ig [(1,.slice a l.length c),(2,.pointer (some ⟨b2,0,none⟩)),(4,.pointer (some ⟨b4,0,none⟩)),(5,.int .i64 (Jkd t.op))] (Sat0 w (oQ b4 (tsC ⟨0,T0,T0⟩) 61::oQ b2 (tsC t) 61::[])) ?_ ?_
 ·refine Cc rfl (fun c15=>?_) (fun c15=>?_)
  ·refine Cr (Zm rfl ?_)
   have h1:=Int.tmod_lt_of_pos t.op (show (0:Int)<4 by decide)
   have h2:=Int.lt_tmod_of_pos t.op (show (0:Int)<4 by decide)
   refine Zv (OV.rem rfl rfl rfl) (Zv (OV.fm rfl rfl (by omega)) ?_)
   have h3:(t.op.tmod 4+4).tmod 4=(t.op.tmod 4+4) % 4:=Int.tmod_eq_emod_of_nonneg (by omega)
   refine Zv (OV.rem rfl rfl rfl) (Zv (OV.fm rfl rfl (by rw [h3];omega)) (Za rfl (Nl ?_)))
   have em:Jkd t.op=1+(t.op.tmod 4+4).tmod 4:=by unfold Jkd;rw [if_pos c15]
   exact WX.dp ⟨rfl,rfl,rfl,by rw [em];rfl,trivial⟩ (fun w' hw=>hw)
  refine Ck ?_
  have em:Jkd t.op=t.op:=by unfold Jkd;rw [if_neg c15]
  exact WX.dp ⟨rfl,rfl,rfl,by rw [em];rfl,trivial⟩ (fun w' hw=>hw)
 refine Csr (Zv (OV.f0 1 rfl T.u61 rfl) (Zv (OV.ai (cs:=tmC t.l) rfl T.u26 rfl T.z26 (fun _ hw j v hj=>by rw [Jap];exact Jbo hw (.tail _ (.head _)) (o:=1) (cs':=tmC t.l) rfl j v hj)) (WL.alloc T.zr26 rfl ?_)))
 intro b6
 refine WL.ag (vs:=tmC t.l) rfl rfl rfl T.z26 rfl ?_
 refine Nn (Csr (Zv (OV.f0 4 rfl T.u61 rfl) (Zv (OV.ai (cs:=tmC t.r) rfl T.u26 rfl T.z26 (fun _ hw j v hj=>by rw [Jap];exact Jbo hw (.tail _ (.tail _ (.head _))) (o:=4) (cs':=tmC t.r) rfl j v hj)) (WL.alloc T.zr26 rfl ?_))))
 intro b7
 refine WL.ag (vs:=tmC t.r) rfl rfl rfl T.z26 rfl ?_
 refine Nn (Cs (Csr (Zv (OV.lN (cs:=tmC t.l) rfl T.u26 rfl T.z26 (.tail _ (.head _))) (WL.au (v:=.bool (varB t.l)) (by kernel_rfl) rfl rfl (fun w' hw'=>Jdb t.l w') ?_))))
 refine Zv (OV.not rfl) (Nn ?_)
 refine WC.ig [(1,.slice a l.length c),(2,.pointer (some ⟨b2,0,none⟩)),(4,.pointer (some ⟨b4,0,none⟩)),(5,.int .i64 (Jkd t.op)),(6,.pointer (some ⟨b6,0,none⟩)),(7,.pointer (some ⟨b7,0,none⟩))] (Sat0 w (oQ b7 (tmC t.r) 26::oQ b6 (tmC (Jch t.l)) 26::oQ b4 (tsC ⟨0,T0,T0⟩) 61::oQ b2 (tsC t) 61::[])) ?_ ?_
 ·refine Cc rfl (fun c27=>?_) (fun c27=>?_)
  ·refine Cr (Zv (OV.lN (cs:=tmC t.l) rfl T.u26 rfl T.z26 (.tail _ (.head _))) (WL.au (v:=tmV (Jbz t.l)) (by kernel_rfl) rfl rfl (fun w' hw'=>Je0 t.l w') ?_))
   refine WL.focus perm1 (WL.ag (vs:=tmC (Jbz t.l)) rfl rfl rfl T.z26 rfl ?_)
   refine Nl ?_
   have em:Jch t.l=Jbz t.l:=by unfold Jch;rw [if_neg (by simpa using c27)]
   exact WX.dp Y6 (fun w' hw=>by rw [em];exact hw.perm (pmP [_,_,_,_] [1,0,2,3]))
  refine Ck ?_
  have em:Jch t.l=t.l:=by unfold Jch;rw [if_pos (by simpa using c27)]
  exact WX.dp Y6 (fun w' hw=>by rw [em];exact hw)
 refine Cs (Csr (Zv (OV.lN (cs:=tmC t.r) rfl T.u26 rfl T.z26 (.head _)) (WL.au (v:=.bool (varB t.r)) (by kernel_rfl) rfl rfl (fun w' hw'=>Jdb t.r w') ?_)))
 refine Zv (OV.not rfl) (Nn ?_)
 refine WC.ig [(1,.slice a l.length c),(2,.pointer (some ⟨b2,0,none⟩)),(4,.pointer (some ⟨b4,0,none⟩)),(5,.int .i64 (Jkd t.op)),(6,.pointer (some ⟨b6,0,none⟩)),(7,.pointer (some ⟨b7,0,none⟩))] (Sat0 w (oQ b7 (tmC (Jch t.r)) 26::oQ b6 (tmC (Jch t.l)) 26::oQ b4 (tsC ⟨0,T0,T0⟩) 61::oQ b2 (tsC t) 61::[])) ?_ ?_
 ·refine Cc rfl (fun c32=>?_) (fun c32=>?_)
  ·refine Cr (Zv (OV.lN (cs:=tmC t.r) rfl T.u26 rfl T.z26 (.head _)) (WL.au (v:=tmV (Jbz t.r)) (by kernel_rfl) rfl rfl (fun w' hw'=>Je0 t.r w') ?_))
   refine WL.ag (vs:=tmC (Jbz t.r)) rfl rfl rfl T.z26 rfl ?_
   refine Nl ?_
   have em:Jch t.r=Jbz t.r:=by unfold Jch;rw [if_neg (by simpa using c32)]
   exact WX.dp Y6 (fun w' hw=>by rw [em];exact hw)
  refine Ck ?_
  have em:Jch t.r=t.r:=by unfold Jch;rw [if_pos (by simpa using c32)]
  exact WX.dp Y6 (fun w' hw=>by rw [em];exact hw)
 refine Cs (Hd (fun w'=>w'.heap[b6]?=some (.cells (tmC (Jch t.l)).toArray 26 (0,0))∧w'.heap[b7]?=some (.cells (tmC (Jch t.r)).toArray 26 (0,0))) [] (fun _ hw=>⟨hw.it (oQ b6 (tmC (Jch t.l)) 26) (by simp),hw.it (oQ b7 (tmC (Jch t.r)) 26) (by simp)⟩) (m:=9) rfl ?_)
 refine Hf 0 rfl (OV.aw rfl) (Hf 1 rfl (OV.aw rfl) (Ht 2 rfl (OV.ai (cs:=tmC (Jch t.l)) rfl T.u26 rfl T.z26 (fun _ hw j v hj=>by rw [Jap];exact Jb3 hw.1 (o:=0) (cs':=tmC (Jch t.l)) rfl j v hj)) (Hf 4 rfl (OV.aw rfl) (Ht 5 rfl (OV.ai (cs:=tmC (Jch t.r)) rfl T.u26 rfl T.z26 (fun _ hw j v hj=>by rw [Jap];exact Jb3 hw.2 (o:=0) (cs':=tmC (Jch t.r)) rfl j v hj)) (Ho 3 rfl (fl':=false) rfl ?_)))))
 refine WL.au (v:=tmV (safeT l (Jch t.l))) (by kernel_rfl) rfl rfl (fun w' hw'=>Jj3 l a c (Jch t.l) hl w' (hr.keeps hw'.keeps)) ?_
 refine Hc (fun _=>(fun _ hw=>⟨hw.it (oQ b6 (tmC (Jch t.l)) 26) (by simp),hw.it (oQ b7 (tmC (Jch t.r)) 26) (by simp)⟩)) ?_
 refine Ho 6 rfl (fl':=false) rfl ?_
 refine WL.au (v:=tmV (safeT l (Jch t.r))) (by kernel_rfl) rfl rfl (fun w' hw'=>Jj3 l a c (Jch t.r) hl w' (hr.keeps hw'.keeps)) ?_
 refine Hc (fun _=>(fun _ hw=>⟨hw.it (oQ b6 (tmC (Jch t.l)) 26) (by simp),hw.it (oQ b7 (tmC (Jch t.r)) 26) (by simp)⟩)) ?_
 refine Hf 7 rfl (OV.ao (xs:=[(0,.tmp 35),(1,.tmp 38),(2,.tmp 41)]) (pl:=[(0,1),(1,3),(4,3)]) (cs:=tsC (Jfb l t)) T.u61 T.zr61 (by kernel_rfl) rfl (Jal (us:=[_]) rfl rfl (Nat.le_of_ble_eq_true rfl) (Jal (us:=tmC (safeT l (Jch t.l))) rfl rfl (Nat.le_of_ble_eq_true rfl) (Jal (us:=tmC (safeT l (Jch t.r))) rfl rfl (Nat.le_of_ble_eq_true rfl) rfl)))) (Ho 8 rfl (fl':=false) rfl ?_)
 refine WL.focus perm2 (WL.ag (vs:=tsC (Jfb l t)) rfl rfl rfl T.z61 rfl ?_)
 refine Hc (fun _=>(fun _ hw=>⟨hw.it (oQ b6 (tmC (Jch t.l)) 26) (by simp),hw.it (oQ b7 (tmC (Jch t.r)) 26) (by simp)⟩)) ?_
 refine He (Xn (WC.az ?_))
 exact WX.retC (cs:=tsC (Jfb l t)) rfl rfl rfl T.u61 rfl T.z61 (fun w' hw j v hj=>Ja0 hw (.head _) j v hj) (fun w' hw=>⟨rfl,hw.fr⟩)
def putA (x:At)(l:List Tm)(p:Nat):At:=⟨l.getD p T0,x.name,(l.drop (p+1)).take x.args.length⟩
theorem put_at (f:Tm→Tm)(x:At)(A B:List Tm):putA x (A++((plc x).map f++B)) A.length=mapA f x:=by
 unfold putA mapA
 congr 1
 ·rw [List.getD_eq_getElem?_getD,List.getElem?_append_right (Nat.le_refl _),Nat.sub_self];rfl
 ·rw [List.drop_append,List.drop_eq_nil_of_le (by omega),List.nil_append,show A.length+1 - A.length=1 by omega,show (plc x).map f++B=f x.b::(x.args.map f++B) from rfl,List.drop_succ_cons,List.drop_zero,List.take_append_of_le_length (by simp),List.take_of_length_le (by simp)]
theorem drop_get {l:List Tm}{p i:Nat}{t:Tm}(h:l[p+i]?=some t):(l.drop p)[i]?=some t:=by rw [List.getElem?_drop];exact h
def posB (g:CG)(i:Nat):Nat:=(plc g.hd.x).length+((g.bd.take i).flatMap fun y=>plc y.x).length
theorem posB_succ {g:CG}{i:Nat}{y:AG}(h:g.bd[i]?=some y):posB g (i+1)=posB g i+1+y.x.args.length:=by
 unfold posB
 rw [Jff h,List.length_append,show (plc y.x).length=y.x.args.length+1 by simp [plc]]
 omega
theorem put_hd (f:Tm→Tm)(g:CG):putA g.hd.x ((Ja1 g.cl).map f) 0=mapA f g.hd.x:=by
 have e:(Ja1 g.cl).map f=[]++((plc g.hd.x).map f++(Jcf g.cl++Jds g.cl).map f):=by unfold Ja1;rw [List.map_append];rfl
 rw [e]
 exact put_at f g.hd.x [] _
theorem body_split {g:CG}{i:Nat}{y:AG}(h:g.bd[i]?=some y):∃ B,Jcf g.cl=((g.bd.take i).flatMap fun y=>plc y.x)++(plc y.x++B):=by
 refine ⟨(g.bd.drop (i+1)).flatMap fun y=>plc y.x,?_⟩
 rw [Jgy]
 conv=>lhs;rw [← List.take_append_drop (i+1) g.bd,List.flatMap_append,Jff h]
 rw [List.append_assoc]
theorem put_bd (f:Tm→Tm){g:CG}{i:Nat}{y:AG}(h:g.bd[i]?=some y):putA y.x ((Ja1 g.cl).map f) (posB g i)=mapA f y.x∧posB g i+1+y.x.args.length≤(Ja1 g.cl).length:=by
 obtain ⟨B,hB⟩:=body_split h
 have e:Ja1 g.cl=(plc g.hd.x++((g.bd.take i).flatMap fun y=>plc y.x))++(plc y.x++(B++Jds g.cl)):=by
  unfold Ja1
  rw [hB]
  simp only [List.append_assoc]
  rfl
 have e2:(Ja1 g.cl).map f=((plc g.hd.x++((g.bd.take i).flatMap fun y=>plc y.x)).map f)++((plc y.x).map f++(B++Jds g.cl).map f):=by rw [e];simp only [List.map_append]
 have el:((plc g.hd.x++((g.bd.take i).flatMap fun y=>plc y.x)).map f).length=posB g i:=by rw [List.length_map,List.length_append];rfl
 refine ⟨?_,?_⟩
 ·rw [e2,← el];exact put_at f y.x _ _
 ·have h1:(plc y.x).length=y.x.args.length+1:=by simp [plc]
  have h2:=congrArg List.length e
  rw [List.length_map] at el
  simp only [List.length_append] at h2 el
  omega
theorem posB_end (g:CG){i:Nat}(h:g.bd.length≤i):posB g i=(plc g.hd.x).length+(Jcf g.cl).length:=by
 unfold posB
 rw [List.take_of_length_le h,Jgy]
theorem Jf7 (c:Cl):(Ja1 c).length=(plc c.hd).length+(Jcf c).length+2*c.ts.length:=by
 unfold Ja1
 rw [List.length_append,List.length_append,Jj0];omega
theorem test_get {g:CG}{i:Nat}{t:Ts}(h:g.ts[i]?=some t):(Jds g.cl)[2*i]?=some t.l∧(Jds g.cl)[2*i+1]?=some t.r:=by
 have key:∀ (ts:List Ts) (i:Nat),ts[i]?=some t→(ts.flatMap plT)[2*i]?=some t.l∧(ts.flatMap plT)[2*i+1]?=some t.r:=by
  intro ts
  induction ts with
  | nil=>intro i h;simp at h
  | cons u ts ih=>
   intro i h
   cases i with
   | zero=>
    simp only [List.getElem?_cons_zero,Option.some.injEq] at h
    subst h
    exact ⟨rfl,rfl⟩
   | succ i=>
    have:=ih i (by simpa using h)
    rw [List.flatMap_cons,show 2*(i+1)=2*i+2 by omega]
    exact this
 exact key g.ts i h
theorem terms_test {g:CG}{i:Nat}{t:Ts}(f:Tm→Tm)(h:g.ts[i]?=some t)(p:Nat)(hp:p=(plc g.hd.x).length+(Jcf g.cl).length+2*i):((Ja1 g.cl).map f)[p]?=some (f t.l)∧((Ja1 g.cl).map f)[p+1]?=some (f t.r):=by
 obtain ⟨h1,h2⟩:=test_get h
 have e:Ja1 g.cl=(plc g.hd.x++Jcf g.cl)++Jds g.cl:=by unfold Ja1;rw [List.append_assoc];rfl
 have el:(plc g.hd.x++Jcf g.cl).length=(plc g.hd.x).length+(Jcf g.cl).length:=List.length_append
 rw [List.getElem?_map,List.getElem?_map,e,List.getElem?_append_right (by omega),List.getElem?_append_right (by omega),el,show p - ((plc g.hd.x).length+(Jcf g.cl).length)=2*i by omega,show p+1 - ((plc g.hd.x).length+(Jcf g.cl).length)=2*i+1 by omega,h1,h2]
 exact ⟨rfl,rfl⟩
theorem mapC_eq {f:Tm→Tm}{g:CG}{y:AG}{ba:Option Addr}{bc:Nat}{ys:List AG}{ta:Option Addr}{tc:Nat}{us:List Ts}(hy:y.x=mapA f g.hd.x)(hys:ys.map AG.x=g.bd.map fun y=>mapA f y.x)(hus:us=g.ts.map (mapT f)):(⟨y,ba,bc,ys,ta,tc,us⟩:CG).cl=mapC f g.cl:=by
 unfold CG.cl mapC
 simp only [hy,hys,hus,List.map_map]
 rfl
theorem putAtom_calls (x:At)(xa:Option Addr)(xc:Nat)(l:List Tm)(la:Option Addr)(lc p:Nat)(hp:p+1+x.args.length≤l.length)(hl:l.length≤1048576)(w:World)(hr:RT w la l):Calls Tryz.prog 112 #[atV x xa xc,.slice la l.length lc,.int .i64 (p:Int)] w fun e w'=>∃ z:Option Addr × Nat,e=.returned (.tuple #[atV (putA x l p) z.1 z.2,.int .i64 ((p+1+x.args.length:Nat):Int)])∧Turns [] [rowT z.1 z.2 (putA x l p).args] w w':=by
 refine Jbl (args:=[atV x xa xc,.slice la l.length lc,.int .i64 (p:Int)]) (fun _=>False) Tryz.func112 rfl Tryz.ntmps112 rfl rfl ?_
 refine Csr (WL.box rfl rfl rfl ?_)
 intro b3
 refine WL.alloc T.zr29 rfl ?_
 intro b6
 refine Za rfl (Nn (Cs (Hd (fun w'=>w'.heap[b3]?=some (.cells (atC x xa xc).toArray 29 (0,0))∧Keeps w w') [] (fun _ hw=>⟨hw.it (oQ b3 (atC x xa xc) 29) (by simp),hw.keeps⟩) (m:=9) rfl ?_)))
 refine Hf 0 rfl (OV.aw rfl) (Hf 1 rfl (OV.aw rfl) ?_)
 obtain ⟨q1,t0,hq,ht,htm,_,hc⟩:=hr.get (i:=p) (by omega)
 refine Hf 2 rfl ((OV.ad (show _=some (Value.slice (some q1) l.length lc) by rw [← hq];rfl) rfl T.u27 T.z26 (by omega)).cast (u:=.pointer (some (q1.add (p*3)))) (by rw [Int.toNat_natCast])) (Ht 3 rfl (OV.ai (cs:=tmC t0) rfl T.u26 rfl T.z26 (fun _ hw j v hj=>hw.2 _ _ (hc j v hj))) (Hf 4 rfl (OV.f0 3 rfl T.u29 rfl) (Ht 5 rfl (OV.ah (v:=.string x.name) rfl T.u9 rfl (fun _ hw=>(Jav hw.1 (o:=3) rfl).1)) (Hf 6 rfl (OV.ao (xs:=[(0,.tmp 13),(1,.tmp 15)]) (pl:=[(0,3),(3,1),(4,1)]) (cs:=atC ⟨t0,x.name,[]⟩ none 0) T.u29 T.zr29 (by kernel_rfl) rfl (Jal (us:=tmC t0) rfl rfl (Nat.le_of_ble_eq_true rfl) (Jal (us:=[_]) rfl rfl (Nat.le_of_ble_eq_true rfl) rfl))) (Ho 7 rfl (fl':=false) rfl ?_)))))
 refine WL.alloc T.zr29 rfl ?_
 intro bb8
 refine Hc (fun _=>(fun _ hw=>⟨hw.it (oQ b3 (atC x xa xc) 29) (by simp),hw.keeps⟩)) ?_
 refine Ho 8 rfl (fl':=false) rfl ?_
 refine WL.ag (vs:=atC ⟨t0,x.name,[]⟩ none 0) rfl rfl rfl T.z29 rfl ?_
 refine Hc (fun _=>(fun _ hw=>⟨hw.it (oQ b3 (atC x xa xc) 29) (by simp),hw.keeps⟩)) ?_
 refine He (Xn (Csr (Zm rfl (Zv (OV.bi (j:=1) rfl rfl (by omega)) (Za rfl (Nn (Cs (Csr (Za rfl (Nn (Cb (WC.weak (S':=Sat0 w (oQ bb8 (atC ⟨t0,x.name,[]⟩ none 0) 29::row 26 3 none 0 0 []::oQ b3 (atC x xa xc) 29::oQ b6 (atC ⟨T0,E0,[]⟩ none 0) 29::[])) (fun w' hw=>(hw.rowNil 26 3).perm (pmP [_,_,_,_] [1,0,3,2])) ?_))))))))))))
 refine WC.da (fun (i:Nat) (ya:Option Addr) (yc:Nat) (args:List Tm)=>[(1,.slice la l.length lc),(2,.int .i64 ((p+1+i:Nat):Int)),(3,.pointer (some ⟨b3,0,none⟩)),(6,.pointer (some ⟨b6,0,none⟩)),(8,.pointer (some ⟨bb8,0,none⟩)),(9,.int .i64 (i:Int))])
   (fun i ya yc args w'=>(i≤x.args.length∧args.length=i∧args=(l.drop (p+1)).take i)∧Sat0 w (oQ bb8 (atC ⟨t0,x.name,args⟩ ya yc) 29::rowT ya yc args::oQ b3 (atC x xa xc) 29::oQ b6 (atC ⟨T0,E0,[]⟩ none 0) 29::[]) w')
   (fun i _ _ _=>x.args.length - i) 0 none 0 [] Y6 (fun w' hw=>⟨⟨by omega,rfl,rfl⟩,hw⟩) ?_
 intro i ya yc args
 refine WC.pure (fun hi=>?_)
 obtain ⟨hi,hal,hae⟩:=hi
 refine Cs (Csr (Zm rfl (Zv (OV.f0 4 rfl T.u29 rfl) (Zv (OV.l1 (v:=.slice xa x.args.length xc) rfl T.u27 rfl (.tail _ (.tail _ (.head _))) rfl) (Zv (OV.ae rfl T.u27) (Zv (OV.cm rfl rfl) (Nn ?_)))))))
 refine Cc rfl (fun c23=>?_) (fun c23=>?_)
 ·refine Ck (Xn (Cs (Cb (Cs (Hd (fun w'=>w'.heap[bb8]?=some (.cells (atC ⟨t0,x.name,args⟩ ya yc).toArray 29 (0,0))∧Keeps w w') [9] (fun _ hw=>⟨hw.it (oQ bb8 (atC ⟨t0,x.name,args⟩ ya yc) 29) (by simp),hw.keeps⟩) (m:=10) rfl ?_)))))
  refine Hf 0 rfl (OV.f0 4 rfl T.u29 rfl) (Ht 1 rfl (OV.ah (v:=.slice ya args.length yc) rfl T.u27 rfl (fun _ hw=>(Jav hw.1 (o:=4) rfl).1)) (Hf 2 rfl (OV.aw rfl) (Hf 3 rfl (OV.aw rfl) ?_)))
  obtain ⟨q2,t,hq2,ht2,htm2,_,hc2⟩:=hr.get (i:=(p+1+i)) (by omega)
  refine Hf 4 rfl ((OV.ad (show _=some (Value.slice (some q2) l.length lc) by rw [← hq2];rfl) rfl T.u27 T.z26 (by omega)).cast (u:=.pointer (some (q2.add ((p+1+i)*3)))) (by rw [Int.toNat_natCast])) (Ht 5 rfl (OV.ai (cs:=tmC t) rfl T.u26 rfl T.z26 (fun _ hw j v hj=>hw.2 _ _ (hc2 j v hj))) (Ho 6 rfl (fl':=false) rfl ?_))
  refine WL.bh (cs:=tmC t) T.u27 T.z26 T.zr26 rfl rfl (by omega) (by omega) rfl ?_
  intro bb32
  refine Hc (fun _=>(fun _ hw=>⟨hw.it (oQ bb8 (atC ⟨t0,x.name,args⟩ ya yc) 29) (by simp),hw.keeps⟩)) ?_
  refine Ho 7 rfl (fl':=false) rfl ?_
  refine WL.focus (ow':=rowT ya yc args::oQ bb32 (tmC t) 26::oQ bb8 (atC ⟨t0,x.name,args⟩ ya yc) 29::oQ b3 (atC x xa xc) 29::oQ b6 (atC ⟨T0,E0,[]⟩ none 0) 29::[]) (pmP [_,_,_,_,_] [2,0,1,3,4]) ?_
  refine WL.append (news:=tmC t) rfl rfl T.apT (fun _ _=>Jcs (.tail _ (.head _)) rfl) (Jf6 _) ⟨by omega,by unfold maxLen;omega⟩ rfl ?_
  intro a33 c33
  refine Hc (fun _=>(fun _ hw=>⟨hw.it (oQ bb8 (atC ⟨t0,x.name,args⟩ ya yc) 29) (by simp),hw.keeps⟩)) ?_
  refine Hf 8 rfl (OV.f0 4 rfl T.u29 rfl) (Ho 9 rfl (fl':=true) rfl ?_)
  refine WL.focus perm2 (WL.br (o:=4) rfl rfl rfl T.z27 (by show 4<5;omega) ?_)
  refine Hc (fun h=>by cases h) ?_
  refine He (Xn (Cr (Zm rfl (Zv (OV.bi (j:=1) rfl rfl (by omega)) (Za rfl (Nl (Xb (Xn (Cr (Zm rfl (Zv (OV.bi (j:=1) rfl rfl (by omega)) (Za rfl (Nl ?_)))))))))))))
  have el:args.length+1=(args++[t]).length:=by simp
  have ef:args.flatMap tmC++tmC t=(args++[t]).flatMap tmC:=by simp
  exact WX.ce (i+1) a33 c33 (args++[t]) Y6 (fun w' hw=>⟨⟨by omega,by simp [hal],by rw [Jb2 (drop_get ht2),hae]⟩,by
   rw [el,ef] at hw
   exact hw.pik [[oQ bb8 (atC ⟨t0,x.name,(args++[t])⟩ a33 c33) 29],[rowT a33 c33 (args++[t])],[oQ bb32 (tmC t) 26],[oQ b3 (atC x xa xc) 29],[oQ b6 (atC ⟨T0,E0,[]⟩ none 0) 29]] [0,1,3,4] 5⟩) (by show x.args.length - (i+1)<x.args.length - i;omega)
 refine Ce (Xe (Xe (Xh (Xn (Csr (Zv (OV.lN (cs:=atC ⟨t0,x.name,args⟩ ya yc) rfl T.u29 rfl T.z29 (.head _)) (Zm rfl ?_)))))))
 refine WL.focus perm3 (WL.ag (vs:=atC ⟨t0,x.name,args⟩ ya yc) rfl rfl rfl T.z29 rfl ?_)
 refine Za rfl (Nn (WC.az ?_))
 have hat:putA x l p=⟨t0,x.name,args⟩:=by
  unfold putA
  rw [List.getD_eq_getElem?_getD,ht,hae,show i=x.args.length by omega];rfl
 have hpi:p+1+i=p+1+x.args.length:=by omega
 rw [hat]
 refine WX.mm (cs:=atC ⟨t0,x.name,args⟩ ya yc) rfl rfl rfl rfl T.u29 rfl T.z29 (fun w' hw j v hj=>Ja0 hw (.head _) j v hj) (fun w' hw=>⟨(ya,yc),by rw [hpi],?_⟩)
 exact (hw.pik [[oQ b6 (atC ⟨t0,x.name,args⟩ ya yc) 29],[oQ bb8 (atC ⟨t0,x.name,args⟩ ya yc) 29],[rowT ya yc args],[oQ b3 (atC x xa xc) 29]] [2] 4).turned0
theorem Ji2 (ys:List AG)(y:AG):argsA (ys++[y])=argsA ys++[argA y]:=by simp [argsA]
set_option maxHeartbeats 1000000 in
theorem put_calls (g:CG)(f:Tm→Tm)(hm:(Ja1 g.cl).length≤1048576)(hl:g.bd.length≤1048576)(la:Option Addr)(lc:Nat)(w:World)(hr:RC w g)(hrl:RT w la ((Ja1 g.cl).map f)):Calls Tryz.prog 81 #[cgV g,.slice la (Ja1 g.cl).length lc] w fun e w'=>∃ g':CG,e=.returned (cgV g')∧g'.cl=mapC f g.cl∧Turns [] (cgA g') w w':=by
 refine Jbl (args:=[cgV g,.slice la (Ja1 g.cl).length lc]) (fun _=>False) Tryz.func81 rfl Tryz.ntmps81 rfl rfl ?_
 refine Csr (WL.box rfl rfl rfl ?_)
 intro b2
 refine WL.alloc T.zr32 rfl ?_
 intro b4
 refine Nn (Csr (Za rfl (Nn (Csr (WL.alloc T.zr32 rfl ?_)))))
 intro b6
 refine Nn (Csr (Zv (OV.f0 0 rfl T.u32 rfl) (Zv (OV.ai (cs:=atC g.hd.x g.hd.a g.hd.c) rfl T.u29 rfl T.z29 (fun _ hw j v hj=>by rw [Jap];exact Jbo hw (.tail _ (.tail _ (.head _))) (o:=0) (cs':=atC g.hd.x g.hd.a g.hd.c) rfl j v hj)) (Zm rfl (Zm rfl ?_)))))
 have hbl:=Jf7 g.cl
 have hpl:(plc g.cl.hd).length=g.hd.x.args.length+1:=by simp [plc,CG.cl]
 refine WL.cT (ι:=Option Addr × Nat) (vs:=[atV g.hd.x g.hd.a g.hd.c,.slice la (Ja1 g.cl).length lc,.int .i64 ((0:Nat):Int)]) (vv:=fun z=>.tuple #[atV (mapA f g.hd.x) z.1 z.2,.int .i64 ((0+1+g.hd.x.args.length:Nat):Int)]) (pp:=fun _=>True) [] (AA:=fun z=>[rowT z.1 z.2 (mapA f g.hd.x).args]) rfl (fun w' hw' _=>?_) ?_
 ·have h9:=putAtom_calls g.hd.x g.hd.a g.hd.c ((Ja1 g.cl).map f) la lc (0) (by rw [List.length_map];omega) (by rw [List.length_map];exact hm) w' (hrl.keeps hw'.keeps)
  rw [List.length_map,put_hd f g] at h9
  exact h9.mono (fun en w'' ⟨z,h1,h2⟩=>⟨z,h1,trivial,h2⟩)
 rintro ⟨hda,hdc⟩ _
 refine Zm rfl (Zv (OV.extract rfl rfl) (Zv (OV.extract rfl rfl) (Zv (OV.f0 0 rfl T.u32 rfl) ?_)))
 refine WL.focus perm1 (WL.kw (o:=0) (vs:=atC (mapA f g.hd.x) hda hdc) rfl rfl rfl T.z29 (Nat.le_of_ble_eq_true rfl) ?_)
 refine Za rfl (Nn (Cs (Csr (Za rfl (Nn (Cb (WC.weak (S':=Sat0 w (oQ b6 (cgC ⟨⟨mapA f g.hd.x,hda,hdc⟩,none,0,[],none,0,[]⟩) 32::row 29 5 none 0 0 []::rowT hda hdc (mapA f g.hd.x).args::oQ b4 (cgC ⟨⟨⟨T0,E0,[]⟩,none,0⟩,none,0,[],none,0,[]⟩) 32::oQ b2 (cgC g) 32::[])) (fun w' hw=>(hw.rowNil 29 5).perm (pmP [_,_,_,_,_] [1,0,2,3,4])) ?_)))))))
 refine WC.da (fun (i:Nat) (ba:Option Addr) (bc:Nat) (ys:List AG)=>[(1,.slice la (Ja1 g.cl).length lc),(2,.pointer (some ⟨b2,0,none⟩)),(4,.pointer (some ⟨b4,0,none⟩)),(6,.pointer (some ⟨b6,0,none⟩)),(5,.int .i64 ((posB g i:Nat):Int)),(7,.int .i64 (i:Int))])
   (fun i ba bc ys w'=>(i≤g.bd.length∧ys.length=i∧ys.map AG.x=(g.bd.take i).map fun y=>mapA f y.x)∧Sat0 w (oQ b6 (cgC ⟨⟨mapA f g.hd.x,hda,hdc⟩,ba,bc,ys,none,0,[]⟩) 32::rowAt ba bc ys::rowT hda hdc (mapA f g.hd.x).args::oQ b4 (cgC ⟨⟨⟨T0,E0,[]⟩,none,0⟩,none,0,[],none,0,[]⟩) 32::oQ b2 (cgC g) 32::argsA ys) w')
   (fun i _ _ _=>g.bd.length - i) 0 none 0 [] ⟨rfl,rfl,rfl,rfl,by show _=some (Value.int .i64 (((plc g.hd.x).length+0:Nat):Int));rw [show (plc g.hd.x).length+0=0+1+g.hd.x.args.length by simp [plc];omega];rfl,rfl,trivial⟩ (fun w' hw=>⟨⟨by omega,rfl,rfl⟩,hw⟩) ?_
 intro i ba bc ys
 refine WC.pure (fun hi=>?_)
 obtain ⟨hi,hyl,hyx⟩:=hi
 refine Cs (Csr (Zm rfl (Zv (OV.f0 5 rfl T.u32 rfl) (Zv (OV.l1 (v:=.slice g.ba g.bd.length g.bc) rfl T.u22 rfl (.tail _ (.tail _ (.tail _ (.tail _ (.head _))))) rfl) (Zv (OV.ae rfl T.u22) (Zv (OV.cm rfl rfl) (Nn ?_)))))))
 refine Cc rfl (fun c23=>?_) (fun c23=>?_)
 ·refine Ck (Xn (Cs (Cb (Csr (Zv (OV.ao (xs:=[]) (pl:=[(0,3),(3,1),(4,1)]) (cs:=atC ⟨T0,E0,[]⟩ none 0) T.u29 T.zr29 (by kernel_rfl) rfl rfl) (WL.alloc T.zr29 rfl ?_))))))
  intro bb8
  refine WL.ag (vs:=atC ⟨T0,E0,[]⟩ none 0) rfl rfl rfl T.z29 rfl ?_
  refine Nn (Csr (Zv (OV.f0 5 rfl T.u32 rfl) (Zv (OV.ah (v:=.slice g.ba g.bd.length g.bc) rfl T.u22 rfl (fun _ hw=>(Jav (hw.it _ (.tail _ (.tail _ (.tail _ (.tail _ (.tail _ (.head _))))))) (o:=5) rfl).1)) (Zm rfl ?_))))
  obtain ⟨q1,y,hq,ht,htm,hra,hc⟩:=hr.bd.get (i:=i) (by omega)
  refine Zv ((OV.ad (show _=some (Value.slice (some q1) g.bd.length g.bc) by rw [← hq];rfl) rfl T.u22 T.z29 (by omega)).cast (u:=.pointer (some (q1.add (i*5)))) (by rw [Int.toNat_natCast])) (Zv (OV.ai (cs:=atC y.x y.a y.c) rfl T.u29 rfl T.z29 (fun _ hw j v hj=>hw.keeps _ _ (hc j v hj))) (Zm rfl (Zm rfl ?_)))
  obtain ⟨hpb,hpl2⟩:=put_bd f ht
  refine WL.cT (ι:=Option Addr × Nat) (vs:=[atV y.x y.a y.c,.slice la (Ja1 g.cl).length lc,.int .i64 ((posB g i:Nat):Int)]) (vv:=fun z=>.tuple #[atV (mapA f y.x) z.1 z.2,.int .i64 ((posB g i+1+y.x.args.length:Nat):Int)]) (pp:=fun _=>True) [] (AA:=fun z=>[rowT z.1 z.2 (mapA f y.x).args]) rfl (fun w' hw' _=>?_) ?_
  ·have h9:=putAtom_calls y.x y.a y.c ((Ja1 g.cl).map f) la lc (posB g i) (by rw [List.length_map];omega) (by rw [List.length_map];exact hm) w' (hrl.keeps hw'.keeps)
   rw [List.length_map,hpb] at h9
   exact h9.mono (fun en w'' ⟨z,h1,h2⟩=>⟨z,h1,trivial,h2⟩)
  rintro ⟨qa,qc⟩ _
  refine WL.focus (ow':=oQ bb8 (atC ⟨T0,E0,[]⟩ none 0) 29::rowT qa qc (mapA f y.x).args::oQ b6 (cgC ⟨⟨mapA f g.hd.x,hda,hdc⟩,ba,bc,ys,none,0,[]⟩) 32::rowAt ba bc ys::rowT hda hdc (mapA f g.hd.x).args::oQ b4 (cgC ⟨⟨⟨T0,E0,[]⟩,none,0⟩,none,0,[],none,0,[]⟩) 32::oQ b2 (cgC g) 32::argsA ys) (pmP [_,_,_,_,_,_,_] [1,0,2,3,4,5,6]) ?_
  refine Zm rfl (Zv (OV.extract rfl rfl) (Zv (OV.extract rfl rfl) (WL.ag (vs:=agC (⟨mapA f y.x,qa,qc⟩:AG)) rfl rfl rfl T.z29 rfl ?_)))
  refine WL.focus (ow':=oQ bb8 (agC (⟨mapA f y.x,qa,qc⟩:AG)) 29::oQ b6 (cgC ⟨⟨mapA f g.hd.x,hda,hdc⟩,ba,bc,ys,none,0,[]⟩) 32::rowT qa qc (mapA f y.x).args::rowAt ba bc ys::rowT hda hdc (mapA f g.hd.x).args::oQ b4 (cgC ⟨⟨⟨T0,E0,[]⟩,none,0⟩,none,0,[],none,0,[]⟩) 32::oQ b2 (cgC g) 32::argsA ys) (pmP [_,_,_,_,_,_,_] [0,2,1,3,4,5,6]) ?_
  refine Za rfl (Nn (Cr (Zv (OV.f0 5 rfl T.u32 rfl) (Zv (OV.l1 (v:=.slice ba ys.length bc) rfl T.u22 rfl (.tail _ (.head _)) rfl) (Zv (OV.lN (cs:=agC (⟨mapA f y.x,qa,qc⟩:AG)) rfl T.u29 rfl T.z29 (.head _)) (WL.bh (cs:=agC (⟨mapA f y.x,qa,qc⟩:AG)) T.u22 T.z29 T.zr29 rfl rfl (by omega) (by omega) rfl ?_))))))
  intro b41
  refine WL.focus (ow':=rowAt ba bc ys::oQ b41 (agC (⟨mapA f y.x,qa,qc⟩:AG)) 29::oQ bb8 (agC (⟨mapA f y.x,qa,qc⟩:AG)) 29::oQ b6 (cgC ⟨⟨mapA f g.hd.x,hda,hdc⟩,ba,bc,ys,none,0,[]⟩) 32::rowT qa qc (mapA f y.x).args::rowT hda hdc (mapA f g.hd.x).args::oQ b4 (cgC ⟨⟨⟨T0,E0,[]⟩,none,0⟩,none,0,[],none,0,[]⟩) 32::oQ b2 (cgC g) 32::argsA ys) (pmP [_,_,_,_,_,_,_,_] [4,0,1,2,3,5,6,7]) ?_
  refine WL.append (news:=agC (⟨mapA f y.x,qa,qc⟩:AG)) rfl rfl T.apA (fun _ _=>Jcs (.tail _ (.head _)) rfl) (Jji _) ⟨by omega,by unfold maxLen;omega⟩ rfl ?_
  intro a42 c42
  refine Zv (OV.f0 5 rfl T.u32 rfl) ?_
  refine WL.focus (ow':=oQ b6 (cgC ⟨⟨mapA f g.hd.x,hda,hdc⟩,ba,bc,ys,none,0,[]⟩) 32::rowAt a42 c42 (ys++[(⟨mapA f y.x,qa,qc⟩:AG)])::oQ b41 (agC (⟨mapA f y.x,qa,qc⟩:AG)) 29::oQ bb8 (agC (⟨mapA f y.x,qa,qc⟩:AG)) 29::rowT qa qc (mapA f y.x).args::rowT hda hdc (mapA f g.hd.x).args::oQ b4 (cgC ⟨⟨⟨T0,E0,[]⟩,none,0⟩,none,0,[],none,0,[]⟩) 32::oQ b2 (cgC g) 32::argsA ys) (by
   rw [show ys.length+1=(ys++[(⟨mapA f y.x,qa,qc⟩:AG)]).length by simp,show ys.flatMap agC++agC (⟨mapA f y.x,qa,qc⟩:AG)=(ys++[(⟨mapA f y.x,qa,qc⟩:AG)]).flatMap agC by simp]
   exact pmP [_,_,_,_,_,_,_,_] [3,0,1,2,4,5,6,7]) (WL.br (o:=5) rfl rfl rfl T.z22 (by show 5<7;omega) ?_)
  refine Nl (Xb (Xn (Cr (Zm rfl (Zv (OV.bi (j:=1) rfl rfl (by omega)) (Za rfl (Nl ?_)))))))
  exact WX.ce (i+1) a42 c42 (ys++[(⟨mapA f y.x,qa,qc⟩:AG)]) ⟨rfl,rfl,rfl,rfl,by rw [posB_succ ht];rfl,rfl,trivial⟩ (fun w' hw=>⟨⟨by omega,by simp [hyl],by rw [Jb2 ht,List.map_append,List.map_append,hyx];rfl⟩,by
   rw [Ji2]
   rw [show ys.length+1=(ys++[(⟨mapA f y.x,qa,qc⟩:AG)]).length by simp] at hw
   refine Hw.Sat.pick [[oQ b6 (cgC ⟨⟨mapA f g.hd.x,hda,hdc⟩,a42,c42,ys++[(⟨mapA f y.x,qa,qc⟩:AG)],none,0,[]⟩) 32],[rowAt a42 c42 (ys++[(⟨mapA f y.x,qa,qc⟩:AG)])],[oQ b41 (agC (⟨mapA f y.x,qa,qc⟩:AG)) 29],[oQ bb8 (agC (⟨mapA f y.x,qa,qc⟩:AG)) 29],[rowT qa qc (mapA f y.x).args],[rowT hda hdc (mapA f g.hd.x).args],[oQ b4 (cgC ⟨⟨⟨T0,E0,[]⟩,none,0⟩,none,0,[],none,0,[]⟩) 32],[oQ b2 (cgC g) 32],argsA ys] [0,1,5,6,7,8,4] 9 rfl (by decide) (by decide) ?_
   exact hw⟩) (by show g.bd.length - (i+1)<g.bd.length - i;omega)
 refine Ce (Xe (Xe (Xh (Xn (Cs (Csr (Za rfl (Nn (Cb ?_)))))))))
 have hpe:=posB_end g (i:=i) (by omega)
 rw [List.take_of_length_le (by omega)] at hyx
 refine WC.weak (S':=Sat0 w (oQ b6 (cgC ⟨⟨mapA f g.hd.x,hda,hdc⟩,ba,bc,ys,none,0,[]⟩) 32::row 61 7 none 0 0 []::rowT hda hdc (mapA f g.hd.x).args::oQ b4 (cgC ⟨⟨⟨T0,E0,[]⟩,none,0⟩,none,0,[],none,0,[]⟩) 32::oQ b2 (cgC g) 32::rowAt ba bc ys::argsA ys)) (fun w' hw=>(hw.rowNil 61 7).perm (pmP [_,_,_,_,_,_] [1,0,3,4,5,2])) ?_
 refine WC.da (fun (i:Nat) (ta:Option Addr) (tc:Nat) (us:List Ts)=>[(1,.slice la (Ja1 g.cl).length lc),(2,.pointer (some ⟨b2,0,none⟩)),(4,.pointer (some ⟨b4,0,none⟩)),(6,.pointer (some ⟨b6,0,none⟩)),(5,.int .i64 (((plc g.hd.x).length+(Jcf g.cl).length+2*i:Nat):Int)),(9,.int .i64 (i:Int))])
   (fun i ta tc us w'=>(i≤g.ts.length∧us.length=i∧us=(g.ts.take i).map (mapT f))∧Sat0 w (oQ b6 (cgC ⟨⟨mapA f g.hd.x,hda,hdc⟩,ba,bc,ys,ta,tc,us⟩) 32::rowS ta tc us::rowT hda hdc (mapA f g.hd.x).args::oQ b4 (cgC ⟨⟨⟨T0,E0,[]⟩,none,0⟩,none,0,[],none,0,[]⟩) 32::oQ b2 (cgC g) 32::rowAt ba bc ys::argsA ys) w')
   (fun i _ _ _=>g.ts.length - i) 0 none 0 [] ⟨rfl,rfl,rfl,rfl,by rw [Nat.mul_zero,Nat.add_zero,← hpe];rfl,rfl,trivial⟩ (fun w' hw=>⟨⟨by omega,rfl,rfl⟩,hw⟩) ?_
 clear hi
 intro i ta tc us
 refine WC.pure (fun hi=>?_)
 obtain ⟨hi,hul,hue⟩:=hi
 refine Cs (Csr (Zm rfl (Zv (OV.f0 6 rfl T.u32 rfl) (Zv (OV.l1 (v:=.slice g.ta g.ts.length g.tc) rfl T.u30 rfl (.tail _ (.tail _ (.tail _ (.tail _ (.head _))))) rfl) (Zv (OV.ae rfl T.u30) (Zv (OV.cm rfl rfl) (Nn ?_)))))))
 refine Cc rfl (fun c48=>?_) (fun c48=>?_)
 ·refine Ck (Xn (Cs (Cb (Cs (Hd (fun w'=>w'.heap[b6]?=some (.cells (cgC ⟨⟨mapA f g.hd.x,hda,hdc⟩,ba,bc,ys,ta,tc,us⟩).toArray 32 (0,0))∧w'.heap[b2]?=some (.cells (cgC g).toArray 32 (0,0))∧Keeps w w') [21] (fun _ hw=>⟨hw.it (oQ b6 (cgC ⟨⟨mapA f g.hd.x,hda,hdc⟩,ba,bc,ys,ta,tc,us⟩) 32) (by simp),hw.it (oQ b2 (cgC g) 32) (by simp),hw.keeps⟩) (m:=22) rfl ?_)))))
  refine Hf 0 rfl (OV.f0 6 rfl T.u32 rfl) (Ht 1 rfl (OV.ah (v:=.slice ta us.length tc) rfl T.u30 rfl (fun _ hw=>(Jav hw.1 (o:=6) rfl).1)) (Hf 2 rfl (OV.f0 6 rfl T.u32 rfl) (Ht 3 rfl (OV.ah (v:=.slice g.ta g.ts.length g.tc) rfl T.u30 rfl (fun _ hw=>(Jav hw.2.1 (o:=6) rfl).1)) (Hf 4 rfl (OV.aw rfl) ?_))))
  obtain ⟨q1,t,hq,ht,htm,hc⟩:=hr.ts.get (i:=i) (by omega)
  refine Hf 5 rfl ((OV.ad (show _=some (Value.slice (some q1) g.ts.length g.tc) by rw [← hq];rfl) rfl T.u30 T.z61 (by omega)).cast (u:=.pointer (some (q1.add (i*7)))) (by rw [Int.toNat_natCast])) (Hf 6 rfl ((OV.fieldAddrA (off:=0) rfl T.u61 rfl).cast (u:=.pointer (some (q1.add (i*7)))) (by rw [Jd6])) (Ht 7 rfl (OV.ah (v:=.int .i64 t.op) rfl T.u3 rfl (fun _ hw=>hw.2.2 _ _ (hc 0 _ rfl))) (Hf 8 rfl (OV.aw rfl) (Hf 9 rfl (OV.aw rfl) ?_))))
  obtain ⟨ht1,ht2⟩:=terms_test f ht ((plc g.hd.x).length+(Jcf g.cl).length+2*i) rfl
  have htl:=(List.getElem?_eq_some_iff.1 ht2).1
  rw [List.length_map] at htl
  obtain ⟨q2,t1,hqu,htu,htmu,_,hcu⟩:=hrl.get (i:=((plc g.hd.x).length+(Jcf g.cl).length+2*i)) (by rw [List.length_map];omega)
  refine Hf 10 rfl ((OV.ad (show _=some (Value.slice (some q2) (Ja1 g.cl).length lc) by rw [← hqu];rfl) rfl T.u27 T.z26 (by omega)).cast (u:=.pointer (some (q2.add (((plc g.hd.x).length+(Jcf g.cl).length+2*i)*3)))) (by rw [Int.toNat_natCast])) ?_
  rw [ht1] at htu
  obtain rfl:=Option.some.inj htu
  refine Ht 11 rfl (OV.ai (cs:=tmC (f t.l)) rfl T.u26 rfl T.z26 (fun _ hw j v hj=>hw.2.2 _ _ (hcu j v hj))) (Hf 12 rfl (OV.aw rfl) (Hf 13 rfl (OV.aw rfl) (Hf 14 rfl (OV.bi (j:=1) rfl rfl (by omega)) ?_)))
  obtain ⟨q3,t2,hqv,htv,htmv,_,hcv⟩:=hrl.get (i:=((plc g.hd.x).length+(Jcf g.cl).length+2*i+1)) (by rw [List.length_map];omega)
  refine Hf 15 rfl ((OV.ad (show _=some (Value.slice (some q3) (Ja1 g.cl).length lc) by rw [← hqv];rfl) rfl T.u27 T.z26 (by omega)).cast (u:=.pointer (some (q3.add (((plc g.hd.x).length+(Jcf g.cl).length+2*i+1)*3)))) (by rw [Int.toNat_natCast])) ?_
  rw [ht2] at htv
  obtain rfl:=Option.some.inj htv
  refine Ht 16 rfl (OV.ai (cs:=tmC (f t.r)) rfl T.u26 rfl T.z26 (fun _ hw j v hj=>hw.2.2 _ _ (hcv j v hj))) (Hf 17 rfl (OV.ao (xs:=[(0,.tmp 58),(1,.tmp 62),(2,.tmp 67)]) (pl:=[(0,1),(1,3),(4,3)]) (cs:=tsC (mapT f t)) T.u61 T.zr61 (by kernel_rfl) rfl (Jal (us:=[_]) rfl rfl (Nat.le_of_ble_eq_true rfl) (Jal (us:=tmC (f t.l)) rfl rfl (Nat.le_of_ble_eq_true rfl) (Jal (us:=tmC (f t.r)) rfl rfl (Nat.le_of_ble_eq_true rfl) rfl)))) (Ho 18 rfl (fl':=false) rfl ?_))
  refine WL.bh (cs:=tsC (mapT f t)) T.u30 T.z61 T.zr61 rfl rfl (by omega) (by omega) rfl ?_
  intro b69
  refine Hc (fun _=>(fun _ hw=>⟨hw.it (oQ b6 (cgC ⟨⟨mapA f g.hd.x,hda,hdc⟩,ba,bc,ys,ta,tc,us⟩) 32) (by simp),hw.it (oQ b2 (cgC g) 32) (by simp),hw.keeps⟩)) ?_
  refine Ho 19 rfl (fl':=false) rfl ?_
  refine WL.focus (ow':=rowS ta tc us::oQ b69 (tsC (mapT f t)) 61::oQ b6 (cgC ⟨⟨mapA f g.hd.x,hda,hdc⟩,ba,bc,ys,ta,tc,us⟩) 32::rowT hda hdc (mapA f g.hd.x).args::oQ b4 (cgC ⟨⟨⟨T0,E0,[]⟩,none,0⟩,none,0,[],none,0,[]⟩) 32::oQ b2 (cgC g) 32::rowAt ba bc ys::argsA ys) (pmP [_,_,_,_,_,_,_] [2,0,1,3,4,5,6]) ?_
  refine WL.append (news:=tsC (mapT f t)) rfl rfl T.apS (fun _ _=>Jcs (.tail _ (.head _)) rfl) (Jn0 _) ⟨by omega,by unfold maxLen;omega⟩ rfl ?_
  intro a70 c70
  refine Hc (fun _=>(fun _ hw=>⟨hw.it (oQ b6 (cgC ⟨⟨mapA f g.hd.x,hda,hdc⟩,ba,bc,ys,ta,tc,us⟩) 32) (by simp),hw.it (oQ b2 (cgC g) 32) (by simp),hw.keeps⟩)) ?_
  refine Hf 20 rfl (OV.f0 6 rfl T.u32 rfl) (Ho 21 rfl (fl':=true) rfl ?_)
  refine WL.focus perm2 (WL.br (o:=6) rfl rfl rfl T.z30 (by show 6<7;omega) ?_)
  refine Hc (fun h=>by cases h) ?_
  refine He (Xn (Cr (Zm rfl (Zv (OV.bi (j:=2) rfl rfl (by omega)) (Za rfl (Nl (Xb (Xn (Cr (Zm rfl (Zv (OV.bi (j:=1) rfl rfl (by omega)) (Za rfl (Nl ?_)))))))))))))
  have el:us.length+1=(us++[(mapT f t)]).length:=by simp
  have ef:us.flatMap tsC++tsC (mapT f t)=(us++[(mapT f t)]).flatMap tsC:=by simp
  exact WX.ce (i+1) a70 c70 (us++[(mapT f t)]) Y6 (fun w' hw=>⟨⟨by omega,by simp [hul],by rw [Jb2 ht,List.map_append,hue];rfl⟩,by
   rw [el,ef] at hw
   exact hw.pik [[oQ b6 (cgC ⟨⟨mapA f g.hd.x,hda,hdc⟩,ba,bc,ys,a70,c70,us++[(mapT f t)]⟩) 32],[rowS a70 c70 (us++[(mapT f t)])],[oQ b69 (tsC (mapT f t)) 61],[rowT hda hdc (mapA f g.hd.x).args],[oQ b4 (cgC ⟨⟨⟨T0,E0,[]⟩,none,0⟩,none,0,[],none,0,[]⟩) 32],[oQ b2 (cgC g) 32],rowAt ba bc ys::argsA ys] [0,1,3,4,5,6] 7⟩) (by show g.ts.length - (i+1)<g.ts.length - i;omega)
 refine Ce (Xe (Xe (Xh (Xn (Csr (Zv (OV.lN (cs:=cgC ⟨⟨mapA f g.hd.x,hda,hdc⟩,ba,bc,ys,ta,tc,us⟩) rfl T.u32 rfl T.z32 (.head _)) ?_))))))
 refine WL.focus perm3 (WL.ag (vs:=cgC ⟨⟨mapA f g.hd.x,hda,hdc⟩,ba,bc,ys,ta,tc,us⟩) rfl rfl rfl T.z32 rfl ?_)
 refine Nn (WC.az ?_)
 rw [List.take_of_length_le (by omega)] at hue
 refine WX.retC (cs:=cgC ⟨⟨mapA f g.hd.x,hda,hdc⟩,ba,bc,ys,ta,tc,us⟩) rfl rfl rfl T.u32 rfl T.z32 (fun w' hw j v hj=>Ja0 hw (.head _) j v hj) (fun w' hw=>⟨⟨⟨mapA f g.hd.x,hda,hdc⟩,ba,bc,ys,ta,tc,us⟩,rfl,mapC_eq rfl hyx hue,?_⟩)
 exact (hw.pik [[oQ b4 (cgC ⟨⟨mapA f g.hd.x,hda,hdc⟩,ba,bc,ys,ta,tc,us⟩) 32],[oQ b6 (cgC ⟨⟨mapA f g.hd.x,hda,hdc⟩,ba,bc,ys,ta,tc,us⟩) 32],[rowS ta tc us],[rowT hda hdc (mapA f g.hd.x).args],[oQ b2 (cgC g) 32],rowAt ba bc ys::argsA ys] [3,5,2] 6).turned0
theorem numT_place (vs:List Tm)(t:Tm):numT vs t=if 0≤Jk8 vs t then ⟨3,Jk8 vs t,E0⟩ else t:=by
 unfold numT Jk8
 by_cases h:t∈vs
 ·rw [if_pos h,if_pos h,if_pos (by omega)]
 ·rw [if_neg h,if_neg h,if_neg (by omega)]
theorem normal_calls (g:CG)(hm:(Ja1 g.cl).length≤1048576)(hl:g.bd.length≤1048576)(w:World)(hr:RC w g):Calls Tryz.prog 34 #[cgV g] w fun e w'=>∃ g':CG,e=.returned (cgV g')∧g'.cl=normC g.cl∧Turns [] (cgA g') w w':=by
 refine Jbl (args:=[cgV g]) (fun _=>False) Tryz.func34 rfl Tryz.ntmps34 rfl rfl ?_
 refine Csr (WL.box rfl rfl rfl ?_)
 intro b1
 refine WL.alloc T.zr32 rfl ?_
 intro b2
 refine Nn (Csr (Zv (OV.lN (cs:=cgC g) rfl T.u32 rfl T.z32 (.tail _ (.head _))) (WL.du (ι:=Option Addr × Nat) (vv:=fun z=>.slice z.1 (Ja1 g.cl).length z.2) (pp:=fun _=>True) [] (AA:=fun z=>[rowT z.1 z.2 (Ja1 g.cl)]) rfl (by kernel_rfl) rfl rfl (fun w' hw' _=>(terms_calls g hm hl w' (hr.keeps hw'.keeps)).mono (fun en w'' ⟨z,h1,h2⟩=>⟨z,h1,trivial,h2⟩)) ?_)))
 rintro ⟨ta,tc⟩ _
 refine Za rfl (Nn (Csr (Zm rfl (WL.du (ι:=Option Addr × Nat) (vv:=fun z=>.slice z.1 (dedV (Ja1 g.cl)).length z.2) (pp:=fun _=>True) [] (AA:=fun z=>[rowT z.1 z.2 (dedV (Ja1 g.cl))]) rfl (by kernel_rfl) rfl rfl (fun w' hw' _=>(variables_calls (Ja1 g.cl) ta tc hm w' (RT.of_row (c:=tc) rfl hw' (.head _))).mono (fun en w'' ⟨z,h1,h2⟩=>⟨z,h1,trivial,h2⟩)) ?_))))
 rintro ⟨va,vc⟩ _
 refine Za rfl (Nn (Csr (Za rfl (Nn (Cs (Csr (Za rfl (Nn (Cb (WC.weak (S':=Sat0 w (row 26 3 none 0 0 []::rowT va vc (dedV (Ja1 g.cl))::rowT ta tc (Ja1 g.cl)::oQ b2 (cgC ⟨⟨⟨T0,E0,[]⟩,none,0⟩,none,0,[],none,0,[]⟩) 32::oQ b1 (cgC g) 32::[])) (fun w' hw=>hw.rowNil 26 3) ?_))))))))))
 refine WC.da (fun (i:Nat) (oa:Option Addr) (oc:Nat) (out:List Tm)=>[(1,.pointer (some ⟨b1,0,none⟩)),(2,.pointer (some ⟨b2,0,none⟩)),(3,.slice ta (Ja1 g.cl).length tc),(4,.slice va (dedV (Ja1 g.cl)).length vc),(5,.slice oa out.length oc),(6,.int .i64 (i:Int))])
   (fun i oa oc out w'=>(i≤(Ja1 g.cl).length∧out.length=i∧out=((Ja1 g.cl).take i).map (numT (dedV (Ja1 g.cl))))∧Sat0 w (rowT oa oc out::rowT va vc (dedV (Ja1 g.cl))::rowT ta tc (Ja1 g.cl)::oQ b2 (cgC ⟨⟨⟨T0,E0,[]⟩,none,0⟩,none,0,[],none,0,[]⟩) 32::oQ b1 (cgC g) 32::[]) w')
   (fun i _ _ _=>(Ja1 g.cl).length - i) 0 none 0 [] Y6 (fun w' hw=>⟨⟨by omega,rfl,rfl⟩,hw⟩) ?_
 intro i oa oc out
 refine WC.pure (fun hi=>?_)
 obtain ⟨hi,hol,hoe⟩:=hi
 refine Cs (Csr (Zm rfl (Zm rfl (Zv (OV.ae rfl T.u27) (Zv (OV.cm rfl rfl) (Nn ?_))))))
 refine Cc rfl (fun c16=>?_) (fun c16=>?_)
 ·refine Ck (Xn (Cs (Cb (Csr (Zm rfl (Zm rfl ?_))))))
  obtain ⟨t,ht⟩:∃ t,(Ja1 g.cl)[i]?=some t:=⟨_,List.getElem?_eq_getElem (by omega)⟩
  refine WL.jd (fun w' hw'=>(RT.of_row (c:=tc) rfl hw' (.tail _ (.tail _ (.head _))):RT w' ta (Ja1 g.cl)).nil) (fun htn=>?_)
  obtain ⟨q1,rfl⟩:∃ q,ta=some q:=by cases ta with | none=>have:=htn rfl;omega | some q=>exact ⟨q,rfl⟩
  refine Zv ((OV.ad rfl rfl T.u27 T.z26 (by omega)).cast (u:=.pointer (some (q1.add (i*3)))) (by rw [Int.toNat_natCast])) (Zv (OV.ai (cs:=tmC t) rfl T.u26 rfl T.z26 (fun _ hw j v hj=>(RT.of_row (c:=tc) rfl hw (.tail _ (.tail _ (.head _))):RT _ (some q1) (Ja1 g.cl)).at_ q1 rfl i t ht j v hj)) (WL.alloc T.zr26 rfl ?_))
  intro b7
  refine WL.ag (vs:=tmC t) rfl rfl rfl T.z26 rfl ?_
  refine Nn (Csr (Zm rfl (Zv (OV.lN (cs:=tmC t) rfl T.u26 rfl T.z26 (.head _)) ?_)))
  have hdl:=dedV_len (Ja1 g.cl)
  refine WL.au (v:=.int .i64 (Jk8 (dedV (Ja1 g.cl)) t)) (by kernel_rfl) rfl rfl (fun w' hw'=>place_calls (dedV (Ja1 g.cl)) va vc t (by omega) w' (RT.of_row (c:=vc) rfl hw' (.tail _ (.tail _ (.head _))))) ?_
  refine Za rfl (Nn (Cs (Csr (Zm rfl (Zv (OV.jf rfl rfl) (Nn ?_))))))
  refine WC.ig [(1,.pointer (some ⟨b1,0,none⟩)),(2,.pointer (some ⟨b2,0,none⟩)),(3,.slice (some q1) (Ja1 g.cl).length tc),(4,.slice va (dedV (Ja1 g.cl)).length vc),(5,.slice oa out.length oc),(6,.int .i64 (i:Int)),(7,.pointer (some ⟨b7,0,none⟩))] (Sat0 w (oQ b7 (tmC (numT (dedV (Ja1 g.cl)) t)) 26::rowT oa oc out::rowT va vc (dedV (Ja1 g.cl))::rowT (some q1) tc (Ja1 g.cl)::oQ b2 (cgC ⟨⟨⟨T0,E0,[]⟩,none,0⟩,none,0,[],none,0,[]⟩) 32::oQ b1 (cgC g) 32::[])) ?_ ?_
  ·refine Cc rfl (fun c27=>?_) (fun c27=>?_)
   ·refine Cr (Zm rfl (Zv (OV.ao (xs:=[(0,.const (.int .i64 3)),(1,.tmp 28)]) (pl:=[(0,1),(1,1),(2,1)]) (cs:=tmC ⟨3,Jk8 (dedV (Ja1 g.cl)) t,E0⟩) T.u26 T.zr26 (by kernel_rfl) rfl (Jal (us:=[_]) rfl rfl (Nat.le_of_ble_eq_true rfl) (Jal (us:=[_]) rfl rfl (Nat.le_of_ble_eq_true rfl) rfl))) (WL.ag (vs:=tmC ⟨3,Jk8 (dedV (Ja1 g.cl)) t,E0⟩) rfl rfl rfl T.z26 rfl ?_)))
    refine Nl ?_
    have em:(numT (dedV (Ja1 g.cl)) t)=⟨3,Jk8 (dedV (Ja1 g.cl)) t,E0⟩:=by rw [numT_place,if_pos (by simpa using c27)]
    exact WX.dp Y7 (fun w' hw=>by rw [em];exact hw)
   refine Ck ?_
   have em:(numT (dedV (Ja1 g.cl)) t)=t:=by rw [numT_place,if_neg (by simpa using c27)]
   exact WX.dp Y7 (fun w' hw=>by rw [em];exact hw)
  refine Cr (Zm rfl (Zv (OV.lN (cs:=tmC (numT (dedV (Ja1 g.cl)) t)) rfl T.u26 rfl T.z26 (.head _)) (WL.bh (cs:=tmC (numT (dedV (Ja1 g.cl)) t)) T.u27 T.z26 T.zr26 rfl rfl (by omega) (by omega) rfl ?_)))
  intro bb32
  refine WL.focus (ow':=rowT oa oc out::oQ bb32 (tmC (numT (dedV (Ja1 g.cl)) t)) 26::oQ b7 (tmC (numT (dedV (Ja1 g.cl)) t)) 26::rowT va vc (dedV (Ja1 g.cl))::rowT (some q1) tc (Ja1 g.cl)::oQ b2 (cgC ⟨⟨⟨T0,E0,[]⟩,none,0⟩,none,0,[],none,0,[]⟩) 32::oQ b1 (cgC g) 32::[]) (pmP [_,_,_,_,_,_,_] [2,0,1,3,4,5,6]) ?_
  refine WL.append (news:=tmC (numT (dedV (Ja1 g.cl)) t)) rfl rfl T.apT (fun _ _=>Jcs (.tail _ (.head _)) rfl) (Jf6 _) ⟨by omega,by unfold maxLen;omega⟩ rfl ?_
  intro a33 c33
  refine Za rfl (Nl (Xb (Xn (Cr (Zm rfl (Zv (OV.bi (j:=1) rfl rfl (by omega)) (Za rfl (Nl ?_))))))))
  have el:out.length+1=(out++[(numT (dedV (Ja1 g.cl)) t)]).length:=by simp
  have ef:out.flatMap tmC++tmC (numT (dedV (Ja1 g.cl)) t)=(out++[(numT (dedV (Ja1 g.cl)) t)]).flatMap tmC:=by simp
  rw [el,ef]
  exact WX.ce (i+1) a33 c33 (out++[(numT (dedV (Ja1 g.cl)) t)]) Y6 (fun w' hw=>⟨⟨by omega,by simp [hol],by rw [Jb2 ht,List.map_append,hoe];rfl⟩,by
   exact hw.pik [[rowT a33 c33 (out++[(numT (dedV (Ja1 g.cl)) t)])],[oQ bb32 (tmC (numT (dedV (Ja1 g.cl)) t)) 26],[oQ b7 (tmC (numT (dedV (Ja1 g.cl)) t)) 26],[rowT va vc (dedV (Ja1 g.cl))],[rowT (some q1) tc (Ja1 g.cl)],[oQ b2 (cgC ⟨⟨⟨T0,E0,[]⟩,none,0⟩,none,0,[],none,0,[]⟩) 32],[oQ b1 (cgC g) 32]] [0,3,4,5,6] 7⟩) (by show (Ja1 g.cl).length - (i+1)<(Ja1 g.cl).length - i;omega)
 refine Ce (Xe (Xe (Xh (Xn (Cs ?_)))))
 rw [List.take_of_length_le (by omega)] at hoe
 have hol2:out.length=(Ja1 g.cl).length:=by rw [hoe,List.length_map]
 rw [hol2]
 refine Cr (Zv (OV.lN (cs:=cgC g) rfl T.u32 rfl T.z32 (.tail _ (.tail _ (.tail _ (.tail _ (.head _)))))) (Zm rfl (WL.cT (ι:=CG) (vs:=[cgV g,.slice oa (Ja1 g.cl).length oc]) (vv:=fun g'=>cgV g') (pp:=fun g'=>g'.cl=normC g.cl) [] (AA:=fun g'=>cgA g') rfl (fun w' hw' _=>(put_calls g (numT (dedV (Ja1 g.cl))) hm hl oa oc w' (hr.keeps hw'.keeps) (RT.of_row (c:=oc) (m:=out.length) rfl hw' (.head _) |> fun h=>by rw [← hoe];exact h)).mono (fun en w'' ⟨g',h1,h2,h3⟩=>⟨g',h1,h2,h3⟩)) ?_)))
 intro g' hg'
 refine WL.focus (ow':=oQ b2 (cgC ⟨⟨⟨T0,E0,[]⟩,none,0⟩,none,0,[],none,0,[]⟩) 32::(cgA g'++(rowT oa oc out::rowT va vc (dedV (Ja1 g.cl))::rowT ta tc (Ja1 g.cl)::oQ b1 (cgC g) 32::[]))) (pmC [cgA g',[rowT oa oc out],[rowT va vc (dedV (Ja1 g.cl))],[rowT ta tc (Ja1 g.cl)],[oQ b2 (cgC ⟨⟨⟨T0,E0,[]⟩,none,0⟩,none,0,[],none,0,[]⟩) 32],[oQ b1 (cgC g) 32]] [4,0,1,2,3,5]) ?_
 refine WL.ag (vs:=cgC g') rfl rfl rfl T.z32 rfl ?_
 refine Nn (WC.az ?_)
 refine WX.retC (cs:=cgC g') rfl rfl rfl T.u32 rfl T.z32 (fun w' hw j v hj=>Ja0 hw (.head _) j v hj) (fun w' hw=>⟨g',rfl,hg',?_⟩)
 exact (hw.pik [[oQ b2 (cgC g') 32],cgA g',[rowT oa oc out],[rowT va vc (dedV (Ja1 g.cl))],[rowT ta tc (Ja1 g.cl)],[oQ b1 (cgC g) 32]] [1] 6).turned0
theorem Jix (x:At):(Jaf x).args.length≤8:=by simp only [Jaf,List.length_map,List.length_take];omega
theorem bt_len (l:List At):(((l.take 8).map Jaf).flatMap plc).length≤72:=by
 have key:∀ m:List At,((m.map Jaf).flatMap plc).length≤9*m.length:=by
  intro m
  induction m with
  | nil=>simp
  | cons x m ih=>
   rw [List.map_cons,List.flatMap_cons,List.length_append,List.length_cons]
   have h1:(plc (Jaf x)).length=(Jaf x).args.length+1:=by simp [plc]
   have h2:=Jix x
   omega
 have h1:=key (l.take 8)
 have h2:(l.take 8).length≤8:=by rw [List.length_take];omega
 omega
theorem Jlz (l:List Tm)(i:Nat)(t:Tm)(h:i<l.length):(l.flatMap tmC).take (i*3)++tmC t++(l.flatMap tmC).drop (i*3+(tmC t).length)=(l.set i t).flatMap tmC:=by
 induction l generalizing i with
 | nil=>simp at h
 | cons u l ih=>
  cases i with
  | zero=>simp [tmC]
  | succ i=>
   have e:=ih i (by simpa using h)
   have hf:∀ (v:Tm) (m:List Tm),(v::m).flatMap tmC=.int .i64 v.kind::.int .i64 v.n::.string v.s::m.flatMap tmC:=fun _ _=>rfl
   rw [show (i+1)*3=i*3+1+1+1 by omega,show i*3+1+1+1+(tmC t).length=i*3+(tmC t).length+1+1+1 by omega,List.set_cons_succ,hf,hf,← e]
   simp only [List.take_succ_cons,List.drop_succ_cons,List.cons_append]
theorem cur_get {f:Tm→Tm}{l:List Tm}{i:Nat}{t:Tm}(h:l[i]?=some t):((l.take i).map f++l.drop i)[i]?=some t:=by
 have hl:=(List.getElem?_eq_some_iff.1 h).1
 rw [List.getElem?_append_right (by rw [List.length_map,List.length_take];omega),List.length_map,List.length_take,show i - min i l.length=0 by omega,List.getElem?_drop]
 exact h
theorem cur_set {f:Tm→Tm}{l:List Tm}{i:Nat}{t:Tm}(h:l[i]?=some t):((l.take i).map f++l.drop i).set i (f t)=(l.take (i+1)).map f++l.drop (i+1):=by
 have hl:=(List.getElem?_eq_some_iff.1 h).1
 rw [List.set_append_right _ _ (by rw [List.length_map,List.length_take];omega),List.length_map,List.length_take,show i - min i l.length=0 by omega,Jfy h,List.set_cons_zero,Jb2 h,List.map_append,List.append_assoc]
 rfl
theorem Jgg (f:Tm→Tm)(l:List Tm)(i:Nat):((l.take i).map f++l.drop i).length=l.length:=by
 rw [List.length_append,List.length_map,List.length_take,List.length_drop];omega
theorem cur_len3 (f:Tm→Tm)(l:List Tm)(i:Nat):(((l.take i).map f++l.drop i).flatMap tmC).length=l.length*3:=by
 rw [Jc1 Jcu,Jgg]
theorem made0_len (c:Cl):(Ja1 (made0 c)).length≤97:=by
 rw [Jf7]
 have h1:=Jix c.hd
 have h2:=bt_len c.bd
 have e1:(plc (made0 c).hd).length=(Jaf c.hd).args.length+1:=by simp [plc,made0]
 have e2:Jcf (made0 c)=((c.bd.take 8).map Jaf).flatMap plc:=rfl
 have e3:(made0 c).ts.length≤8:=by simp only [made0,List.length_map,List.length_take];omega
 rw [e2]
 omega
set_option maxHeartbeats 2000000 in
theorem made_calls (g:CG)(hs:∀ y,y=g.hd∨y∈g.bd→y.x.args.length≤1048576∧y.x.name.size≤1099511627776)(hbl:g.bd.length≤1048576)(htl:g.ts.length≤1048576)(w:World)(hr:RC w g):Calls Tryz.prog 7 #[cgV g] w fun e w'=>∃ g':CG,e=.returned (cgV g')∧g'.cl=madeC g.cl∧Turns [] (cgA g') w w':=by
 refine Jbl (args:=[cgV g]) (fun _=>False) Tryz.func7 rfl Tryz.ntmps7 rfl rfl ?_
 refine Csr (WL.box rfl rfl rfl ?_)
 intro b1
 refine WL.alloc T.zr32 rfl ?_
 intro b2
 refine Nn (Csr (WL.alloc T.zr32 rfl ?_))
 intro b3
 refine Nn (Cs (Csr (Za rfl (Nn ?_))))
 refine WC.mp (fun (z:Option Addr × Nat × List AG)=>[(1,.pointer (some ⟨b1,0,none⟩)),(2,.pointer (some ⟨b2,0,none⟩)),(3,.pointer (some ⟨b3,0,none⟩))]) (fun (z:Option Addr × Nat × List AG)=>fun w'=>(z.2.2.map AG.x=((g.cl.bd.take 8).map Jaf)∧z.2.2.length≤8)∧Sat0 w (oQ b3 (cgC ⟨⟨⟨T0,E0,[]⟩,none,0⟩,z.1,z.2.1,z.2.2,none,0,[]⟩) 32::oQ b2 (cgC ⟨⟨⟨T0,E0,[]⟩,none,0⟩,none,0,[],none,0,[]⟩) 32::oQ b1 (cgC g) 32::rowAt z.1 z.2.1 z.2.2::argsA z.2.2) w') ?_ ?_
 ·refine Cb (WC.weak (S':=Sat0 w (oQ b3 (cgC ⟨⟨⟨T0,E0,[]⟩,none,0⟩,none,0,[],none,0,[]⟩) 32::row 29 5 none 0 0 []::oQ b2 (cgC ⟨⟨⟨T0,E0,[]⟩,none,0⟩,none,0,[],none,0,[]⟩) 32::oQ b1 (cgC g) 32::[])) (fun w' hw=>(hw.rowNil 29 5).perm (pmP [_,_,_,_] [1,0,2,3])) ?_)
  refine WC.da (fun (i:Nat) (ba:Option Addr) (bc:Nat) (ys:List AG)=>[(1,.pointer (some ⟨b1,0,none⟩)),(2,.pointer (some ⟨b2,0,none⟩)),(3,.pointer (some ⟨b3,0,none⟩)),(4,.int .i64 (i:Int))])
    (fun i ba bc ys w'=>(i≤g.bd.length∧i≤8∧ys.length=i∧ys.map AG.x=(g.cl.bd.take i).map Jaf)∧Sat0 w (oQ b3 (cgC ⟨⟨⟨T0,E0,[]⟩,none,0⟩,ba,bc,ys,none,0,[]⟩) 32::rowAt ba bc ys::oQ b2 (cgC ⟨⟨⟨T0,E0,[]⟩,none,0⟩,none,0,[],none,0,[]⟩) 32::oQ b1 (cgC g) 32::argsA ys) w')
    (fun i _ _ _=>g.bd.length - i) 0 none 0 [] Y4 (fun w' hw=>⟨⟨by omega,by omega,rfl,rfl⟩,hw⟩) ?_
  intro i ba bc ys
  refine WC.pure (fun hi=>?_)
  obtain ⟨hi,hi8,hyl,hyx⟩:=hi
  refine Cs (Csr (Zm rfl (Zv (OV.f0 5 rfl T.u32 rfl) (Zv (OV.l1 (v:=.slice g.ba g.bd.length g.bc) rfl T.u22 rfl (.tail _ (.tail _ (.tail _ (.head _)))) rfl) (Zv (OV.ae rfl T.u22) (Zv (OV.cm rfl rfl) (Zm rfl ?_)))))))
  refine Zp (t:=13) rfl (fun g13=>?_) (fun g13=>?_)
  ·refine Zg rfl rfl rfl (Zm rfl (Zg rfl rfl rfl (Zv (OV.cm rfl rfl) (Zv (OV.am rfl rfl) (Nn ?_)))))
   refine Cc rfl (fun c16=>?_) (fun c16=>?_)
   ·refine Ck (Xn (Cs (Cb (Hd (fun w'=>w'.heap[b3]?=some (.cells (cgC ⟨⟨⟨T0,E0,[]⟩,none,0⟩,ba,bc,ys,none,0,[]⟩).toArray 32 (0,0))∧w'.heap[b1]?=some (.cells (cgC g).toArray 32 (0,0))∧Keeps w w') [11] (fun _ hw=>⟨hw.it (oQ b3 (cgC ⟨⟨⟨T0,E0,[]⟩,none,0⟩,ba,bc,ys,none,0,[]⟩) 32) (by simp),hw.it (oQ b1 (cgC g) 32) (by simp),hw.keeps⟩) (m:=12) rfl ?_))))
    refine Hf 0 rfl (OV.f0 5 rfl T.u32 rfl) (Ht 1 rfl (OV.ah (v:=.slice ba ys.length bc) rfl T.u22 rfl (fun _ hw=>(Jav hw.1 (o:=5) rfl).1)) (Hf 2 rfl (OV.f0 5 rfl T.u32 rfl) (Ht 3 rfl (OV.ah (v:=.slice g.ba g.bd.length g.bc) rfl T.u22 rfl (fun _ hw=>(Jav hw.2.1 (o:=5) rfl).1)) (Hf 4 rfl (OV.aw rfl) ?_))))
    obtain ⟨q1,y,hq,ht,htm,hra,hc⟩:=hr.bd.get (i:=i) (by omega)
    refine Hf 5 rfl ((OV.ad (show _=some (Value.slice (some q1) g.bd.length g.bc) by rw [← hq];rfl) rfl T.u22 T.z29 (by omega)).cast (u:=.pointer (some (q1.add (i*5)))) (by rw [Int.toNat_natCast])) (Ht 6 rfl (OV.ai (cs:=atC y.x y.a y.c) rfl T.u29 rfl T.z29 (fun _ hw j v hj=>hw.2.2 _ _ (hc j v hj))) (Ho 7 rfl (fl':=false) rfl ?_))
    have hsy:=hs y (Or.inr htm)
    refine WL.cT (ι:=Option Addr × Nat) (vs:=[atV y.x y.a y.c]) (vv:=fun z=>atV (Jaf y.x) z.1 z.2) (pp:=fun _=>True) [] (AA:=fun z=>[rowT z.1 z.2 (Jaf y.x).args]) rfl (fun w' hw' _=>(Jfu y.x y.a y.c hsy.1 hsy.2 w' (hra.keeps hw'.keeps)).mono (fun en w'' ⟨z,h1,h2⟩=>⟨z,h1,trivial,h2⟩)) ?_
    rintro ⟨qa,qc⟩ _
    refine Hc (fun _=>(fun _ hw=>⟨hw.it (oQ b3 (cgC ⟨⟨⟨T0,E0,[]⟩,none,0⟩,ba,bc,ys,none,0,[]⟩) 32) (by simp),hw.it (oQ b1 (cgC g) 32) (by simp),hw.keeps⟩)) ?_
    refine Ho 8 rfl (fl':=false) rfl ?_
    refine WL.bh (cs:=agC (⟨Jaf y.x,qa,qc⟩:AG)) T.u22 T.z29 T.zr29 rfl rfl (by omega) (by omega) rfl ?_
    intro b27
    refine Hc (fun _=>(fun _ hw=>⟨hw.it (oQ b3 (cgC ⟨⟨⟨T0,E0,[]⟩,none,0⟩,ba,bc,ys,none,0,[]⟩) 32) (by simp),hw.it (oQ b1 (cgC g) 32) (by simp),hw.keeps⟩)) ?_
    refine Ho 9 rfl (fl':=false) rfl ?_
    refine WL.focus (ow':=rowAt ba bc ys::oQ b27 (agC (⟨Jaf y.x,qa,qc⟩:AG)) 29::rowT qa qc (Jaf y.x).args::oQ b3 (cgC ⟨⟨⟨T0,E0,[]⟩,none,0⟩,ba,bc,ys,none,0,[]⟩) 32::oQ b2 (cgC ⟨⟨⟨T0,E0,[]⟩,none,0⟩,none,0,[],none,0,[]⟩) 32::oQ b1 (cgC g) 32::argsA ys) (pmP [_,_,_,_,_,_] [3,0,1,2,4,5]) ?_
    refine WL.append (news:=agC (⟨Jaf y.x,qa,qc⟩:AG)) rfl rfl T.apA (fun _ _=>Jcs (.tail _ (.head _)) rfl) (Jji _) ⟨by omega,by unfold maxLen;omega⟩ rfl ?_
    intro a28 c28
    refine Hc (fun _=>(fun _ hw=>⟨hw.it (oQ b3 (cgC ⟨⟨⟨T0,E0,[]⟩,none,0⟩,ba,bc,ys,none,0,[]⟩) 32) (by simp),hw.it (oQ b1 (cgC g) 32) (by simp),hw.keeps⟩)) ?_
    refine Hf 10 rfl (OV.f0 5 rfl T.u32 rfl) (Ho 11 rfl (fl':=true) rfl ?_)
    refine WL.focus (ow':=oQ b3 (cgC ⟨⟨⟨T0,E0,[]⟩,none,0⟩,ba,bc,ys,none,0,[]⟩) 32::rowAt a28 c28 (ys++[(⟨Jaf y.x,qa,qc⟩:AG)])::oQ b27 (agC (⟨Jaf y.x,qa,qc⟩:AG)) 29::rowT qa qc (Jaf y.x).args::oQ b2 (cgC ⟨⟨⟨T0,E0,[]⟩,none,0⟩,none,0,[],none,0,[]⟩) 32::oQ b1 (cgC g) 32::argsA ys) (by
     rw [show ys.length+1=(ys++[(⟨Jaf y.x,qa,qc⟩:AG)]).length by simp,show ys.flatMap agC++agC (⟨Jaf y.x,qa,qc⟩:AG)=(ys++[(⟨Jaf y.x,qa,qc⟩:AG)]).flatMap agC by simp]
     exact pmP [_,_,_,_,_,_] [3,0,1,2,4,5]) (WL.br (o:=5) rfl rfl rfl T.z22 (by show 5<7;omega) ?_)
    refine Hc (fun h=>by cases h) ?_
    refine He (Xb (Xn (Cr (Zm rfl (Zv (OV.bi (j:=1) rfl rfl (by omega)) (Za rfl (Nl ?_)))))))
    have hcy:g.cl.bd[i]?=some y.x:=by show (g.bd.map AG.x)[i]?=_;rw [List.getElem?_map,ht];rfl
    exact WX.ce (i+1) a28 c28 (ys++[(⟨Jaf y.x,qa,qc⟩:AG)]) Y4 (fun w' hw=>⟨⟨by omega,by omega,by simp [hyl],by rw [Jb2 hcy,List.map_append,List.map_append,hyx];rfl⟩,by
     rw [Ji2]
     rw [show ys.length+1=(ys++[(⟨Jaf y.x,qa,qc⟩:AG)]).length by simp] at hw
     refine Hw.Sat.pick [[oQ b3 (cgC ⟨⟨⟨T0,E0,[]⟩,none,0⟩,a28,c28,(ys++[(⟨Jaf y.x,qa,qc⟩:AG)]),none,0,[]⟩) 32],[rowAt a28 c28 (ys++[(⟨Jaf y.x,qa,qc⟩:AG)])],[oQ b27 (agC (⟨Jaf y.x,qa,qc⟩:AG)) 29],[rowT qa qc (Jaf y.x).args],[oQ b2 (cgC ⟨⟨⟨T0,E0,[]⟩,none,0⟩,none,0,[],none,0,[]⟩) 32],[oQ b1 (cgC g) 32],argsA ys] [0,1,4,5,6,3] 7 rfl (by decide) (by decide) ?_
     exact hw⟩) (by show g.bd.length - (i+1)<g.bd.length - i;omega)
   refine Ce (Xe (Xe (Xh ?_)))
   have e8:g.cl.bd.take 8=g.cl.bd.take i:=by
    have hcl:g.cl.bd.length=g.bd.length:=by simp [CG.cl]
    rcases Nat.lt_or_ge i 8 with h | h
    ·rw [List.take_of_length_le (by omega),List.take_of_length_le (by omega)]
    ·rw [show i=8 by omega]
   exact WX.fi (ba,bc,ys) Y3 (fun w' hw=>⟨⟨by rw [e8];exact hyx,by show ys.length≤8;omega⟩,hw.perm (pmP [_,_,_,_] [0,2,3,1])⟩)
  refine Zs rfl rfl rfl (Zs rfl rfl rfl (Zv (OV.aj rfl rfl) (Nn (WC.bu (show _=some (Value.bool false) from by rfl) ?_))))
  refine Ce (Xe (Xe (Xh ?_)))
  have e8:g.cl.bd.take 8=g.cl.bd.take i:=by
   have hcl:g.cl.bd.length=g.bd.length:=by simp [CG.cl]
   rcases Nat.lt_or_ge i 8 with h | h
   ·rw [List.take_of_length_le (by omega),List.take_of_length_le (by omega)]
   ·rw [show i=8 by omega]
  exact WX.fi (ba,bc,ys) Y3 (fun w' hw=>⟨⟨by rw [e8];exact hyx,by show ys.length≤8;omega⟩,hw.perm (pmP [_,_,_,_] [0,2,3,1])⟩)
 rintro ⟨ba,bc,ys⟩
 refine WC.pure (fun hyy=>?_)
 obtain ⟨hyx,hyl⟩:ys.map AG.x=((g.cl.bd.take 8).map Jaf)∧ys.length≤8:=hyy
 refine Csr (Zv (OV.lN (cs:=cgC ⟨⟨⟨T0,E0,[]⟩,none,0⟩,ba,bc,ys,none,0,[]⟩) rfl T.u32 rfl T.z32 (.head _)) ?_)
 have hbt:Jcf (CG.cl ⟨⟨⟨T0,E0,[]⟩,none,0⟩,ba,bc,ys,none,0,[]⟩)=(((g.cl.bd.take 8).map Jaf).flatMap plc):=by rw [show Jcf (CG.cl ⟨⟨⟨T0,E0,[]⟩,none,0⟩,ba,bc,ys,none,0,[]⟩)=(ys.map AG.x).flatMap plc from rfl,hyx]
 have h72:=bt_len g.cl.bd
 refine WL.cT (ι:=Option Addr × Nat) (vs:=[cgV ⟨⟨⟨T0,E0,[]⟩,none,0⟩,ba,bc,ys,none,0,[]⟩]) (vv:=fun z=>.slice z.1 (((g.cl.bd.take 8).map Jaf).flatMap plc).length z.2) (pp:=fun _=>True) [] (AA:=fun z=>[rowT z.1 z.2 (((g.cl.bd.take 8).map Jaf).flatMap plc)]) rfl (fun w' hw' _=>?_) ?_
 ·have h9:=bodyTerms_calls ⟨⟨⟨T0,E0,[]⟩,none,0⟩,ba,bc,ys,none,0,[]⟩ (by rw [hbt];omega) (by show ys.length≤_;omega) w' ⟨RT.nil0 _,RA.of_row hw' (fun i hi=>.tail _ (.tail _ (.tail _ hi))),⟨fun _=>rfl,fun q hq=>by cases hq⟩⟩
  rw [hbt] at h9
  exact h9.mono (fun en w'' ⟨z,h1,h2⟩=>⟨z,h1,trivial,h2⟩)
 rintro ⟨la,lc⟩ _
 refine WL.focus (ow':=oQ b3 (cgC ⟨⟨⟨T0,E0,[]⟩,none,0⟩,ba,bc,ys,none,0,[]⟩) 32::rowT la lc (((g.cl.bd.take 8).map Jaf).flatMap plc)::oQ b2 (cgC ⟨⟨⟨T0,E0,[]⟩,none,0⟩,none,0,[],none,0,[]⟩) 32::oQ b1 (cgC g) 32::rowAt ba bc ys::argsA ys) (pmP [_,_,_,_] [1,0,2,3]) ?_
 refine Za rfl (Nn (Csr (Zv (OV.f0 0 rfl T.u32 rfl) (Zv (OV.ai (cs:=atC g.hd.x g.hd.a g.hd.c) rfl T.u29 rfl T.z29 (fun _ hw j v hj=>by rw [Jap];exact Jbo hw (.tail _ (.tail _ (.tail _ (.head _)))) (o:=0) (cs':=atC g.hd.x g.hd.a g.hd.c) rfl j v hj)) ?_))))
 have hsh:=hs g.hd (Or.inl rfl)
 refine WL.cT (ι:=Option Addr × Nat) (vs:=[atV g.hd.x g.hd.a g.hd.c]) (vv:=fun z=>atV (Jaf g.hd.x) z.1 z.2) (pp:=fun _=>True) [] (AA:=fun z=>[rowT z.1 z.2 (Jaf g.hd.x).args]) rfl (fun w' hw' _=>(Jfu g.hd.x g.hd.a g.hd.c hsh.1 hsh.2 w' (hr.hd.keeps hw'.keeps)).mono (fun en w'' ⟨z,h1,h2⟩=>⟨z,h1,trivial,h2⟩)) ?_
 rintro ⟨ha,hac⟩ _
 refine WL.focus (ow':=oQ b3 (cgC ⟨⟨⟨T0,E0,[]⟩,none,0⟩,ba,bc,ys,none,0,[]⟩) 32::rowT ha hac (Jaf g.hd.x).args::rowT la lc (((g.cl.bd.take 8).map Jaf).flatMap plc)::oQ b2 (cgC ⟨⟨⟨T0,E0,[]⟩,none,0⟩,none,0,[],none,0,[]⟩) 32::oQ b1 (cgC g) 32::rowAt ba bc ys::argsA ys) (pmP [_,_,_,_,_] [1,0,2,3,4]) ?_
 refine Zv (OV.f0 0 rfl T.u32 rfl) (WL.kw (o:=0) (vs:=atC (Jaf g.hd.x) ha hac) rfl rfl rfl T.z29 (Nat.le_of_ble_eq_true rfl) ?_)
 refine Nn (Cs (Csr (Zv (OV.f0 0 rfl T.u32 rfl) (Zv (OV.f0 0 rfl T.u29 rfl) (Zv (OV.f0 0 rfl T.u26 rfl) (Zv (OV.l1 (v:=.int .i64 (Jaf g.hd.x).b.kind) rfl T.u3 rfl (.head _) rfl) (Zv (OV.d0 rfl rfl) (Nn ?_))))))))
 refine WC.ig [(1,.pointer (some ⟨b1,0,none⟩)),(2,.pointer (some ⟨b2,0,none⟩)),(3,.pointer (some ⟨b3,0,none⟩)),(5,.slice la (((g.cl.bd.take 8).map Jaf).flatMap plc).length lc)] (Sat0 w (oQ b3 (cgC ⟨⟨⟨nvB (Jaf g.hd.x).b,(Jaf g.hd.x).name,(Jaf g.hd.x).args⟩,ha,hac⟩,ba,bc,ys,none,0,[]⟩) 32::rowT ha hac (Jaf g.hd.x).args::rowT la lc (((g.cl.bd.take 8).map Jaf).flatMap plc)::oQ b2 (cgC ⟨⟨⟨T0,E0,[]⟩,none,0⟩,none,0,[],none,0,[]⟩) 32::oQ b1 (cgC g) 32::rowAt ba bc ys::argsA ys)) ?_ ?_
 ·refine Cc rfl (fun c40=>?_) (fun c40=>?_)
  ·refine Cr (Zv (OV.ao (xs:=[]) (pl:=[(0,1),(1,1),(2,1)]) (cs:=tmC T0) T.u26 T.zr26 (by kernel_rfl) rfl rfl) (Zv (OV.f0 0 rfl T.u32 rfl) (Zv (OV.f0 0 rfl T.u29 rfl) (WL.kw (o:=0) (vs:=tmC T0) rfl rfl rfl T.z26 (Nat.le_of_ble_eq_true rfl) ?_))))
   refine Nl ?_
   have em:nvB (Jaf g.hd.x).b=T0:=by unfold nvB;rw [if_pos (by simpa using c40)]
   exact WX.dp Y4 (fun w' hw=>by rw [em];exact hw)
  refine Ck ?_
  have em:nvB (Jaf g.hd.x).b=(Jaf g.hd.x).b:=by unfold nvB;rw [if_neg (by simpa using c40)]
  exact WX.dp Y4 (fun w' hw=>by rw [em];exact hw)
 refine Cs (Csr (Za rfl (Nn (Cb ?_))))
 have hha:=Jix g.hd.x
 refine WC.mq (fun w' hw=>(fun hp=>Jeh (hw.it (rowT ha hac (Jaf g.hd.x).args) (.tail _ (.head _))) hp:0<(Jaf g.hd.x).args.length→∃ q,ha=some ⟨q,0,none⟩)) (fun hqa=>?_)
 refine WC.cg (fun (i:Nat)=>[(1,.pointer (some ⟨b1,0,none⟩)),(2,.pointer (some ⟨b2,0,none⟩)),(3,.pointer (some ⟨b3,0,none⟩)),(5,.slice la (((g.cl.bd.take 8).map Jaf).flatMap plc).length lc),(6,.int .i64 (i:Int))])
   (fun i w'=>i≤(Jaf g.hd.x).args.length∧Sat0 w (oQ b3 (cgC ⟨⟨⟨nvB (Jaf g.hd.x).b,(Jaf g.hd.x).name,(((Jaf g.hd.x).args.take i).map (safeT (((g.cl.bd.take 8).map Jaf).flatMap plc))++(Jaf g.hd.x).args.drop i)⟩,ha,hac⟩,ba,bc,ys,none,0,[]⟩) 32::rowT ha hac (((Jaf g.hd.x).args.take i).map (safeT (((g.cl.bd.take 8).map Jaf).flatMap plc))++(Jaf g.hd.x).args.drop i)::rowT la lc (((g.cl.bd.take 8).map Jaf).flatMap plc)::oQ b2 (cgC ⟨⟨⟨T0,E0,[]⟩,none,0⟩,none,0,[],none,0,[]⟩) 32::oQ b1 (cgC g) 32::rowAt ba bc ys::argsA ys) w')
   (fun i=>(Jaf g.hd.x).args.length - i) 0 Y5 (fun w' hw=>⟨by omega,hw⟩) ?_
 intro i
 refine WC.pure (fun hi=>?_)
 have hcl:=Jgg (safeT (((g.cl.bd.take 8).map Jaf).flatMap plc)) (Jaf g.hd.x).args i
 refine Cs (Csr (Zm rfl (Zv (OV.f0 0 rfl T.u32 rfl) (Zv (OV.f0 4 rfl T.u29 rfl) (Zv (OV.ah (v:=.slice ha (((Jaf g.hd.x).args.take i).map (safeT (((g.cl.bd.take 8).map Jaf).flatMap plc))++(Jaf g.hd.x).args.drop i).length hac) rfl T.u27 rfl (fun _ hw=>(Jav (hw.it _ (.head _)) (o:=4) rfl).1)) (Zv (OV.ae rfl T.u27) (Zv (OV.cm rfl rfl) (Nn ?_))))))))
 refine Cc rfl (fun c49=>?_) (fun c49=>?_)
 ·refine Ck (Xn (Cs (Cb (Hd (fun w'=>w'.heap[b3]?=some (.cells (cgC ⟨⟨⟨nvB (Jaf g.hd.x).b,(Jaf g.hd.x).name,(((Jaf g.hd.x).args.take i).map (safeT (((g.cl.bd.take 8).map Jaf).flatMap plc))++(Jaf g.hd.x).args.drop i)⟩,ha,hac⟩,ba,bc,ys,none,0,[]⟩).toArray 32 (0,0))∧(rowT ha hac (((Jaf g.hd.x).args.take i).map (safeT (((g.cl.bd.take 8).map Jaf).flatMap plc))++(Jaf g.hd.x).args.drop i)).φ w') [13] (fun _ hw=>⟨hw.it (oQ b3 (cgC ⟨⟨⟨nvB (Jaf g.hd.x).b,(Jaf g.hd.x).name,(((Jaf g.hd.x).args.take i).map (safeT (((g.cl.bd.take 8).map Jaf).flatMap plc))++(Jaf g.hd.x).args.drop i)⟩,ha,hac⟩,ba,bc,ys,none,0,[]⟩) 32) (by simp),hw.it (rowT ha hac (((Jaf g.hd.x).args.take i).map (safeT (((g.cl.bd.take 8).map Jaf).flatMap plc))++(Jaf g.hd.x).args.drop i)) (by simp)⟩) (m:=14) rfl ?_))))
  refine Hf 0 rfl (OV.f0 0 rfl T.u32 rfl) (Hf 1 rfl (OV.f0 4 rfl T.u29 rfl) (Ht 2 rfl (OV.ah (v:=.slice ha (((Jaf g.hd.x).args.take i).map (safeT (((g.cl.bd.take 8).map Jaf).flatMap plc))++(Jaf g.hd.x).args.drop i).length hac) rfl T.u27 rfl (fun _ hw=>(Jav hw.1 (o:=4) rfl).1)) (Hf 3 rfl (OV.aw rfl) (Hf 4 rfl (OV.aw rfl) (Hf 5 rfl (OV.f0 0 rfl T.u32 rfl) (Hf 6 rfl (OV.f0 4 rfl T.u29 rfl) (Ht 7 rfl (OV.ah (v:=.slice ha (((Jaf g.hd.x).args.take i).map (safeT (((g.cl.bd.take 8).map Jaf).flatMap plc))++(Jaf g.hd.x).args.drop i).length hac) rfl T.u27 rfl (fun _ hw=>(Jav hw.1 (o:=4) rfl).1)) (Hf 8 rfl (OV.aw rfl) ?_))))))))
  obtain ⟨t,ht⟩:∃ t,(Jaf g.hd.x).args[i]?=some t:=⟨_,List.getElem?_eq_getElem (by omega)⟩
  obtain ⟨qh,hqh⟩:=hqa (by omega)
  refine Hf 9 rfl ((OV.ad (show _=some (Value.slice (some ⟨qh,0,none⟩) (((Jaf g.hd.x).args.take i).map (safeT (((g.cl.bd.take 8).map Jaf).flatMap plc))++(Jaf g.hd.x).args.drop i).length hac) by rw [← hqh];rfl) rfl T.u27 T.z26 (by rw [Jgg];omega)).cast (u:=.pointer (some ⟨qh,i*3,none⟩)) (by rw [Int.toNat_natCast,Jap,Nat.zero_add])) ?_
  refine Ht 10 rfl (OV.ai (cs:=tmC t) rfl T.u26 rfl T.z26 (fun _ hw j v hj=>by have hj3:j<3:=(List.getElem?_eq_some_iff.1 hj).1;have h:=Jck hqh hw.2 (i*3+j) v (by rw [Jco Jcu _ i j t (cur_get ht) (by omega)];exact hj);rwa [Jap,Nat.zero_add,← Jap] at h)) ?_
  refine Ho 11 rfl (fl':=false) rfl ?_
  refine WL.au (v:=tmV (safeT (((g.cl.bd.take 8).map Jaf).flatMap plc) t)) (by kernel_rfl) rfl rfl (fun w' hw'=>Jj3 (((g.cl.bd.take 8).map Jaf).flatMap plc) la lc t (by omega) w' (RT.of_row (c:=lc) rfl hw' (.tail _ (.tail _ (.head _))))) ?_
  refine Hc (fun _=>(fun _ hw=>⟨hw.it (oQ b3 (cgC ⟨⟨⟨nvB (Jaf g.hd.x).b,(Jaf g.hd.x).name,(((Jaf g.hd.x).args.take i).map (safeT (((g.cl.bd.take 8).map Jaf).flatMap plc))++(Jaf g.hd.x).args.drop i)⟩,ha,hac⟩,ba,bc,ys,none,0,[]⟩) 32) (by simp),hw.it (rowT ha hac (((Jaf g.hd.x).args.take i).map (safeT (((g.cl.bd.take 8).map Jaf).flatMap plc))++(Jaf g.hd.x).args.drop i)) (by simp)⟩)) ?_
  refine Hf 12 rfl ((OV.ad (show _=some (Value.slice (some ⟨qh,0,none⟩) (((Jaf g.hd.x).args.take i).map (safeT (((g.cl.bd.take 8).map Jaf).flatMap plc))++(Jaf g.hd.x).args.drop i).length hac) by rw [← hqh];rfl) rfl T.u27 T.z26 (by rw [Jgg];omega)).cast (u:=.pointer (some ⟨qh,i*3,none⟩)) (by rw [Int.toNat_natCast,Jap,Nat.zero_add])) (Ho 13 rfl (fl':=true) rfl ?_)
  refine WL.focus perm1 (WL.ia (vs:=tmC (safeT (((g.cl.bd.take 8).map Jaf).flatMap plc) t)) (o:=i*3) rfl hqh rfl rfl T.z26 (by rw [cur_len3];show i*3+3≤_;omega) ?_)
  refine Hc (fun h=>by cases h) ?_
  refine He (Xb (Xn (Cr (Zm rfl (Zv (OV.bi (j:=1) rfl rfl (by omega)) (Za rfl (Nl ?_)))))))
  have hfp:=Jlz (((Jaf g.hd.x).args.take i).map (safeT (((g.cl.bd.take 8).map Jaf).flatMap plc))++(Jaf g.hd.x).args.drop i) i (safeT (((g.cl.bd.take 8).map Jaf).flatMap plc) t) (by omega)
  rw [hfp,cur_set ht]
  exact WX.bg (i+1) Y5 (fun w' hw=>⟨by omega,by
   have hl1:=Jgg (safeT (((g.cl.bd.take 8).map Jaf).flatMap plc)) (Jaf g.hd.x).args (i+1)
   rw [hcl,← hl1] at hw
   have hce:cgC ⟨⟨⟨nvB (Jaf g.hd.x).b,(Jaf g.hd.x).name,(((Jaf g.hd.x).args.take i).map (safeT (((g.cl.bd.take 8).map Jaf).flatMap plc))++(Jaf g.hd.x).args.drop i)⟩,ha,hac⟩,ba,bc,ys,none,0,[]⟩=cgC ⟨⟨⟨nvB (Jaf g.hd.x).b,(Jaf g.hd.x).name,(((Jaf g.hd.x).args.take (i+1)).map (safeT (((g.cl.bd.take 8).map Jaf).flatMap plc))++(Jaf g.hd.x).args.drop (i+1))⟩,ha,hac⟩,ba,bc,ys,none,0,[]⟩:=by unfold cgC;simp only [Jgg]
   rw [← hce]
   exact hw.perm perm1⟩) (by show (Jaf g.hd.x).args.length - (i+1)<(Jaf g.hd.x).args.length - i;omega)
 refine Ce (Xe (Xe (Xh (Xn (Cs (Csr (Za rfl (Nn ?_))))))))
 refine WC.mp (fun (z:Option Addr × Nat × List Ts)=>[(1,.pointer (some ⟨b1,0,none⟩)),(2,.pointer (some ⟨b2,0,none⟩)),(3,.pointer (some ⟨b3,0,none⟩)),(5,.slice la (((g.cl.bd.take 8).map Jaf).flatMap plc).length lc)]) (fun (z:Option Addr × Nat × List Ts)=>fun w'=>(z.2.2=(g.cl.ts.take 8).map (Jfb (((g.cl.bd.take 8).map Jaf).flatMap plc)))∧Sat0 w (oQ b3 (cgC ⟨⟨⟨nvB (Jaf g.hd.x).b,(Jaf g.hd.x).name,(Jaf g.hd.x).args.map (safeT (((g.cl.bd.take 8).map Jaf).flatMap plc))⟩,ha,hac⟩,ba,bc,ys,z.1,z.2.1,z.2.2⟩) 32::rowS z.1 z.2.1 z.2.2::rowT ha hac ((Jaf g.hd.x).args.map (safeT (((g.cl.bd.take 8).map Jaf).flatMap plc)))::rowT la lc (((g.cl.bd.take 8).map Jaf).flatMap plc)::oQ b2 (cgC ⟨⟨⟨T0,E0,[]⟩,none,0⟩,none,0,[],none,0,[]⟩) 32::oQ b1 (cgC g) 32::rowAt ba bc ys::argsA ys) w') ?_ ?_
 ·refine Cb ?_
  have hcm:(((Jaf g.hd.x).args.take i).map (safeT (((g.cl.bd.take 8).map Jaf).flatMap plc))++(Jaf g.hd.x).args.drop i)=(Jaf g.hd.x).args.map (safeT (((g.cl.bd.take 8).map Jaf).flatMap plc)):=by
   have e1:(Jaf g.hd.x).args.take i=(Jaf g.hd.x).args:=List.take_of_length_le (by omega)
   have e2:(Jaf g.hd.x).args.drop i=[]:=List.drop_eq_nil_of_le (by omega)
   rw [e1,e2,List.append_nil]
  rw [hcm]
  refine WC.weak (S':=Sat0 w (oQ b3 (cgC ⟨⟨⟨nvB (Jaf g.hd.x).b,(Jaf g.hd.x).name,(Jaf g.hd.x).args.map (safeT (((g.cl.bd.take 8).map Jaf).flatMap plc))⟩,ha,hac⟩,ba,bc,ys,none,0,[]⟩) 32::row 61 7 none 0 0 []::rowT ha hac ((Jaf g.hd.x).args.map (safeT (((g.cl.bd.take 8).map Jaf).flatMap plc)))::rowT la lc (((g.cl.bd.take 8).map Jaf).flatMap plc)::oQ b2 (cgC ⟨⟨⟨T0,E0,[]⟩,none,0⟩,none,0,[],none,0,[]⟩) 32::oQ b1 (cgC g) 32::rowAt ba bc ys::argsA ys)) (fun w' hw=>(hw.rowNil 61 7).perm (pmP [_,_,_,_,_,_] [1,0,2,3,4,5])) ?_
  clear hi
  refine WC.da (fun (i:Nat) (ta:Option Addr) (tc:Nat) (us:List Ts)=>[(1,.pointer (some ⟨b1,0,none⟩)),(2,.pointer (some ⟨b2,0,none⟩)),(3,.pointer (some ⟨b3,0,none⟩)),(5,.slice la (((g.cl.bd.take 8).map Jaf).flatMap plc).length lc),(7,.int .i64 (i:Int))])
    (fun i ta tc us w'=>(i≤g.ts.length∧i≤8∧us.length=i∧us=(g.ts.take i).map (Jfb (((g.cl.bd.take 8).map Jaf).flatMap plc)))∧Sat0 w (oQ b3 (cgC ⟨⟨⟨nvB (Jaf g.hd.x).b,(Jaf g.hd.x).name,(Jaf g.hd.x).args.map (safeT (((g.cl.bd.take 8).map Jaf).flatMap plc))⟩,ha,hac⟩,ba,bc,ys,ta,tc,us⟩) 32::rowS ta tc us::rowT ha hac ((Jaf g.hd.x).args.map (safeT (((g.cl.bd.take 8).map Jaf).flatMap plc)))::rowT la lc (((g.cl.bd.take 8).map Jaf).flatMap plc)::oQ b2 (cgC ⟨⟨⟨T0,E0,[]⟩,none,0⟩,none,0,[],none,0,[]⟩) 32::oQ b1 (cgC g) 32::rowAt ba bc ys::argsA ys) w')
    (fun i _ _ _=>g.ts.length - i) 0 none 0 [] Y5 (fun w' hw=>⟨⟨by omega,by omega,rfl,rfl⟩,hw⟩) ?_
  intro i ta tc us
  refine WC.pure (fun hi=>?_)
  obtain ⟨hi,hi8,hul,hue⟩:=hi
  refine Cs (Csr (Zm rfl (Zv (OV.f0 6 rfl T.u32 rfl) (Zv (OV.ah (v:=.slice g.ta g.ts.length g.tc) rfl T.u30 rfl (fun _ hw=>(Jav (hw.it _ (.tail _ (.tail _ (.tail _ (.tail _ (.tail _ (.head _))))))) (o:=6) rfl).1)) (Zv (OV.ae rfl T.u30) (Zv (OV.cm rfl rfl) (Zm rfl ?_)))))))
  refine Zp (t:=70) rfl (fun g70=>?_) (fun g70=>?_)
  ·refine Zg rfl rfl rfl (Zm rfl (Zg rfl rfl rfl (Zv (OV.cm rfl rfl) (Zv (OV.am rfl rfl) (Nn ?_)))))
   refine Cc rfl (fun c73=>?_) (fun c73=>?_)
   ·refine Ck (Xn (Cs (Cb (Hd (fun w'=>w'.heap[b3]?=some (.cells (cgC ⟨⟨⟨nvB (Jaf g.hd.x).b,(Jaf g.hd.x).name,(Jaf g.hd.x).args.map (safeT (((g.cl.bd.take 8).map Jaf).flatMap plc))⟩,ha,hac⟩,ba,bc,ys,ta,tc,us⟩).toArray 32 (0,0))∧w'.heap[b1]?=some (.cells (cgC g).toArray 32 (0,0))∧Keeps w w') [12] (fun _ hw=>⟨hw.it (oQ b3 (cgC ⟨⟨⟨nvB (Jaf g.hd.x).b,(Jaf g.hd.x).name,(Jaf g.hd.x).args.map (safeT (((g.cl.bd.take 8).map Jaf).flatMap plc))⟩,ha,hac⟩,ba,bc,ys,ta,tc,us⟩) 32) (by simp),hw.it (oQ b1 (cgC g) 32) (by simp),hw.keeps⟩) (m:=13) rfl ?_))))
    refine Hf 0 rfl (OV.f0 6 rfl T.u32 rfl) (Ht 1 rfl (OV.ah (v:=.slice ta us.length tc) rfl T.u30 rfl (fun _ hw=>(Jav hw.1 (o:=6) rfl).1)) (Hf 2 rfl (OV.f0 6 rfl T.u32 rfl) (Ht 3 rfl (OV.ah (v:=.slice g.ta g.ts.length g.tc) rfl T.u30 rfl (fun _ hw=>(Jav hw.2.1 (o:=6) rfl).1)) (Hf 4 rfl (OV.aw rfl) ?_))))
    obtain ⟨q1,t,hq,ht,htm,hc⟩:=hr.ts.get (i:=i) (by omega)
    refine Hf 5 rfl ((OV.ad (show _=some (Value.slice (some q1) g.ts.length g.tc) by rw [← hq];rfl) rfl T.u30 T.z61 (by omega)).cast (u:=.pointer (some (q1.add (i*7)))) (by rw [Int.toNat_natCast])) (Ht 6 rfl (OV.ai (cs:=tsC t) rfl T.u61 rfl T.z61 (fun _ hw j v hj=>hw.2.2 _ _ (hc j v hj))) (Hf 7 rfl (OV.aw rfl) (Ho 8 rfl (fl':=false) rfl ?_)))
    refine WL.au (v:=tsV (Jfb (((g.cl.bd.take 8).map Jaf).flatMap plc) t)) (by kernel_rfl) rfl rfl (fun w' hw'=>madeTest_calls t (((g.cl.bd.take 8).map Jaf).flatMap plc) la lc (by omega) w' (RT.of_row (c:=lc) rfl hw' (.tail _ (.tail _ (.tail _ (.head _)))))) ?_
    refine Hc (fun _=>(fun _ hw=>⟨hw.it (oQ b3 (cgC ⟨⟨⟨nvB (Jaf g.hd.x).b,(Jaf g.hd.x).name,(Jaf g.hd.x).args.map (safeT (((g.cl.bd.take 8).map Jaf).flatMap plc))⟩,ha,hac⟩,ba,bc,ys,ta,tc,us⟩) 32) (by simp),hw.it (oQ b1 (cgC g) 32) (by simp),hw.keeps⟩)) ?_
    refine Ho 9 rfl (fl':=false) rfl ?_
    refine WL.bh (cs:=tsC (Jfb (((g.cl.bd.take 8).map Jaf).flatMap plc) t)) T.u30 T.z61 T.zr61 rfl rfl (by omega) (by omega) rfl ?_
    intro b85
    refine Hc (fun _=>(fun _ hw=>⟨hw.it (oQ b3 (cgC ⟨⟨⟨nvB (Jaf g.hd.x).b,(Jaf g.hd.x).name,(Jaf g.hd.x).args.map (safeT (((g.cl.bd.take 8).map Jaf).flatMap plc))⟩,ha,hac⟩,ba,bc,ys,ta,tc,us⟩) 32) (by simp),hw.it (oQ b1 (cgC g) 32) (by simp),hw.keeps⟩)) ?_
    refine Ho 10 rfl (fl':=false) rfl ?_
    refine WL.focus (ow':=rowS ta tc us::oQ b85 (tsC (Jfb (((g.cl.bd.take 8).map Jaf).flatMap plc) t)) 61::oQ b3 (cgC ⟨⟨⟨nvB (Jaf g.hd.x).b,(Jaf g.hd.x).name,(Jaf g.hd.x).args.map (safeT (((g.cl.bd.take 8).map Jaf).flatMap plc))⟩,ha,hac⟩,ba,bc,ys,ta,tc,us⟩) 32::rowT ha hac ((Jaf g.hd.x).args.map (safeT (((g.cl.bd.take 8).map Jaf).flatMap plc)))::rowT la lc (((g.cl.bd.take 8).map Jaf).flatMap plc)::oQ b2 (cgC ⟨⟨⟨T0,E0,[]⟩,none,0⟩,none,0,[],none,0,[]⟩) 32::oQ b1 (cgC g) 32::rowAt ba bc ys::argsA ys) (pmP [_,_,_,_,_,_,_] [2,0,1,3,4,5,6]) ?_
    refine WL.append (news:=tsC (Jfb (((g.cl.bd.take 8).map Jaf).flatMap plc) t)) rfl rfl T.apS (fun _ _=>Jcs (.tail _ (.head _)) rfl) (Jn0 _) ⟨by omega,by unfold maxLen;omega⟩ rfl ?_
    intro a86 c86
    refine Hc (fun _=>(fun _ hw=>⟨hw.it (oQ b3 (cgC ⟨⟨⟨nvB (Jaf g.hd.x).b,(Jaf g.hd.x).name,(Jaf g.hd.x).args.map (safeT (((g.cl.bd.take 8).map Jaf).flatMap plc))⟩,ha,hac⟩,ba,bc,ys,ta,tc,us⟩) 32) (by simp),hw.it (oQ b1 (cgC g) 32) (by simp),hw.keeps⟩)) ?_
    refine Hf 11 rfl (OV.f0 6 rfl T.u32 rfl) (Ho 12 rfl (fl':=true) rfl ?_)
    refine WL.focus perm2 (WL.br (o:=6) rfl rfl rfl T.z30 (by show 6<7;omega) ?_)
    refine Hc (fun h=>by cases h) ?_
    refine He (Xb (Xn (Cr (Zm rfl (Zv (OV.bi (j:=1) rfl rfl (by omega)) (Za rfl (Nl ?_)))))))
    have el:us.length+1=(us++[(Jfb (((g.cl.bd.take 8).map Jaf).flatMap plc) t)]).length:=by simp
    have ef:us.flatMap tsC++tsC (Jfb (((g.cl.bd.take 8).map Jaf).flatMap plc) t)=(us++[(Jfb (((g.cl.bd.take 8).map Jaf).flatMap plc) t)]).flatMap tsC:=by simp
    exact WX.ce (i+1) a86 c86 (us++[(Jfb (((g.cl.bd.take 8).map Jaf).flatMap plc) t)]) Y5 (fun w' hw=>⟨⟨by omega,by omega,by simp [hul],by rw [Jb2 ht,List.map_append,hue];rfl⟩,by
     rw [el,ef] at hw
     exact hw.pik [[oQ b3 (cgC ⟨⟨⟨nvB (Jaf g.hd.x).b,(Jaf g.hd.x).name,(Jaf g.hd.x).args.map (safeT (((g.cl.bd.take 8).map Jaf).flatMap plc))⟩,ha,hac⟩,ba,bc,ys,a86,c86,us++[(Jfb (((g.cl.bd.take 8).map Jaf).flatMap plc) t)]⟩) 32],[rowS a86 c86 (us++[(Jfb (((g.cl.bd.take 8).map Jaf).flatMap plc) t)])],[oQ b85 (tsC (Jfb (((g.cl.bd.take 8).map Jaf).flatMap plc) t)) 61],[rowT ha hac ((Jaf g.hd.x).args.map (safeT (((g.cl.bd.take 8).map Jaf).flatMap plc)))],[rowT la lc (((g.cl.bd.take 8).map Jaf).flatMap plc)],[oQ b2 (cgC ⟨⟨⟨T0,E0,[]⟩,none,0⟩,none,0,[],none,0,[]⟩) 32],[oQ b1 (cgC g) 32],rowAt ba bc ys::argsA ys] [0,1,3,4,5,6,7] 8⟩) (by show g.ts.length - (i+1)<g.ts.length - i;omega)
   refine Ce (Xe (Xe (Xh ?_)))
   have e8:g.cl.ts.take 8=g.ts.take i:=by
    show g.ts.take 8=g.ts.take i
    rcases Nat.lt_or_ge i 8 with h | h
    ·rw [List.take_of_length_le (by omega),List.take_of_length_le (by omega)]
    ·rw [show i=8 by omega]
   exact WX.fi (ta,tc,us) Y4 (fun w' hw=>⟨by rw [e8];exact hue,hw⟩)
  refine Zs rfl rfl rfl (Zs rfl rfl rfl (Zv (OV.aj rfl rfl) (Nn (WC.bu (show _=some (Value.bool false) from by rfl) ?_))))
  refine Ce (Xe (Xe (Xh ?_)))
  have e8:g.cl.ts.take 8=g.ts.take i:=by
   show g.ts.take 8=g.ts.take i
   rcases Nat.lt_or_ge i 8 with h | h
   ·rw [List.take_of_length_le (by omega),List.take_of_length_le (by omega)]
   ·rw [show i=8 by omega]
  exact WX.fi (ta,tc,us) Y4 (fun w' hw=>⟨by rw [e8];exact hue,hw⟩)
 rintro ⟨ta,tc,us⟩
 refine WC.pure (fun hue8=>?_)
 replace hue8:us=(g.cl.ts.take 8).map (Jfb (((g.cl.bd.take 8).map Jaf).flatMap plc)):=hue8
 refine Csr (Zv (OV.ai (cs:=cgC ⟨⟨⟨nvB (Jaf g.hd.x).b,(Jaf g.hd.x).name,(Jaf g.hd.x).args.map (safeT (((g.cl.bd.take 8).map Jaf).flatMap plc))⟩,ha,hac⟩,ba,bc,ys,ta,tc,us⟩) rfl T.u32 rfl T.z32 (fun _ hw j v hj=>by rw [Jap,Nat.zero_add];exact Ja0 hw (.head _) j v hj)) ?_)
 have hgc:CG.cl ⟨⟨⟨nvB (Jaf g.hd.x).b,(Jaf g.hd.x).name,(Jaf g.hd.x).args.map (safeT (((g.cl.bd.take 8).map Jaf).flatMap plc))⟩,ha,hac⟩,ba,bc,ys,ta,tc,us⟩=made0 g.cl:=by
  unfold CG.cl made0
  simp only [hyx,hue8]
  rfl
 refine WL.cT (ι:=CG) (vs:=[cgV ⟨⟨⟨nvB (Jaf g.hd.x).b,(Jaf g.hd.x).name,(Jaf g.hd.x).args.map (safeT (((g.cl.bd.take 8).map Jaf).flatMap plc))⟩,ha,hac⟩,ba,bc,ys,ta,tc,us⟩]) (vv:=fun g'=>cgV g') (pp:=fun g'=>g'.cl=madeC g.cl) [] (AA:=fun g'=>cgA g') rfl (fun w' hw' _=>?_) ?_
 ·have h97:=made0_len g.cl
  have h9:=normal_calls ⟨⟨⟨nvB (Jaf g.hd.x).b,(Jaf g.hd.x).name,(Jaf g.hd.x).args.map (safeT (((g.cl.bd.take 8).map Jaf).flatMap plc))⟩,ha,hac⟩,ba,bc,ys,ta,tc,us⟩ (by rw [hgc];omega) (by show ys.length≤_;omega) w' ⟨RT.of_row (c:=hac) (m:=((Jaf g.hd.x).args.map (safeT (((g.cl.bd.take 8).map Jaf).flatMap plc))).length) rfl hw' (.tail _ (.tail _ (.head _))),RA.of_row hw' (fun i hi=>.tail _ (.tail _ (.tail _ (.tail _ (.tail _ (.tail _ hi)))))),RS.of_row hw' (.tail _ (.head _))⟩
  rw [hgc] at h9
  exact h9.mono (fun en w'' ⟨g',h1,h2,h3⟩=>⟨g',h1,h2,h3⟩)
 intro g' hg'
 refine WL.focus (ow':=oQ b2 (cgC ⟨⟨⟨T0,E0,[]⟩,none,0⟩,none,0,[],none,0,[]⟩) 32::(cgA g'++(oQ b3 (cgC ⟨⟨⟨nvB (Jaf g.hd.x).b,(Jaf g.hd.x).name,(Jaf g.hd.x).args.map (safeT (((g.cl.bd.take 8).map Jaf).flatMap plc))⟩,ha,hac⟩,ba,bc,ys,ta,tc,us⟩) 32::rowS ta tc us::rowT ha hac ((Jaf g.hd.x).args.map (safeT (((g.cl.bd.take 8).map Jaf).flatMap plc)))::rowT la lc (((g.cl.bd.take 8).map Jaf).flatMap plc)::oQ b1 (cgC g) 32::rowAt ba bc ys::argsA ys))) (pmC [cgA g',[oQ b3 (cgC ⟨⟨⟨nvB (Jaf g.hd.x).b,(Jaf g.hd.x).name,(Jaf g.hd.x).args.map (safeT (((g.cl.bd.take 8).map Jaf).flatMap plc))⟩,ha,hac⟩,ba,bc,ys,ta,tc,us⟩) 32],[rowS ta tc us],[rowT ha hac ((Jaf g.hd.x).args.map (safeT (((g.cl.bd.take 8).map Jaf).flatMap plc)))],[rowT la lc (((g.cl.bd.take 8).map Jaf).flatMap plc)],[oQ b2 (cgC ⟨⟨⟨T0,E0,[]⟩,none,0⟩,none,0,[],none,0,[]⟩) 32],[oQ b1 (cgC g) 32],rowAt ba bc ys::argsA ys] [5,0,1,2,3,4,6,7]) ?_
 refine WL.ag (vs:=cgC g') rfl rfl rfl T.z32 rfl ?_
 refine Nn (WC.az ?_)
 refine WX.retC (cs:=cgC g') rfl rfl rfl T.u32 rfl T.z32 (fun w' hw j v hj=>Ja0 hw (.head _) j v hj) (fun w' hw=>⟨g',rfl,hg',?_⟩)
 exact (hw.pik [[oQ b2 (cgC g') 32],cgA g',[oQ b3 (cgC ⟨⟨⟨nvB (Jaf g.hd.x).b,(Jaf g.hd.x).name,(Jaf g.hd.x).args.map (safeT (((g.cl.bd.take 8).map Jaf).flatMap plc))⟩,ha,hac⟩,ba,bc,ys,ta,tc,us⟩) 32],[rowS ta tc us],[rowT ha hac ((Jaf g.hd.x).args.map (safeT (((g.cl.bd.take 8).map Jaf).flatMap plc)))],[rowT la lc (((g.cl.bd.take 8).map Jaf).flatMap plc)],[oQ b1 (cgC g) 32],rowAt ba bc ys::argsA ys] [1] 8).turned0
def Str {α:Type}(f:α→α→Int)(L:List α):Prop:=L.Pairwise fun a b=>f a b<0
theorem Str.nodup {α:Type}{f:α→α→Int}(hf:CmpOK f){L:List α}(h:Str f L):L.Nodup:=
 List.Pairwise.imp (fun {a b} hab e=>by rw [e,hf.refl] at hab;omega) h
theorem Str.ext {α:Type}{f:α→α→Int}(hf:CmpOK f):∀ {L M:List α},Str f L→Str f M→(∀ x,x∈L↔x∈M)→L=M
 | [],[],_,_,_=>rfl
 | [],y::M,_,_,h=>by have:=(h y).2 (by simp);cases this
 | x::L,[],_,_,h=>by have:=(h x).1 (by simp);cases this
 | x::L,y::M,hl,hm,h=>by
  obtain ⟨h1,h2⟩:=List.pairwise_cons.1 hl
  obtain ⟨m1,m2⟩:=List.pairwise_cons.1 hm
  have e:x=y:=by
   rcases List.mem_cons.1 ((h x).1 (by simp)) with hh | hh
   ·exact hh
   ·rcases List.mem_cons.1 ((h y).2 (by simp)) with kk | kk
    ·exact kk.symm
    ·have a:=m1 x hh
     have b:=h1 y kk
     have:=hf.anti x y
     omega
  subst e
  refine congrArg (x::·) (Str.ext hf h2 m2 fun z=>⟨fun hz=>?_,fun hz=>?_⟩)
  ·rcases List.mem_cons.1 ((h z).1 (by simp [hz])) with rfl | hh
   ·have:=h1 z hz;rw [hf.refl] at this;omega
   ·exact hh
  ·rcases List.mem_cons.1 ((h z).2 (by simp [hz])) with rfl | hh
   ·have:=m1 z hz;rw [hf.refl] at this;omega
   ·exact hh
abbrev cmpR:List Tm→List Tm→Int:=Jby cmpT
theorem Jnm:CmpOK cmpR:=Jgi Jnl
theorem Jn6 {F:List (At × Nat)}{parts:Int}{x:At}:x∈selF F parts↔∃ n,(x,n)∈F∧inP parts n=true:=by
 unfold selF
 simp only [List.mem_map,List.mem_filter]
 exact ⟨fun ⟨q,⟨h1,h2⟩,h3⟩=>⟨q.2,by rw [← h3];exact h1,h2⟩,fun ⟨n,h1,h2⟩=>⟨(x,n),⟨h1,h2⟩,rfl⟩⟩
theorem mem_turnF {F:List (At × Nat)}{x:At}{n:Nat}:(x,n)∈turnF F↔∃ m,(x,m)∈F∧n=if m=4 then 2 else 1:=by
 unfold turnF
 simp only [List.mem_map,Prod.mk.injEq]
 exact ⟨fun ⟨q,h1,h2,h3⟩=>⟨q.2,by rw [← h2];exact h1,h3.symm⟩,fun ⟨m,h1,h2⟩=>⟨(x,m),h1,rfl,h2.symm⟩⟩
def Jcp (O N X:List At):List (At × Nat):=Jed (turnF (Jed (turnF (turnF (Jed [] O))) N)) X
theorem mem_filled {O N X:List At}{x:At}{n:Nat}:(x,n)∈Jcp O N X↔factB x=true∧((n=1∧x∈O)∨(n=2∧x∉O∧x∈N)∨(n=4∧x∉O∧x∉N∧x∈X)):=by
 have h0:∀ m,(x,m)∈Jed [] O↔m=4∧x∈O∧factB x=true:=fun m=>by rw [Ji3];simp
 have h1:∀ m,(x,m)∈turnF (turnF (Jed [] O))↔m=1∧x∈O∧factB x=true:=fun m=>by
  rw [mem_turnF]
  constructor
  ·rintro ⟨a,ha,rfl⟩
   obtain ⟨b,hb,rfl⟩:=mem_turnF.1 ha
   obtain ⟨rfl,h2⟩:=(h0 b).1 hb
   exact ⟨rfl,h2⟩
  ·rintro ⟨rfl,h2⟩
   exact ⟨2,mem_turnF.2 ⟨4,(h0 4).2 ⟨rfl,h2⟩,rfl⟩,rfl⟩
 have k1:x∈(turnF (turnF (Jed [] O))).map (·.1)↔x∈O∧factB x=true:=by
  constructor
  ·intro h
   obtain ⟨⟨y,m⟩,hq,rfl⟩:=List.mem_map.1 h
   exact ((h1 m).1 hq).2
  ·intro h
   exact List.mem_map.2 ⟨(x,1),(h1 1).2 ⟨rfl,h⟩,rfl⟩
 have h2:∀ m,(x,m)∈Jed (turnF (turnF (Jed [] O))) N↔factB x=true∧((m=1∧x∈O)∨(m=4∧x∉O∧x∈N)):=fun m=>by
  rw [Ji3,h1,k1]
  constructor
  ·rintro (⟨a,b,c⟩ | ⟨a,b,c,d⟩)
   ·exact ⟨c,Or.inl ⟨a,b⟩⟩
   ·exact ⟨c,Or.inr ⟨a,fun h=>d ⟨h,c⟩,b⟩⟩
  ·rintro ⟨c,⟨a,b⟩ | ⟨a,b,d⟩⟩
   ·exact Or.inl ⟨a,b,c⟩
   ·exact Or.inr ⟨a,d,c,fun h=>b h.1⟩
 have h3:∀ m,(x,m)∈turnF (Jed (turnF (turnF (Jed [] O))) N)↔factB x=true∧((m=1∧x∈O)∨(m=2∧x∉O∧x∈N)):=fun m=>by
  rw [mem_turnF]
  constructor
  ·rintro ⟨a,ha,rfl⟩
   obtain ⟨c,⟨rfl,b⟩ | ⟨rfl,b,d⟩⟩:=(h2 a).1 ha
   ·exact ⟨c,Or.inl ⟨rfl,b⟩⟩
   ·exact ⟨c,Or.inr ⟨rfl,b,d⟩⟩
  ·rintro ⟨c,⟨rfl,b⟩ | ⟨rfl,b,d⟩⟩
   ·exact ⟨1,(h2 1).2 ⟨c,Or.inl ⟨rfl,b⟩⟩,rfl⟩
   ·exact ⟨4,(h2 4).2 ⟨c,Or.inr ⟨rfl,b,d⟩⟩,rfl⟩
 have k3:x∈(turnF (Jed (turnF (turnF (Jed [] O))) N)).map (·.1)↔factB x=true∧(x∈O∨x∈N):=by
  constructor
  ·intro h
   obtain ⟨⟨y,m⟩,hq,rfl⟩:=List.mem_map.1 h
   obtain ⟨c,⟨_,b⟩ | ⟨_,_,d⟩⟩:=(h3 m).1 hq
   ·exact ⟨c,Or.inl b⟩
   ·exact ⟨c,Or.inr d⟩
  ·rintro ⟨c,h⟩
   by_cases ho:x∈O
   ·exact List.mem_map.2 ⟨(x,1),(h3 1).2 ⟨c,Or.inl ⟨rfl,ho⟩⟩,rfl⟩
   ·exact List.mem_map.2 ⟨(x,2),(h3 2).2 ⟨c,Or.inr ⟨rfl,ho,h.resolve_left ho⟩⟩,rfl⟩
 unfold Jcp
 rw [Ji3,h3,k3]
 constructor
 ·rintro (⟨c,h⟩ | ⟨a,b,c,d⟩)
  ·refine ⟨c,?_⟩
   rcases h with h | h
   ·exact Or.inl h
   ·exact Or.inr (Or.inl h)
  ·exact ⟨c,Or.inr (Or.inr ⟨a,fun h=>d ⟨c,Or.inl h⟩,fun h=>d ⟨c,Or.inr h⟩,b⟩)⟩
 ·rintro ⟨c,h | h | ⟨a,b,d,e⟩⟩
  ·exact Or.inl ⟨c,Or.inl h⟩
  ·exact Or.inl ⟨c,Or.inr h⟩
  ·exact Or.inr ⟨a,e,c,fun h=>h.2.elim b d⟩
theorem in31:inP 3 1=true:=by decide
theorem in32:inP 3 2=true:=by decide
theorem in34:inP 3 4=false:=by decide
theorem sel_filled {O N X:List At}{x:At}:x∈selF (Jcp O N X) 3↔factB x=true∧(x∈O∨x∈N):=by
 rw [Jn6]
 constructor
 ·rintro ⟨n,h,hp⟩
  obtain ⟨c,⟨rfl,b⟩ | ⟨rfl,_,b⟩ | ⟨rfl,_⟩⟩:=mem_filled.1 h
  ·exact ⟨c,Or.inl b⟩
  ·exact ⟨c,Or.inr b⟩
  ·rw [in34] at hp;cases hp
 ·rintro ⟨c,h⟩
  by_cases ho:x∈O
  ·exact ⟨1,mem_filled.2 ⟨c,Or.inl ⟨rfl,ho⟩⟩,in31⟩
  ·exact ⟨2,mem_filled.2 ⟨c,Or.inr (Or.inl ⟨rfl,ho,h.resolve_left ho⟩)⟩,in32⟩
theorem Sol.mono {F G:Nat→At→Prop}(h:∀ i x,F i x→G i x){c:Cl}{n:Nat}{r:List Tm}(k:Sol F c n r):Sol G c n r:=
 ⟨k.len,k.ts,fun i a hi=>⟨h _ _ (k.bd i a hi).1,(k.bd i a hi).2⟩⟩
theorem Sol.congr {F G:Nat→At→Prop}(h:∀ i x,F i x↔G i x){c:Cl}{n:Nat}{r:List Tm}:Sol F c n r↔Sol G c n r:=
 ⟨Sol.mono fun i x=>(h i x).1,Sol.mono fun i x=>(h i x).2⟩
end Go.Proofs.YtgebaodagaecmaaGreatDoor
