/- Contracts of functions of the program: what each returns and leaves in memory. Printed by gen.py and walk.py. A store of several cells into an element of a row. -/
import Derived.Test.YtgebaodagaecmaaGreatDoorMg16
import Derived.Test.YtgebaodagaecmaaGreatDoorHxA
import Derived.Test.YtgebaodagaecmaaGreatDoorHxTurn
set_option maxRecDepth 10000
namespace Go.Proofs.YtgebaodagaecmaaGreatDoor
open Go Go.Hw
set_option linter.unusedSimpArgs false
set_option linter.unusedVariables false
theorem tlook_calls (ys:List Bd)(v:Int)(a:Option Addr)(c:Nat)(hl:ys.length≤1099511627776)(w:World)(hN:Jdb w)(hr:RBd w a ys):Calls Tryz.prog 41 #[.slice a ys.length c,.int .i64 v] w fun e w'=>e=.returned (.tuple #[tmV ((gotT (sb ys) v).getD T0),.bool (gotT (sb ys) v).isSome])∧Fr0 w w':=by
 refine Jbo (args:=[.slice a ys.length c,.int .i64 v]) (fun _=>False) Tryz.func41 rfl Tryz.ntmps41 rfl rfl ?_;refine Csr (WL.alloc T.zr26 rfl ?_);intro b4;refine Za rfl (Nn (Cs (Csr (Zm rfl (Zv (OV.ae rfl T.u54) (Zm rfl (Nn (Cb ?_))))))))
 refine WC.cm (fun (i:Nat)=>[(1,.int .i64 v),(4,yZ b4),(8,.slice a ys.length c),(9,.int .i64 (ys.length:Int)),(10,.int .i64 (i:Int))])
   (fun i w'=>(i≤ys.length∧∀ j z,j<i→ys[j]?=some z→z.v≠v)∧Sat0 w (oQ b4 (tmC T0) 26::[]) w')
   (fun i=>ys.length - i) 0 Y5 (fun w' hw=>⟨⟨by omega,fun j z hj=>by omega⟩,hw⟩) ?_
 intro i;refine WC.pure (fun hi=>?_);obtain ⟨hi,hz⟩:=hi;refine Csr (Zv (OV.cq rfl rfl) (Nn (Cs ?_)));refine Cc rfl (fun c11=>?_) (fun c11=>?_)
 ·refine Ck (Xn (Cs (Cb (Csr ?_))));obtain ⟨q1,y,hq1,hy,hym,hc1⟩:=hr.get (i:=i) (by omega);refine Zv ((OV.ad (show _=some (Value.slice (some q1) ys.length c) by rw [← hq1];rfl) rfl T.u54 T.z64 (by omega)).cast (u:=.pointer (some (q1.add (i*4)))) (by rw [xN])) (Zv (OV.ai (cs:=bdC y) rfl T.u64 rfl T.z64 (fun _ hw j u hj=>hw.keeps _ _ (hc1 j u hj))) (WL.alloc T.zr64 rfl ?_));intro b7;refine WL.ag (vs:=bdC y) rfl rfl rfl T.z64 rfl ?_;refine Nn (Csr (Zv (OV.f0 0 rfl T.u64 rfl) (Zv (OV.l1 (v:=.int .i64 y.v) rfl T.u3 rfl yH rfl) (Zm rfl (Zv (OV.eb rfl rfl) (Nn ?_))))));refine Cc rfl (fun c17=>?_) (fun c17=>?_)
  ·refine Csr (Zv (OV.f0 1 rfl T.u64 rfl) (Zv (OV.ai (cs:=tmC y.t) rfl T.u26 rfl T.z26 (fun _ hw j v hj=>by rw [Jap];exact Jbv hw yH (o:=1) (cs':=tmC y.t) rfl j v hj)) ?_));refine WL.focus perm1 (WL.ag (vs:=tmC y.t) rfl rfl rfl T.z26 rfl ?_);refine Za rfl (Nn (WC.az ?_));refine Xq (Xr (Xr (Xq (Xr ?_))));have hg:=gotT_at hy c17 hz;exact WX.my (cs:=tmC y.t) rfl rfl rfl rfl T.u26 rfl T.z26 (fun w' hw j v hj=>Jbh hw yH j v hj) (fun w' hw=>⟨by rw [hg];rfl,hw.fr⟩)
  refine Ck (Xb (Xn (Cr (Zv (OV.bm (j:=1) rfl rfl (by omega)) (Zm rfl (Nl ?_))))))
  exact WX.bk (i+1) Y5 (fun w' hw=>⟨⟨by omega,fun j z hj hjz=>by
   rcases Nat.lt_or_ge j i with h | h
   ·exact hz j z h hjz
   ·rw [show j=i by omega,hy] at hjz;rw [← xH hjz];exact c17⟩,hw.drop⟩) (by show ys.length - (i+1)<ys.length - i;omega)
 refine Ce (Xe (Xe (Xh (Xn (Csr (Zv (OV.ai (cs:=tmC T0) rfl T.u26 rfl T.z26 (fun _ hw j v hj=>by rw [Jap,xM];exact hw.keeps _ _ (hN j v hj))) (WL.ag (vs:=tmC T0) rfl rfl rfl T.z26 rfl ?_)))))));refine Za rfl (Nn (WC.az ?_));have hg:=gotT_no (v:=v) (ys:=ys) (fun j z hjz=>hz j z (by have:=(List.getElem?_eq_some_iff.1 hjz).1;omega) hjz);exact WX.my (cs:=tmC T0) rfl rfl rfl rfl T.u26 rfl T.z26 (fun w' hw j v hj=>Jbh hw yH j v hj) (fun w' hw=>⟨by rw [hg];rfl,hw.fr⟩)
theorem Jd5 (ys:List Bd)(t:Tm)(a:Option Addr)(c:Nat)(hl:ys.length≤1099511627776)(w:World)(hN:Jdb w)(hr:RBd w a ys):Calls Tryz.prog 58 #[.slice a ys.length c,tmV t] w fun e w'=>e=.returned (tmV (becD (sb ys) t))∧Fr0 w w':=by
 refine Jbo (args:=[.slice a ys.length c,tmV t]) (fun _=>False) Tryz.func58 rfl Tryz.ntmps58 rfl rfl ?_;refine Csr (WL.box rfl rfl rfl ?_);intro b3;refine WL.alloc T.zr26 rfl ?_;intro b4;refine Nn (Cs (Csr (Zv (OV.lN (cs:=tmC t) rfl T.u26 rfl T.z26 yI) (WL.au (v:=.bool (varB t)) (by kernel_rfl) rfl rfl (fun w' hw'=>Jcs t w') ?_))));refine Nn ?_;refine Cc rfl (fun c8=>?_) (fun c8=>?_)
 ·refine Csr (Zm rfl (Zv (OV.f0 1 rfl T.u26 rfl) (Zv (OV.l1 (v:=.int .i64 t.n) rfl T.u3 rfl yI rfl) (WL.au (v:=.tuple #[tmV ((gotT (sb ys) t.n).getD T0),.bool (gotT (sb ys) t.n).isSome]) (by kernel_rfl) rfl rfl (fun w' hw'=>tlook_calls ys t.n a c hl w' (hN.keeps hw'.keeps) (hr.keeps hw'.keeps)) ?_))));refine Zm rfl (Zv (OV.extract rfl rfl) (Zv (OV.extract rfl rfl) (WL.alloc T.zr26 rfl ?_)));intro b5;refine WL.ag (vs:=tmC ((gotT (sb ys) t.n).getD T0)) rfl rfl rfl T.z26 rfl ?_;refine Za rfl (Nn (Csr (Zm rfl (Nn ?_))));refine Cc rfl (fun c16=>?_) (fun c16=>?_)
  ·refine Csr (Zv (OV.lN (cs:=tmC ((gotT (sb ys) t.n).getD T0)) rfl T.u26 rfl T.z26 yH) ?_);refine WL.focus perm1 (WL.ag (vs:=tmC ((gotT (sb ys) t.n).getD T0)) rfl rfl rfl T.z26 rfl ?_);refine Nn (WC.az ?_);refine Xr ?_;exact WX.retC (cs:=tmC ((gotT (sb ys) t.n).getD T0)) rfl rfl rfl T.u26 rfl T.z26 (fun w' hw j v hj=>Jbh hw yH j v hj) (fun w' hw=>⟨by unfold becD;rw [if_pos c8];cases hg:gotT (sb ys) t.n with | none=>rw [hg] at c16;cases c16 | some z=>rfl,hw.fr⟩)
  refine Ck (Xn (Csr (Zv (OV.lN (cs:=tmC t) rfl T.u26 rfl T.z26 yJ) ?_)));refine WL.focus perm1 (WL.ag (vs:=tmC t) rfl rfl rfl T.z26 rfl ?_);refine Nn (WC.az ?_);exact WX.retC (cs:=tmC t) rfl rfl rfl T.u26 rfl T.z26 (fun w' hw j v hj=>Jbh hw yH j v hj) (fun w' hw=>⟨by unfold becD;rw [if_pos c8];cases hg:gotT (sb ys) t.n with | none=>rfl | some z=>rw [hg] at c16;exact (by cases c16),hw.fr⟩)
 refine Ck (Xn (Csr (Zv (OV.lN (cs:=tmC t) rfl T.u26 rfl T.z26 yI) (WL.ag (vs:=tmC t) rfl rfl rfl T.z26 rfl ?_))));refine Nn (WC.az ?_);exact WX.retC (cs:=tmC t) rfl rfl rfl T.u26 rfl T.z26 (fun w' hw j v hj=>Jbh hw yH j v hj) (fun w' hw=>⟨by unfold becD;rw [if_neg (by simpa using c8)],hw.fr⟩)
set_option maxHeartbeats 1000000 in
theorem tapply_calls (ys:List Bd)(x:At)(a1 a2:Option Addr)(c1 c2:Nat)(hl:ys.length≤1099511627776)(hx:x.args.length≤1048576)(w:World)(hN:Jdb w)(hr1:RBd w a1 ys)(hr2:RT w a2 x.args):Calls Tryz.prog 119 #[.slice a1 ys.length c1,atV x a2 c2] w fun e w'=>∃ z:Option Addr × Nat,e=.returned (atV (appD (sb ys) x) z.1 z.2)∧Turns [] [rowT z.1 z.2 (appD (sb ys) x).args] w w':=by
 refine Jbo (args:=[.slice a1 ys.length c1,atV x a2 c2]) (fun _=>False) Tryz.func119 rfl Tryz.ntmps119 rfl rfl ?_;refine Csr (WL.box rfl rfl rfl ?_);intro b3;refine WL.alloc T.zr29 rfl ?_;intro b4;refine Nn (Cs (Hd (fun w'=>w'.heap[b3]?=some (.cells (atC x a2 c2).toArray 29 (0,0))) [] (fun _ hw=>hw.it (oQ b3 (atC x a2 c2) 29) (by simp)) (m:=9) rfl ?_));refine Hf 0 rfl (OV.aw rfl) (Hf 1 rfl (OV.f0 0 rfl T.u29 rfl) (Ht 2 rfl (OV.ai (cs:=tmC x.b) rfl T.u26 rfl T.z26 (fun _ hw j v hj=>by rw [Jap];exact Jch hw (o:=0) (cs':=tmC x.b) rfl j v hj)) (Hf 4 rfl (OV.f0 3 rfl T.u29 rfl) (Ht 5 rfl (OV.ah (v:=.string x.name) rfl T.u9 rfl (fun _ hw=>(Jax hw (o:=3) rfl).1)) ?_))));refine Hr (WH.two 3 7 rfl rfl (by kernel_rfl) (listed1:=[true,true,true,true,true,true,false,false,false]) rfl (listed2:=[true,true,true,false,true,true,false,true,false]) rfl (fl1:=false) rfl (fl2:=false) rfl ?_ ?_)
 ·refine WL.au (v:=tmV (becD (sb ys) x.b)) (by kernel_rfl) rfl rfl (fun w' hw'=>Jd5 ys x.b a1 c1 hl w' (hN.keeps hw'.keeps) (hr1.keeps hw'.keeps)) ?_;refine Hc (fun _=>(fun _ hw=>hw.it (oQ b3 (atC x a2 c2) 29) (by simp))) ?_;refine Hf 6 rfl (OV.ao (xs:=[(0,.tmp 11),(1,.tmp 13)]) (pl:=[(0,3),(3,1),(4,1)]) (cs:=atC ⟨becD (sb ys) x.b,x.name,[]⟩ none 0) T.u29 T.zr29 (by kernel_rfl) rfl (Jal (us:=tmC (becD (sb ys) x.b)) rfl rfl yW (Jal (us:=[_]) rfl rfl yW rfl))) (Ho 7 rfl (fl':=false) rfl ?_);refine WL.alloc T.zr29 rfl ?_;intro b5;refine Hc (fun _=>(fun _ hw=>hw.it (oQ b3 (atC x a2 c2) 29) (by simp))) ?_;refine Ho 8 rfl (fl':=false) rfl ?_;refine WL.ag (vs:=atC ⟨becD (sb ys) x.b,x.name,[]⟩ none 0) rfl rfl rfl T.z29 rfl ?_;refine Hc (fun _=>(fun _ hw=>hw.it (oQ b3 (atC x a2 c2) 29) (by simp))) ?_;refine He (Xn (Cs (Csr (Zv (OV.f0 4 rfl T.u29 rfl) (Zv (OV.l1 (v:=.slice a2 x.args.length c2) rfl T.u27 rfl yJ rfl) (Zv (OV.ae rfl T.u27) (Zm rfl (Nn (Cb (WC.weak (S':=Sat0 w (oQ b5 (atC ⟨becD (sb ys) x.b,x.name,[]⟩ none 0) 29::oQ b4 (atC ⟨T0,E0,[]⟩ none 0) 29::oQ b3 (atC x a2 c2) 29::row 26 3 none 0 0 []::[])) (fun w' hw=>(hw.rowNil 26 3).perm (pmP [_,_,_,_] [1,2,3,0])) ?_))))))))))
  refine WC.dd (fun (i:Nat) (la:Option Addr) (lc:Nat) (args:List Tm)=>[(0,.slice a1 ys.length c1),(4,yZ b4),(5,yZ b5),(16,.slice a2 x.args.length c2),(17,.int .i64 (x.args.length:Int)),(18,.int .i64 (i:Int))])
    (fun i la lc args w'=>(i≤x.args.length∧args.length=i∧args=(x.args.take i).map (becD (sb ys)))∧Sat0 w (oQ b5 (atC ⟨becD (sb ys) x.b,x.name,args⟩ la lc) 29::oQ b4 (atC ⟨T0,E0,[]⟩ none 0) 29::oQ b3 (atC x a2 c2) 29::rowT la lc args::[]) w')
    (fun i _ _ _=>x.args.length - i) 0 none 0 [] Y6 (fun w' hw=>⟨⟨by omega,rfl,rfl⟩,hw⟩) ?_
  intro i la lc args;refine WC.pure (fun hi=>?_);obtain ⟨hi,hal,hae⟩:=hi;refine Csr (Zv (OV.cq rfl rfl) (Nn (Cs ?_)));refine Cc rfl (fun c19=>?_) (fun c19=>?_)
  ·refine Ck (Xn (Cs (Cb (Csr ?_))));obtain ⟨q1,t,hq1,ht,htm,_,hc1⟩:=hr2.get (i:=i) (by omega);refine Zv ((OV.ad (show _=some (Value.slice (some q1) x.args.length c2) by rw [← hq1];rfl) rfl T.u27 T.z26 (by omega)).cast (u:=.pointer (some (q1.add (i*3)))) (by rw [xN])) (Zv (OV.ai (cs:=tmC t) rfl T.u26 rfl T.z26 (fun _ hw j v hj=>hw.keeps _ _ (hc1 j v hj))) (WL.alloc T.zr26 rfl ?_));intro b7;refine WL.ag (vs:=tmC t) rfl rfl rfl T.z26 rfl ?_;refine Nn (Hd (fun w'=>w'.heap[b5]?=some (.cells (atC ⟨becD (sb ys) x.b,x.name,args⟩ la lc).toArray 29 (0,0))∧w'.heap[b7]?=some (.cells (tmC t).toArray 26 (0,0))) [8] (fun _ hw=>⟨hw.it (oQ b5 (atC ⟨becD (sb ys) x.b,x.name,args⟩ la lc) 29) (by simp),hw.it (oQ b7 (tmC t) 26) (by simp)⟩) (m:=9) rfl ?_);refine Hf 0 rfl (OV.f0 4 rfl T.u29 rfl) (Ht 1 rfl (OV.ah (v:=.slice la args.length lc) rfl T.u27 rfl (fun _ hw=>(Jax hw.1 (o:=4) rfl).1)) (Hf 2 rfl (OV.aw rfl) (Ht 3 rfl (OV.ai (cs:=tmC t) rfl T.u26 rfl T.z26 (fun _ hw j v hj=>by rw [Jap];exact Jch hw.2 (o:=0) (cs':=tmC t) rfl j v hj)) (Ho 4 rfl (fl':=false) rfl ?_))));refine WL.au (v:=tmV (becD (sb ys) t)) (by kernel_rfl) rfl rfl (fun w' hw'=>Jd5 ys t a1 c1 hl w' (hN.keeps hw'.keeps) (hr1.keeps hw'.keeps)) ?_;refine Hc (fun _=>(fun _ hw=>⟨hw.it (oQ b5 (atC ⟨becD (sb ys) x.b,x.name,args⟩ la lc) 29) (by simp),hw.it (oQ b7 (tmC t) 26) (by simp)⟩)) ?_;refine Ho 5 rfl (fl':=false) rfl ?_;refine WL.bg (cs:=tmC (becD (sb ys) t)) T.u27 T.z26 T.zr26 rfl rfl (by omega) (by omega) rfl ?_;intro b27;refine Hc (fun _=>(fun _ hw=>⟨hw.it (oQ b5 (atC ⟨becD (sb ys) x.b,x.name,args⟩ la lc) 29) (by simp),hw.it (oQ b7 (tmC t) 26) (by simp)⟩)) ?_;refine Ho 6 rfl (fl':=false) rfl ?_;refine WL.focus (ow':=rowT la lc args::oQ b27 (tmC (becD (sb ys) t)) 26::oQ b7 (tmC t) 26::oQ b5 (atC ⟨becD (sb ys) x.b,x.name,args⟩ la lc) 29::oQ b4 (atC ⟨T0,E0,[]⟩ none 0) 29::oQ b3 (atC x a2 c2) 29::[]) (pmP [_,_,_,_,_,_] [5,0,1,2,3,4]) ?_;refine WL.append (news:=tmC (becD (sb ys) t)) rfl rfl T.apT (fun _ _=>Jcw yI rfl) (Jgi _) ⟨by omega,by unfold maxLen;omega⟩ rfl ?_;intro a28 c28;refine Hc (fun _=>(fun _ hw=>⟨hw.it (oQ b5 (atC ⟨becD (sb ys) x.b,x.name,args⟩ la lc) 29) (by simp),hw.it (oQ b7 (tmC t) 26) (by simp)⟩)) ?_;refine Hf 7 rfl (OV.f0 4 rfl T.u29 rfl) (Ho 8 rfl (fl':=true) rfl ?_);refine WL.focus perm3 (WL.bw (o:=4) rfl rfl rfl T.z27 (by show 4<5;omega) ?_);refine Hc (fun h=>by cases h) ?_;refine He (Xb (Xn (Cr (Zv (OV.bm (j:=1) rfl rfl (by omega)) (Zm rfl (Nl ?_))))));have el:args.length+1=(args++[(becD (sb ys) t)]).length:=by simp
   have ef:args.flatMap tmC++tmC (becD (sb ys) t)=(args++[(becD (sb ys) t)]).flatMap tmC:=by simp
   exact WX.cg (i+1) a28 c28 (args++[(becD (sb ys) t)]) Y6 (fun w' hw=>⟨⟨by omega,by simp [hal],by
    rw [List.take_add_one,xU,← hae,ht];rfl⟩,by
    rw [el,ef] at hw;exact hw.pik [[oQ b5 (atC ⟨becD (sb ys) x.b,x.name,(args++[(becD (sb ys) t)])⟩ a28 c28) 29],[rowT a28 c28 (args++[(becD (sb ys) t)])],[oQ b27 (tmC (becD (sb ys) t)) 26],[oQ b7 (tmC t) 26],[oQ b4 (atC ⟨T0,E0,[]⟩ none 0) 29],[oQ b3 (atC x a2 c2) 29]] [0,4,5,1] 6⟩) (by show x.args.length - (i+1)<x.args.length - i;omega)
  refine Ce (Xe (Xe (Xh (Xn (Csr (Zv (OV.lN (cs:=atC ⟨becD (sb ys) x.b,x.name,args⟩ la lc) rfl T.u29 rfl T.z29 yH) ?_))))));refine WL.focus perm1 (WL.ag (vs:=atC ⟨becD (sb ys) x.b,x.name,args⟩ la lc) rfl rfl rfl T.z29 rfl ?_);refine Nn (WC.az ?_);rw [xK (by omega)] at hae;have hat:appD (sb ys) x=⟨becD (sb ys) x.b,x.name,args⟩:=by rw [hae];rfl
  rw [hat];refine WX.retC (cs:=atC ⟨becD (sb ys) x.b,x.name,args⟩ la lc) rfl rfl rfl T.u29 rfl T.z29 (fun w' hw j v hj=>Jbh hw yH j v hj) (fun w' hw=>⟨(la,lc),rfl,?_⟩);exact (hw.pik [[oQ b4 (atC ⟨becD (sb ys) x.b,x.name,args⟩ la lc) 29],[oQ b5 (atC ⟨becD (sb ys) x.b,x.name,args⟩ la lc) 29],[oQ b3 (atC x a2 c2) 29],[rowT la lc args]] [3] 4).turned0
 refine WL.alloc T.zr29 rfl ?_;intro b5;refine Hc (fun _=>(fun _ hw=>hw.it (oQ b3 (atC x a2 c2) 29) (by simp))) ?_;refine Ho 3 rfl (fl':=false) rfl ?_;refine WL.au (v:=tmV (becD (sb ys) x.b)) (by kernel_rfl) rfl rfl (fun w' hw'=>Jd5 ys x.b a1 c1 hl w' (hN.keeps hw'.keeps) (hr1.keeps hw'.keeps)) ?_;refine Hc (fun _=>(fun _ hw=>hw.it (oQ b3 (atC x a2 c2) 29) (by simp))) ?_;refine Hf 6 rfl (OV.ao (xs:=[(0,.tmp 11),(1,.tmp 13)]) (pl:=[(0,3),(3,1),(4,1)]) (cs:=atC ⟨becD (sb ys) x.b,x.name,[]⟩ none 0) T.u29 T.zr29 (by kernel_rfl) rfl (Jal (us:=tmC (becD (sb ys) x.b)) rfl rfl yW (Jal (us:=[_]) rfl rfl yW rfl))) (Ho 8 rfl (fl':=false) rfl ?_);refine WL.ag (vs:=atC ⟨becD (sb ys) x.b,x.name,[]⟩ none 0) rfl rfl rfl T.z29 rfl ?_;refine Hc (fun _=>(fun _ hw=>hw.it (oQ b3 (atC x a2 c2) 29) (by simp))) ?_;refine He (Xn (Cs (Csr (Zv (OV.f0 4 rfl T.u29 rfl) (Zv (OV.l1 (v:=.slice a2 x.args.length c2) rfl T.u27 rfl yJ rfl) (Zv (OV.ae rfl T.u27) (Zm rfl (Nn (Cb (WC.weak (S':=Sat0 w (oQ b5 (atC ⟨becD (sb ys) x.b,x.name,[]⟩ none 0) 29::oQ b4 (atC ⟨T0,E0,[]⟩ none 0) 29::oQ b3 (atC x a2 c2) 29::row 26 3 none 0 0 []::[])) (fun w' hw=>(hw.rowNil 26 3).perm (pmP [_,_,_,_] [1,2,3,0])) ?_))))))))))
 refine WC.dd (fun (i:Nat) (la:Option Addr) (lc:Nat) (args:List Tm)=>[(0,.slice a1 ys.length c1),(4,yZ b4),(5,yZ b5),(16,.slice a2 x.args.length c2),(17,.int .i64 (x.args.length:Int)),(18,.int .i64 (i:Int))])
   (fun i la lc args w'=>(i≤x.args.length∧args.length=i∧args=(x.args.take i).map (becD (sb ys)))∧Sat0 w (oQ b5 (atC ⟨becD (sb ys) x.b,x.name,args⟩ la lc) 29::oQ b4 (atC ⟨T0,E0,[]⟩ none 0) 29::oQ b3 (atC x a2 c2) 29::rowT la lc args::[]) w')
   (fun i _ _ _=>x.args.length - i) 0 none 0 [] Y6 (fun w' hw=>⟨⟨by omega,rfl,rfl⟩,hw⟩) ?_
 intro i la lc args;refine WC.pure (fun hi=>?_);obtain ⟨hi,hal,hae⟩:=hi;refine Csr (Zv (OV.cq rfl rfl) (Nn (Cs ?_)));refine Cc rfl (fun c19=>?_) (fun c19=>?_)
 ·refine Ck (Xn (Cs (Cb (Csr ?_))));obtain ⟨q1,t,hq1,ht,htm,_,hc1⟩:=hr2.get (i:=i) (by omega);refine Zv ((OV.ad (show _=some (Value.slice (some q1) x.args.length c2) by rw [← hq1];rfl) rfl T.u27 T.z26 (by omega)).cast (u:=.pointer (some (q1.add (i*3)))) (by rw [xN])) (Zv (OV.ai (cs:=tmC t) rfl T.u26 rfl T.z26 (fun _ hw j v hj=>hw.keeps _ _ (hc1 j v hj))) (WL.alloc T.zr26 rfl ?_));intro b7;refine WL.ag (vs:=tmC t) rfl rfl rfl T.z26 rfl ?_;refine Nn (Hd (fun w'=>w'.heap[b5]?=some (.cells (atC ⟨becD (sb ys) x.b,x.name,args⟩ la lc).toArray 29 (0,0))∧w'.heap[b7]?=some (.cells (tmC t).toArray 26 (0,0))) [8] (fun _ hw=>⟨hw.it (oQ b5 (atC ⟨becD (sb ys) x.b,x.name,args⟩ la lc) 29) (by simp),hw.it (oQ b7 (tmC t) 26) (by simp)⟩) (m:=9) rfl ?_);refine Hf 0 rfl (OV.f0 4 rfl T.u29 rfl) (Ht 1 rfl (OV.ah (v:=.slice la args.length lc) rfl T.u27 rfl (fun _ hw=>(Jax hw.1 (o:=4) rfl).1)) (Hf 2 rfl (OV.aw rfl) (Ht 3 rfl (OV.ai (cs:=tmC t) rfl T.u26 rfl T.z26 (fun _ hw j v hj=>by rw [Jap];exact Jch hw.2 (o:=0) (cs':=tmC t) rfl j v hj)) (Ho 4 rfl (fl':=false) rfl ?_))));refine WL.au (v:=tmV (becD (sb ys) t)) (by kernel_rfl) rfl rfl (fun w' hw'=>Jd5 ys t a1 c1 hl w' (hN.keeps hw'.keeps) (hr1.keeps hw'.keeps)) ?_;refine Hc (fun _=>(fun _ hw=>⟨hw.it (oQ b5 (atC ⟨becD (sb ys) x.b,x.name,args⟩ la lc) 29) (by simp),hw.it (oQ b7 (tmC t) 26) (by simp)⟩)) ?_;refine Ho 5 rfl (fl':=false) rfl ?_;refine WL.bg (cs:=tmC (becD (sb ys) t)) T.u27 T.z26 T.zr26 rfl rfl (by omega) (by omega) rfl ?_;intro b27;refine Hc (fun _=>(fun _ hw=>⟨hw.it (oQ b5 (atC ⟨becD (sb ys) x.b,x.name,args⟩ la lc) 29) (by simp),hw.it (oQ b7 (tmC t) 26) (by simp)⟩)) ?_;refine Ho 6 rfl (fl':=false) rfl ?_;refine WL.focus (ow':=rowT la lc args::oQ b27 (tmC (becD (sb ys) t)) 26::oQ b7 (tmC t) 26::oQ b5 (atC ⟨becD (sb ys) x.b,x.name,args⟩ la lc) 29::oQ b4 (atC ⟨T0,E0,[]⟩ none 0) 29::oQ b3 (atC x a2 c2) 29::[]) (pmP [_,_,_,_,_,_] [5,0,1,2,3,4]) ?_;refine WL.append (news:=tmC (becD (sb ys) t)) rfl rfl T.apT (fun _ _=>Jcw yI rfl) (Jgi _) ⟨by omega,by unfold maxLen;omega⟩ rfl ?_;intro a28 c28;refine Hc (fun _=>(fun _ hw=>⟨hw.it (oQ b5 (atC ⟨becD (sb ys) x.b,x.name,args⟩ la lc) 29) (by simp),hw.it (oQ b7 (tmC t) 26) (by simp)⟩)) ?_;refine Hf 7 rfl (OV.f0 4 rfl T.u29 rfl) (Ho 8 rfl (fl':=true) rfl ?_);refine WL.focus perm3 (WL.bw (o:=4) rfl rfl rfl T.z27 (by show 4<5;omega) ?_);refine Hc (fun h=>by cases h) ?_;refine He (Xb (Xn (Cr (Zv (OV.bm (j:=1) rfl rfl (by omega)) (Zm rfl (Nl ?_))))));have el:args.length+1=(args++[(becD (sb ys) t)]).length:=by simp
  have ef:args.flatMap tmC++tmC (becD (sb ys) t)=(args++[(becD (sb ys) t)]).flatMap tmC:=by simp
  exact WX.cg (i+1) a28 c28 (args++[(becD (sb ys) t)]) Y6 (fun w' hw=>⟨⟨by omega,by simp [hal],by
   rw [List.take_add_one,xU,← hae,ht];rfl⟩,by
   rw [el,ef] at hw;exact hw.pik [[oQ b5 (atC ⟨becD (sb ys) x.b,x.name,(args++[(becD (sb ys) t)])⟩ a28 c28) 29],[rowT a28 c28 (args++[(becD (sb ys) t)])],[oQ b27 (tmC (becD (sb ys) t)) 26],[oQ b7 (tmC t) 26],[oQ b4 (atC ⟨T0,E0,[]⟩ none 0) 29],[oQ b3 (atC x a2 c2) 29]] [0,4,5,1] 6⟩) (by show x.args.length - (i+1)<x.args.length - i;omega)
 refine Ce (Xe (Xe (Xh (Xn (Csr (Zv (OV.lN (cs:=atC ⟨becD (sb ys) x.b,x.name,args⟩ la lc) rfl T.u29 rfl T.z29 yH) ?_))))));refine WL.focus perm1 (WL.ag (vs:=atC ⟨becD (sb ys) x.b,x.name,args⟩ la lc) rfl rfl rfl T.z29 rfl ?_);refine Nn (WC.az ?_);rw [xK (by omega)] at hae;have hat:appD (sb ys) x=⟨becD (sb ys) x.b,x.name,args⟩:=by rw [hae];rfl
 rw [hat];refine WX.retC (cs:=atC ⟨becD (sb ys) x.b,x.name,args⟩ la lc) rfl rfl rfl T.u29 rfl T.z29 (fun w' hw j v hj=>Jbh hw yH j v hj) (fun w' hw=>⟨(la,lc),rfl,?_⟩);exact (hw.pik [[oQ b4 (atC ⟨becD (sb ys) x.b,x.name,args⟩ la lc) 29],[oQ b5 (atC ⟨becD (sb ys) x.b,x.name,args⟩ la lc) 29],[oQ b3 (atC x a2 c2) 29],[rowT la lc args]] [3] 4).turned0
def tsC (t:Ts):List Value:=.int .i64 t.op::(tmC t.l++tmC t.r)
abbrev tsV (t:Ts):Value:=.agg (tsC t).toArray
theorem tsC_len (t:Ts):(tsC t).length=7:=rfl
theorem Jog (t:Ts):∀ v∈tsC t,v.oneCell'=true:=by simp [tsC,tmC,Value.oneCell']
theorem checkTest_calls (t:Ts)(w:World):Calls Tryz.prog 56 #[tsV t] w fun e w'=>e=.returned (.int .i64 (if tstB t=true then 0 else 32))∧Fr0 w w':=by
 refine Jbo (args:=[tsV t]) (fun _=>False) Tryz.func56 rfl Tryz.ntmps56 rfl rfl ?_;refine Csr (WL.box rfl rfl rfl ?_);intro b1;refine Za rfl (Nn (Cs (Csr (Zv (OV.f0 0 rfl T.u61 rfl) (Zv (OV.l1 (v:=.int .i64 t.op) rfl T.u3 rfl yH rfl) (Zv (OV.cq rfl rfl) (Zm rfl ?_)))))));refine Zp (t:=6) rfl (fun g6=>?_) (fun g6=>?_)
 ·refine yX (yX (yX (Zv (OV.am rfl rfl) (Zm rfl (yX (yX (yX (yX (yX (Zu rfl rfl (Zu rfl rfl (Zu rfl rfl (Zu rfl rfl (yX (Zv (OV.am rfl rfl) (Zm rfl (yX (yX (yX (yX (yX (Zu rfl rfl (Zu rfl rfl (Zu rfl rfl (Zu rfl rfl (yX (Zv (OV.am rfl rfl) (Nn (WC.co rfl ?_)))))))))))))))))))))))))))));refine Csr (Za rfl (Nn (WC.az ?_)));refine Xr ?_;exact WX.ret1 rfl rfl rfl (fun w' hw=>⟨by clear hw;simp_all [tstB] <;> omega,hw.fr⟩)
 refine yY (Zv (OV.f0 0 rfl T.u61 rfl) (yY (Zv (OV.l1 (v:=.int .i64 t.op) rfl T.u3 rfl yH rfl) (yY (Zv (OV.lj rfl rfl) (Zv (OV.aj rfl rfl) (Zm rfl ?_)))))));refine Zp (t:=11) rfl (fun g11=>?_) (fun g11=>?_)
 ·refine yX (yX (yX (yX (yX (Zu rfl rfl (Zu rfl rfl (Zu rfl rfl (Zu rfl rfl (yX (Zv (OV.am rfl rfl) (Zm rfl (yX (yX (yX (yX (yX (Zu rfl rfl (Zu rfl rfl (Zu rfl rfl (Zu rfl rfl (yX (Zv (OV.am rfl rfl) (Nn (WC.co rfl ?_))))))))))))))))))))))));refine Csr (Za rfl (Nn (WC.az ?_)));refine Xr ?_;exact WX.ret1 rfl rfl rfl (fun w' hw=>⟨by clear hw;simp_all [tstB] <;> omega,hw.fr⟩)
 refine yY (Zv (OV.f0 1 rfl T.u61 rfl) (yY (Zv (OV.ai (cs:=tmC t.l) rfl T.u26 rfl T.z26 (fun _ hw j v hj=>by rw [Jap];exact Jbv hw yH (o:=1) (cs':=tmC t.l) rfl j v hj)) (yY (WL.au (v:=.bool (Jcy t.l)) (by kernel_rfl) rfl rfl (fun w' hw'=>Jd7 t.l w') ?_)))));refine yY (Zv (OV.not rfl) (yY (Zm rfl ?_)));refine Zp (t:=16) rfl (fun g16=>?_) (fun g16=>?_)
 ·refine yY (Zv (OV.f0 1 rfl T.u61 rfl) (yY (Zv (OV.ai (cs:=tmC t.l) rfl T.u26 rfl T.z26 (fun _ hw j v hj=>by rw [Jap];exact Jbv hw yH (o:=1) (cs':=tmC t.l) rfl j v hj)) (yY (WL.au (v:=.bool (varB t.l)) (by kernel_rfl) rfl rfl (fun w' hw'=>Jcs t.l w') ?_)))));refine yY (Zv (OV.not rfl) (yY (Zv (OV.am rfl rfl) (Zv (OV.aj rfl rfl) (Zm rfl ?_)))));refine Zp (t:=23) rfl (fun g23=>?_) (fun g23=>?_)
  ·refine yX (yX (yX (yX (yX (Zu rfl rfl (Zu rfl rfl (Zu rfl rfl (Zu rfl rfl (yX (Zv (OV.am rfl rfl) (Nn (WC.co rfl ?_))))))))))));refine Csr (Za rfl (Nn (WC.az ?_)));refine Xr ?_;exact WX.ret1 rfl rfl rfl (fun w' hw=>⟨by clear hw;simp_all [tstB] <;> omega,hw.fr⟩)
  refine yY (Zv (OV.f0 4 rfl T.u61 rfl) (yY (Zv (OV.ai (cs:=tmC t.r) rfl T.u26 rfl T.z26 (fun _ hw j v hj=>by rw [Jap];exact Jbv hw yH (o:=4) (cs':=tmC t.r) rfl j v hj)) (yY (WL.au (v:=.bool (Jcy t.r)) (by kernel_rfl) rfl rfl (fun w' hw'=>Jd7 t.r w') ?_)))));refine yY (Zv (OV.not rfl) (yY (Zm rfl ?_)));refine Zp (t:=28) rfl (fun g28=>?_) (fun g28=>?_)
  ·refine yY (Zv (OV.f0 4 rfl T.u61 rfl) (yY (Zv (OV.ai (cs:=tmC t.r) rfl T.u26 rfl T.z26 (fun _ hw j v hj=>by rw [Jap];exact Jbv hw yH (o:=4) (cs':=tmC t.r) rfl j v hj)) (yY (WL.au (v:=.bool (varB t.r)) (by kernel_rfl) rfl rfl (fun w' hw'=>Jcs t.r w') ?_)))));refine yY (Zv (OV.not rfl) (yY (Zv (OV.am rfl rfl) (Zv (OV.aj rfl rfl) (Nn ?_)))));refine Cc rfl (fun c34=>?_) (fun c34=>?_)
   ·refine Csr (Za rfl (Nn (WC.az ?_)));refine Xr ?_;exact WX.ret1 rfl rfl rfl (fun w' hw=>⟨by clear hw;simp_all [tstB] <;> omega,hw.fr⟩)
   refine Ck (Xn (Csr (Za rfl (Nn (WC.az ?_)))));exact WX.ret1 rfl rfl rfl (fun w' hw=>⟨by clear hw;simp_all [tstB] <;> omega,hw.fr⟩)
  refine yX (yX (yX (yX (yY (Zv (OV.aj rfl rfl) (Zv (OV.aj rfl rfl) (Nn (WC.bu rfl ?_))))))));refine Ck (Xn (Csr (Za rfl (Nn (WC.az ?_)))));exact WX.ret1 rfl rfl rfl (fun w' hw=>⟨by clear hw;simp_all [tstB] <;> omega,hw.fr⟩)
 refine yX (yX (yX (yX (yY (Zv (OV.aj rfl rfl) (Zv (OV.aj rfl rfl) (Zm rfl (yY (Zv (OV.f0 4 rfl T.u61 rfl) (yY (Zv (OV.ai (cs:=tmC t.r) rfl T.u26 rfl T.z26 (fun _ hw j v hj=>by rw [Jap];exact Jbv hw yH (o:=4) (cs':=tmC t.r) rfl j v hj)) (yY (WL.au (v:=.bool (Jcy t.r)) (by kernel_rfl) rfl rfl (fun w' hw'=>Jd7 t.r w') ?_)))))))))))));refine yY (Zv (OV.not rfl) (yY (Zm rfl ?_)));refine Zp (t:=28) rfl (fun g28=>?_) (fun g28=>?_)
 ·refine yY (Zv (OV.f0 4 rfl T.u61 rfl) (yY (Zv (OV.ai (cs:=tmC t.r) rfl T.u26 rfl T.z26 (fun _ hw j v hj=>by rw [Jap];exact Jbv hw yH (o:=4) (cs':=tmC t.r) rfl j v hj)) (yY (WL.au (v:=.bool (varB t.r)) (by kernel_rfl) rfl rfl (fun w' hw'=>Jcs t.r w') ?_)))));refine yY (Zv (OV.not rfl) (yY (Zv (OV.am rfl rfl) (Zv (OV.aj rfl rfl) (Nn ?_)))));refine Cc rfl (fun c34=>?_) (fun c34=>?_)
  ·refine Csr (Za rfl (Nn (WC.az ?_)));refine Xr ?_;exact WX.ret1 rfl rfl rfl (fun w' hw=>⟨by clear hw;simp_all [tstB] <;> omega,hw.fr⟩)
  refine Ck (Xn (Csr (Za rfl (Nn (WC.az ?_)))));exact WX.ret1 rfl rfl rfl (fun w' hw=>⟨by clear hw;simp_all [tstB] <;> omega,hw.fr⟩)
 refine yX (yX (yX (yX (yY (Zv (OV.aj rfl rfl) (Zv (OV.aj rfl rfl) (Nn (WC.bu rfl ?_))))))));refine Ck (Xn (Csr (Za rfl (Nn (WC.az ?_)))));exact WX.ret1 rfl rfl rfl (fun w' hw=>⟨by clear hw;simp_all [tstB] <;> omega,hw.fr⟩)
theorem applyTest_calls (ys:List Bd)(t:Ts)(a:Option Addr)(c:Nat)(hl:ys.length≤1099511627776)(w:World)(hN:Jdb w)(hr:RBd w a ys):Calls Tryz.prog 23 #[.slice a ys.length c,tsV t] w fun e w'=>e=.returned (tsV (appT (sb ys) t))∧Fr0 w w':=by
 refine Jbo (args:=[.slice a ys.length c,tsV t]) (fun _=>False) Tryz.func23 rfl Tryz.ntmps23 rfl rfl ?_;refine Csr (WL.box rfl rfl rfl ?_);intro b3;refine WL.alloc T.zr61 rfl ?_;intro b4;refine Nn (Cs (Hd (fun w'=>w'.heap[b3]?=some (.cells (tsC t).toArray 61 (0,0))) [] (fun _ hw=>hw.it (oQ b3 (tsC t) 61) (by simp)) (m:=12) rfl ?_));refine Hf 0 rfl (OV.f0 0 rfl T.u61 rfl) (Ht 1 rfl (OV.ah (v:=.int .i64 t.op) rfl T.u3 rfl (fun _ hw=>(Jax hw (o:=0) rfl).1)) (Hf 2 rfl (OV.aw rfl) (Hf 3 rfl (OV.f0 1 rfl T.u61 rfl) (Ht 4 rfl (OV.ai (cs:=tmC t.l) rfl T.u26 rfl T.z26 (fun _ hw j v hj=>by rw [Jap];exact Jch hw (o:=1) (cs':=tmC t.l) rfl j v hj)) (Hf 6 rfl (OV.aw rfl) (Hf 7 rfl (OV.f0 4 rfl T.u61 rfl) (Ht 8 rfl (OV.ai (cs:=tmC t.r) rfl T.u26 rfl T.z26 (fun _ hw j v hj=>by rw [Jap];exact Jch hw (o:=4) (cs':=tmC t.r) rfl j v hj)) (Ho 5 rfl (fl':=false) rfl ?_))))))));refine WL.au (v:=tmV (becD (sb ys) t.l)) (by kernel_rfl) rfl rfl (fun w' hw'=>Jd5 ys t.l a c hl w' (hN.keeps hw'.keeps) (hr.keeps hw'.keeps)) ?_;refine Hc (fun _=>(fun _ hw=>hw.it (oQ b3 (tsC t) 61) (by simp))) ?_;refine Ho 9 rfl (fl':=false) rfl ?_;refine WL.au (v:=tmV (becD (sb ys) t.r)) (by kernel_rfl) rfl rfl (fun w' hw'=>Jd5 ys t.r a c hl w' (hN.keeps hw'.keeps) (hr.keeps hw'.keeps)) ?_;refine Hc (fun _=>(fun _ hw=>hw.it (oQ b3 (tsC t) 61) (by simp))) ?_;refine Hf 10 rfl (OV.ao (xs:=[(0,.tmp 6),(1,.tmp 10),(2,.tmp 14)]) (pl:=[(0,1),(1,3),(4,3)]) (cs:=tsC (appT (sb ys) t)) T.u61 T.zr61 (by kernel_rfl) rfl (Jal (us:=[_]) rfl rfl yW (Jal (us:=tmC (becD (sb ys) t.l)) rfl rfl yW (Jal (us:=tmC (becD (sb ys) t.r)) rfl rfl yW rfl)))) (Ho 11 rfl (fl':=false) rfl ?_);refine WL.ag (vs:=tsC (appT (sb ys) t)) rfl rfl rfl T.z61 rfl ?_;refine Hc (fun _=>(fun _ hw=>hw.it (oQ b3 (tsC t) 61) (by simp))) ?_;refine He (Xn (WC.az ?_));exact WX.retC (cs:=tsC (appT (sb ys) t)) rfl rfl rfl T.u61 rfl T.z61 (fun w' hw j v hj=>Jbh hw yH j v hj) (fun w' hw=>⟨rfl,hw.fr⟩)
theorem decide_calls (t:Ts)(w:World):Calls Tryz.prog 22 #[tsV t] w fun e w'=>e=.returned (.tuple #[.bool (decB t).1,.bool (decB t).2])∧Fr0 w w':=by
 refine Jbo (args:=[tsV t]) (fun _=>False) Tryz.func22 rfl Tryz.ntmps22 rfl rfl ?_;refine Csr (WL.box rfl rfl rfl ?_);intro b1;refine Za rfl (Za rfl (Nn (Cs (Csr (Zv (OV.lN (cs:=tsC t) rfl T.u61 rfl T.z61 yH) (WL.au (v:=.int .i64 (if tstB t=true then 0 else 32)) (by kernel_rfl) rfl rfl (fun w' hw'=>checkTest_calls t w') ?_))))));refine Zv (OV.iu rfl rfl) (Zm rfl ?_);refine Zp (t:=8) rfl (fun g8=>?_) (fun g8=>?_)
 ·refine yX (yX (yX (yX (Zv (OV.am rfl rfl) (Zm rfl (yX (yX (yX (yX (Zv (OV.am rfl rfl) (Nn (WC.co rfl ?_))))))))))));refine Csr (Za rfl (Za rfl (Nn (WC.az ?_))));refine Xr ?_;exact WX.ret2 rfl rfl rfl rfl (fun w' hw=>⟨by clear hw;simp_all [decB] <;> omega,hw.fr⟩)
 refine yY (Zv (OV.f0 1 rfl T.u61 rfl) (yY (Zv (OV.ai (cs:=tmC t.l) rfl T.u26 rfl T.z26 (fun _ hw j v hj=>by rw [Jap];exact Jbv hw yH (o:=1) (cs':=tmC t.l) rfl j v hj)) (yY (WL.au (v:=.bool (Jcy t.l)) (by kernel_rfl) rfl rfl (fun w' hw'=>Jd7 t.l w') ?_)))));refine yY (Zv (OV.not rfl) (Zv (OV.aj rfl rfl) (Zm rfl ?_)));refine Zp (t:=14) rfl (fun g14=>?_) (fun g14=>?_)
 ·refine yX (yX (yX (yX (Zv (OV.am rfl rfl) (Nn (WC.co rfl ?_))))));refine Csr (Za rfl (Za rfl (Nn (WC.az ?_))));refine Xr ?_;exact WX.ret2 rfl rfl rfl rfl (fun w' hw=>⟨by clear hw;simp_all [decB] <;> omega,hw.fr⟩)
 refine yY (Zv (OV.f0 4 rfl T.u61 rfl) (yY (Zv (OV.ai (cs:=tmC t.r) rfl T.u26 rfl T.z26 (fun _ hw j v hj=>by rw [Jap];exact Jbv hw yH (o:=4) (cs':=tmC t.r) rfl j v hj)) (yY (WL.au (v:=.bool (Jcy t.r)) (by kernel_rfl) rfl rfl (fun w' hw'=>Jd7 t.r w') ?_)))));refine yY (Zv (OV.not rfl) (Zv (OV.aj rfl rfl) (Nn ?_)));refine Cc rfl (fun c19=>?_) (fun c19=>?_)
 ·refine Csr (Za rfl (Za rfl (Nn (WC.az ?_))));refine Xr ?_;exact WX.ret2 rfl rfl rfl rfl (fun w' hw=>⟨by clear hw;simp_all [decB] <;> omega,hw.fr⟩)
 refine Ck (Xn (Csr (Zv (OV.f0 1 rfl T.u61 rfl) (Zv (OV.ai (cs:=tmC t.l) rfl T.u26 rfl T.z26 (fun _ hw j v hj=>by rw [Jap];exact Jbv hw yH (o:=1) (cs':=tmC t.l) rfl j v hj)) (Zv (OV.f0 4 rfl T.u61 rfl) (Zv (OV.ai (cs:=tmC t.r) rfl T.u26 rfl T.z26 (fun _ hw j v hj=>by rw [Jap];exact Jbv hw yH (o:=4) (cs':=tmC t.r) rfl j v hj)) (WL.au (v:=.int .i64 (cmpT t.l t.r)) (by kernel_rfl) rfl rfl (fun w' hw'=>Jjl t.l t.r w') ?_)))))));refine Za rfl (Nn (Cs (Csr (Zv (OV.f0 0 rfl T.u61 rfl) (Zv (OV.l1 (v:=.int .i64 t.op) rfl T.u3 rfl yH rfl) (Nn (Cb (Csr (Zv (OV.eb rfl rfl) (Za rfl (Nn ?_)))))))))));refine Cc rfl (fun c27=>?_) (fun c27=>?_)
 ·refine Csr (Zm rfl (Zv (OV.eb rfl rfl) (Za rfl (Za rfl (Nn (WC.az ?_))))));refine Xq (Xr ?_);exact WX.ret2 rfl rfl rfl rfl (fun w' hw=>⟨by clear hw;simp_all [decB] <;> omega,hw.fr⟩)
 refine Csr (Zv (OV.eb rfl rfl) (Za rfl (Nn ?_)));refine Cc rfl (fun c31=>?_) (fun c31=>?_)
 ·refine Csr (Zm rfl (Zv (OV.iu rfl rfl) (Za rfl (Za rfl (Nn (WC.az ?_))))));refine Xq (Xr ?_);exact WX.ret2 rfl rfl rfl rfl (fun w' hw=>⟨by clear hw;simp_all [decB] <;> omega,hw.fr⟩)
 refine Csr (Zv (OV.eb rfl rfl) (Za rfl (Nn ?_)));refine Cc rfl (fun c35=>?_) (fun c35=>?_)
 ·refine Csr (Zm rfl (Zv (OV.cq rfl rfl) (Za rfl (Za rfl (Nn (WC.az ?_))))));refine Xq (Xr ?_);exact WX.ret2 rfl rfl rfl rfl (fun w' hw=>⟨by clear hw;simp_all [decB] <;> omega,hw.fr⟩)
 refine Ck (Xb (Xn (Csr (Zm rfl (Zv (OV.mw rfl rfl) (Za rfl (Za rfl (Nn (WC.az ?_)))))))));exact WX.ret2 rfl rfl rfl rfl (fun w' hw=>⟨by clear hw;simp_all [decB] <;> omega,hw.fr⟩)
theorem Je9 {α:Type}{p:List α→Prop}(l:List α)(h0:p [])(h1:∀ l x,p l→p (l++[x])):p l:=by
 have h:∀ l:List α,p l.reverse:=fun l=>by
  induction l with
  | nil=>exact h0
  | cons x l ih=>rw [List.reverse_cons];exact h1 _ _ ih
 have h2:=h l.reverse;rwa [List.reverse_reverse] at h2
def mapA (f:Tm→Tm)(x:At):At:=⟨f x.b,x.name,x.args.map f⟩
def mapT (f:Tm→Tm)(t:Ts):Ts:=⟨t.op,f t.l,f t.r⟩
def mapC (f:Tm→Tm)(c:Cl):Cl:=⟨mapA f c.hd,c.bd.map (mapA f),c.ts.map (mapT f)⟩
def plT (t:Ts):List Tm:=[t.l,t.r]
def Jck (c:Cl):List Tm:=c.bd.flatMap plc
def Jd3 (c:Cl):List Tm:=c.ts.flatMap plT
def Jbi (c:Cl):List Tm:=plc c.hd++(Jck c++Jd3 c)
def dedV (l:List Tm):List Tm:=l.foldl (fun acc t=>if varB t=true∧t∉acc then acc++[t] else acc) []
theorem Jdu (l:List Tm)(t:Tm):dedV (l++[t])=if varB t=true∧t∉dedV l then dedV l++[t] else dedV l:=by
 unfold dedV;rw [List.foldl_append];rfl
theorem Jgt (l:List Tm):∀ t,t∈dedV l↔t∈l∧varB t=true:=by
 induction l using Je9 with
 | h0=>intro t;simp [dedV]
 | h1 l u ih=>
  intro t;rw [Jdu,xT,xI]
  split
  ·rename_i h;rw [xT,xI,ih];constructor
   ·rintro (hh | rfl)
    ·exact ⟨Or.inl hh.1,hh.2⟩
    ·exact ⟨Or.inr rfl,h.1⟩
   ·rintro ⟨hh | hh,hv⟩
    ·exact Or.inl ⟨hh,hv⟩
    ·exact Or.inr hh
  ·rename_i h;rw [ih];constructor
   ·rintro ⟨hh,hv⟩;exact ⟨Or.inl hh,hv⟩
   ·rintro ⟨hh | rfl,hv⟩
    ·exact ⟨hh,hv⟩
    ·by_cases hm:t∈dedV l
     ·exact (ih t).1 hm
     ·exact absurd ⟨hv,hm⟩ h
theorem dedV_nodup (l:List Tm):(dedV l).Nodup:=by
 induction l using Je9 with
 | h0=>simp [dedV]
 | h1 l u ih=>
  rw [Jdu]
  split
  ·rename_i h;refine List.nodup_append.2 ⟨ih,by simp,fun x hx y hy=>?_⟩;simp only [xI] at hy;subst hy;rintro rfl;exact h.2 hx
  ·exact ih
theorem dedV_len (l:List Tm):(dedV l).length≤l.length:=by
 induction l using Je9 with
 | h0=>simp [dedV]
 | h1 l u ih=>rw [Jdu];split <;> simp <;> omega
theorem dedV_map {f:Tm→Tm}(l:List Tm)(hv:∀ t∈l,varB (f t)=varB t)(hi:∀ t∈l,∀ u∈l,varB t=true→varB u=true→f t=f u→t=u):dedV (l.map f)=(dedV l).map f:=by
 induction l using Je9 with
 | h0=>rfl
 | h1 l u ih=>
  have ih2:=ih (fun t ht=>hv t (by simp [ht])) (fun t ht v hvv=>hi t (by simp [ht]) v (by simp [hvv]));rw [xU,List.map_singleton,Jdu,Jdu,ih2,hv u (by simp)]
  have e:(varB u=true∧f u∉(dedV l).map f)↔(varB u=true∧u∉dedV l):=by
   refine and_congr_right fun h=>not_congr ⟨fun hh=>?_,fun hh=>List.mem_map.2 ⟨u,hh,rfl⟩⟩
   obtain ⟨t,ht,he⟩:=List.mem_map.1 hh;have h1:=(Jgt l t).1 ht;rw [← hi t (by simp [h1.1]) u (by simp) h1.2 h he];exact ht
  by_cases h:varB u=true∧u∉dedV l
  ·rw [if_pos (e.2 h),if_pos h];simp
  ·rw [if_neg (fun k=>h (e.1 k)),if_neg h]
structure VC (c:Cl):Prop where
 bl:c.bd.length≤8
 tl:c.ts.length≤8
 hd:chkA c.hd=0
 bd:∀ a∈c.bd,chkA a=0
 ts:∀ t∈c.ts,tstB t=true
 hb:varB c.hd.b=false
 safe:∀ t∈plc c.hd++Jd3 c,varB t=true→t∈Jck c
 num:∀ (i:Nat) (t:Tm),(dedV (Jbi c))[i]?=some t→t.n=(i:Int)
def nV (c:Cl):Nat:=(dedV (Jbi c)).length
theorem var_eq {t u:Tm}(ht:varB t=true)(hu:varB u=true)(h:t.n=u.n):t=u:=by
 obtain ⟨k,n,s⟩:=t;obtain ⟨k2,n2,s2⟩:=u;unfold varB at ht hu;simp only [yA,decide_eq_true_eq] at ht hu;simp only at h;rw [ht.1.1,hu.1.1,ht.2,hu.2,h]
theorem mem_bodyTm {c:Cl}{t:Tm}:t∈Jck c↔∃ a∈c.bd,t∈plc a:=List.mem_flatMap
theorem mem_testTm {c:Cl}{t:Tm}:t∈Jd3 c↔∃ a∈c.ts,t∈plT a:=List.mem_flatMap
theorem VC.cvn {c:Cl}(h:VC c):CVn c (nV c):=by
 have key:∀ t∈Jbi c,varB t=true→0≤t.n∧t.n<(nV c:Int):=fun t ht hv=>by
  obtain ⟨i,hi⟩:=List.mem_iff_getElem?.1 ((Jgt _ t).2 ⟨ht,hv⟩);have h1:=h.num i t hi;have h2:=(List.getElem?_eq_some_iff.1 hi).1;unfold nV;omega
 refine ⟨fun v=>⟨?_,fun hv=>?_⟩,fun t ht v hv=>?_,fun v hv=>?_⟩
 ·rintro ⟨a,ha,hv⟩;obtain ⟨t,ht,htv,rfl⟩:=mem_varsOf.1 hv;exact key t (by unfold Jbi;simp only [xT];exact Or.inr (Or.inl (mem_bodyTm.2 ⟨a,ha,ht⟩))) htv
 ·have hl:v.toNat<(dedV (Jbi c)).length:=by have:=hv.2;unfold nV at this;omega
  obtain ⟨t,hi⟩:∃ t,(dedV (Jbi c))[v.toNat]?=some t:=⟨_,xD hl⟩
  have h1:=h.num _ _ hi;have h2:=(Jgt _ _).1 (xC hi)
  have h3:t∈Jck c:=by
   have:=h2.1;unfold Jbi at this;simp only [xT] at this;rcases this with hh | hh | hh
   ·exact h.safe _ (by simp [hh]) h2.2
   ·exact hh
   ·exact h.safe _ (by simp [hh]) h2.2
  obtain ⟨a,ha,ht⟩:=mem_bodyTm.1 h3;exact ⟨a,ha,mem_varsOf.2 ⟨_,ht,h2.2,by omega⟩⟩
 ·unfold varsT at hv;obtain ⟨x,hx,rfl⟩:=List.mem_map.1 hv;obtain ⟨hx1,hx2⟩:=List.mem_filter.1 hx;exact key x (by unfold Jbi;simp only [xT];exact Or.inr (Or.inr (mem_testTm.2 ⟨t,ht,hx1⟩))) hx2
 ·obtain ⟨t,ht,htv,rfl⟩:=mem_varsOf.1 hv;exact key t (by unfold Jbi;simp only [xT];exact Or.inl ht) htv
def Jb1 (t:Tm):Tm:=if Jcy t=true then t else if t.kind=2 then ⟨2,0,t.s.extract 0 (min t.s.size 64)⟩ else ⟨1,t.n,E0⟩
def Jcn (t:Tm):Tm:=if varB t=true then t else Jb1 t
def Jci (t:Tm):Tm:=if t.kind=3 then ⟨1,t.n,E0⟩ else t
abbrev pN:ByteArray:=⟨#[112]⟩
def Jaf (x:At):At:=⟨if chkA ⟨x.b,pN,[]⟩=0 then x.b else T0,if chkA ⟨T0,x.name,[]⟩=0 then x.name else pN,(x.args.take 8).map Jcn⟩
def nvB (t:Tm):Tm:=if t.kind=3 then T0 else t
def Jce (x:At):At:=⟨nvB (Jaf x).b,(Jaf x).name,(Jaf x).args.map Jci⟩
def safeT (l:List Tm)(t:Tm):Tm:=if t∈l then t else Jci t
def Jkw (o:Int):Int:=if o<1∨4<o then 1+((o.tmod 4)+4).tmod 4 else o
def Jfu (body:List Tm)(t:Ts):Ts:=⟨Jkw t.op,safeT body (Jcn t.l),safeT body (Jcn t.r)⟩
def made0 (c:Cl):Cl:=
 let bd:=(c.bd.take 8).map Jaf
 let bt:=bd.flatMap plc
 let h:=Jaf c.hd
 ⟨⟨nvB h.b,h.name,h.args.map (safeT bt)⟩,bd,(c.ts.take 8).map (Jfu bt)⟩
def numT (vs:List Tm)(t:Tm):Tm:=if t∈vs then ⟨3,(vs.idxOf t:Nat),E0⟩ else t
def normC (c:Cl):Cl:=mapC (numT (dedV (Jbi c))) c
def madeC (c:Cl):Cl:=normC (made0 c)
theorem madeConst_ok (t:Tm):Jcy (Jb1 t)=true:=by
 unfold Jb1
 split
 ·assumption
 ·split
  ·unfold Jcy;have:(t.s.extract 0 (min t.s.size 64)).size≤64:=by rw [ByteArray.size_extract];omega
   show (if (2:Int)=1 then _ else if (2:Int)=2 then (decide ((0:Int)=0) && decide (_≤64)) else false)=true;rw [if_neg (by decide),if_pos rfl,xO rfl,xO this];rfl
  ·simp [Jcy]
theorem Jnp (t:Tm):badB (Jcn t)=false:=by
 unfold Jcn badB
 split
 ·rename_i h;simp [h]
 ·simp [madeConst_ok]
theorem chkA_zero {x:At}:chkA x=0↔nameB x.name=true∧x.args.length≤8∧(x.b=T0∨prinB x.b=true∨varB x.b=true)∧∀ t∈x.args,badB t=false:=by
 unfold chkA;constructor
 ·intro h
  split at h
  ·cases h
  ·split at h
   ·cases h
   ·split at h
    ·cases h
    ·split at h
     ·cases h
     ·rename_i h1 h2 h3 h4;refine ⟨by simpa using h1,by omega,?_,fun t ht=>?_⟩
      ·by_cases a:x.b=T0
       ·exact Or.inl a
       ·by_cases b:prinB x.b=true
        ·exact Or.inr (Or.inl b)
        ·by_cases c:varB x.b=true
         ·exact Or.inr (Or.inr c)
         ·exact absurd ⟨a,by simpa using b,by simpa using c⟩ h3
      ·by_cases hb:badB t=true
       ·exact absurd (List.any_eq_true.2 ⟨t,ht,hb⟩) h4
       ·simpa using hb
 ·rintro ⟨h1,h2,h3,h4⟩
  rw [if_neg (by rw [h1];simp),if_neg (by omega),if_neg (by
   rintro ⟨a,b,c⟩;rcases h3 with h | h | h
   ·exact a h
   ·rw [b] at h;cases h
   ·rw [c] at h;cases h),if_neg (by
   intro h;obtain ⟨t,ht,hb⟩:=List.any_eq_true.1 h;rw [h4 t ht] at hb;cases hb)]
theorem name_p:nameB pN=true:=by
 unfold nameB;rw [decide_eq_true_eq];refine ⟨by decide,by decide,by decide,by decide,by decide,fun i hi=>?_⟩;have:i=0:=by have h:pN.size=1:=rfl;omega
 subst this;decide
theorem Jk7 (x:At):chkA (Jaf x)=0:=by
 unfold Jaf;refine chkA_zero.2 ⟨?_,?_,?_,fun t ht=>?_⟩
 ·show nameB (if _ then _ else _)=true
  split
  ·rename_i h;exact (chkA_zero.1 h).1
  ·exact name_p
 ·simp;omega
 ·show (if chkA ⟨x.b,pN,[]⟩=0 then x.b else T0)=T0∨_
  split
  ·rename_i h;exact (chkA_zero.1 h).2.2.1
  ·exact Or.inl rfl
 ·obtain ⟨u,_,rfl⟩:=List.mem_map.1 ht;exact Jnp u
theorem ground_bad {t:Tm}(h:badB t=false):badB (Jci t)=false:=by
 unfold Jci
 split
 ·simp [badB,Jcy]
 ·exact h
theorem ground_var (t:Tm):varB (Jci t)=false:=by
 unfold Jci
 split
 ·simp [varB]
 ·rename_i h;simp [varB,h]
theorem Jnc {l:List Tm}{t:Tm}(h:badB t=false):badB (safeT l t)=false:=by
 unfold safeT
 split
 ·exact h
 ·exact ground_bad h
theorem Jnb {l:List Tm}{t:Tm}(h:varB (safeT l t)=true):safeT l t∈l:=by
 unfold safeT at h ⊢
 split at h
 ·rename_i hm;rw [if_pos hm];exact hm
 ·rw [ground_var] at h;cases h
theorem nvB_var (t:Tm):varB (nvB t)=false:=by
 unfold nvB
 split
 ·rfl
 ·rename_i h;simp [varB,h]
theorem madeOp_ok (o:Int):1≤Jkw o∧Jkw o≤4:=by
 unfold Jkw
 split
 ·have h1:=Int.tmod_lt_of_pos o (show (0:Int)<4 by decide);have h2:=Int.lt_tmod_of_pos o (show (0:Int)<4 by decide);rw [Int.tmod_eq_emod_of_nonneg (by omega)];omega
 ·omega
structure VC0 (c:Cl):Prop where
 bl:c.bd.length≤8
 tl:c.ts.length≤8
 hd:chkA c.hd=0
 bd:∀ a∈c.bd,chkA a=0
 ts:∀ t∈c.ts,tstB t=true
 hb:varB c.hd.b=false
 safe:∀ t∈plc c.hd++Jd3 c,varB t=true→t∈Jck c
theorem tst_ok {t:Ts}(h:1≤t.op∧t.op≤4)(hl:badB t.l=false)(hr:badB t.r=false):tstB t=true:=by
 unfold badB at hl hr;unfold tstB;rw [xO h]
 revert hl hr
 cases Jcy t.l <;> cases varB t.l <;> cases Jcy t.r <;> cases varB t.r <;> simp
theorem tst_bad {t:Ts}(h:tstB t=true):(1≤t.op∧t.op≤4)∧badB t.l=false∧badB t.r=false:=by
 unfold tstB at h;simp only [yA,decide_eq_true_eq] at h;obtain ⟨⟨h1,h2⟩,h3⟩:=h;refine ⟨h1,?_,?_⟩
 ·unfold badB;revert h2;cases Jcy t.l <;> cases varB t.l <;> simp
 ·unfold badB;revert h3;cases Jcy t.r <;> cases varB t.r <;> simp
theorem made0_ok (c:Cl):VC0 (made0 c):=by
 have hh:=chkA_zero.1 (Jk7 c.hd);refine ⟨by simp [made0];omega,by simp [made0];omega,chkA_zero.2 ⟨hh.1,by simpa [made0] using hh.2.1,?_,fun t ht=>?_⟩,fun a ha=>?_,fun t ht=>?_,nvB_var _,fun t ht hv=>?_⟩
 ·show nvB (Jaf c.hd).b=T0∨_
  by_cases hk:(Jaf c.hd).b.kind=3
  ·left;unfold nvB;rw [if_pos hk]
  ·have e:nvB (Jaf c.hd).b=(Jaf c.hd).b:=by unfold nvB;rw [if_neg hk]
   show nvB (Jaf c.hd).b=T0∨prinB (nvB (Jaf c.hd).b)=true∨varB (nvB (Jaf c.hd).b)=true;rw [e];exact hh.2.2.1
 ·obtain ⟨u,hu,rfl⟩:=List.mem_map.1 ht;exact Jnc (hh.2.2.2 u hu)
 ·obtain ⟨u,_,rfl⟩:=List.mem_map.1 ha;exact Jk7 u
 ·obtain ⟨u,_,rfl⟩:=List.mem_map.1 ht;exact tst_ok (madeOp_ok _) (Jnc (Jnp _)) (Jnc (Jnp _))
 ·rcases List.mem_append.1 ht with h | h
  ·rcases List.mem_cons.1 h with rfl | h
   ·have:=nvB_var (Jaf c.hd).b;rw [show (made0 c).hd.b=nvB (Jaf c.hd).b from rfl,this] at hv;cases hv
   ·obtain ⟨u,_,rfl⟩:=List.mem_map.1 h;exact Jnb hv
  ·obtain ⟨a,ha,h⟩:=mem_testTm.1 h;obtain ⟨u,_,rfl⟩:=List.mem_map.1 ha;simp only [plT,Jfu,yG,List.not_mem_nil,or_false] at h;rcases h with rfl | rfl
   ·exact Jnb hv
   ·exact Jnb hv
theorem Jmx {vs:List Tm}(hvs:∀ t∈vs,varB t=true)(t:Tm):varB (numT vs t)=varB t:=by
 unfold numT
 split
 ·rename_i h;rw [hvs t h];simp [varB]
 ·rfl
theorem num_fix {vs:List Tm}(hvs:∀ t∈vs,varB t=true){t:Tm}(h:varB t=false):numT vs t=t:=by
 unfold numT
 split
 ·rename_i hm;rw [hvs t hm] at h;cases h
 ·rfl
theorem Jok {vs:List Tm}(hvs:∀ t∈vs,varB t=true){t:Tm}(h:badB t=false):badB (numT vs t)=false:=by
 by_cases hv:varB t=true
 ·unfold badB;rw [Jmx hvs,hv];simp
 ·rw [num_fix hvs (by simpa using hv)];exact h
theorem chk_map {vs:List Tm}(hvs:∀ t∈vs,varB t=true){x:At}(h:chkA x=0):chkA (mapA (numT vs) x)=0:=by
 obtain ⟨h1,h2,h3,h4⟩:=chkA_zero.1 h;refine chkA_zero.2 ⟨h1,by simpa [mapA] using h2,?_,fun t ht=>?_⟩
 ·show numT vs x.b=T0∨prinB (numT vs x.b)=true∨varB (numT vs x.b)=true
  by_cases hv:varB x.b=true
  ·exact Or.inr (Or.inr (by rw [Jmx hvs];exact hv))
  ·rw [num_fix hvs (by simpa using hv)];exact h3
 ·obtain ⟨u,hu,rfl⟩:=List.mem_map.1 ht;exact Jok hvs (h4 u hu)
theorem body_map (f:Tm→Tm)(c:Cl):Jck (mapC f c)=(Jck c).map f:=by
 unfold Jck mapC;simp only [List.flatMap_map,List.map_flatMap];rfl
theorem test_map (f:Tm→Tm)(c:Cl):Jd3 (mapC f c)=(Jd3 c).map f:=by
 unfold Jd3 mapC;simp only [List.flatMap_map,List.map_flatMap];rfl
theorem terms_map (f:Tm→Tm)(c:Cl):Jbi (mapC f c)=(Jbi c).map f:=by
 unfold Jbi;rw [body_map,test_map,xU,xU];rfl
theorem idx_get {l:List Tm}{t:Tm}(h:t∈l):l[l.idxOf t]?=some t:=by
 have hl:=List.idxOf_lt_length_of_mem h;rw [xD hl,List.getElem_idxOf]
theorem idx_inj {l:List Tm}{t u:Tm}(ht:t∈l)(hu:u∈l)(h:l.idxOf t=l.idxOf u):t=u:=by
 have e1:=idx_get ht;rw [h,idx_get hu] at e1;exact (xH e1).symm
theorem norm_ok {c:Cl}(h:VC0 c):VC (normC c):=by
 have hvs:∀ t∈dedV (Jbi c),varB t=true:=fun t ht=>((Jgt _ t).1 ht).2
 refine ⟨by simpa [normC,mapC] using h.bl,by simpa [normC,mapC] using h.tl,chk_map hvs h.hd,fun a ha=>?_,fun t ht=>?_,?_,fun t ht hv=>?_,fun i t hi=>?_⟩
 ·obtain ⟨u,hu,rfl⟩:=List.mem_map.1 ha;exact chk_map hvs (h.bd u hu)
 ·obtain ⟨u,hu,rfl⟩:=List.mem_map.1 ht;obtain ⟨h1,h2,h3⟩:=tst_bad (h.ts u hu);exact tst_ok h1 (Jok hvs h2) (Jok hvs h3)
 ·show varB (numT _ c.hd.b)=false;rw [Jmx hvs];exact h.hb
 ·unfold normC at ht ⊢;rw [body_map];rw [test_map,show plc (mapC (numT (dedV (Jbi c))) c).hd=(plc c.hd).map (numT (dedV (Jbi c))) from rfl,← xU] at ht;obtain ⟨u,hu,rfl⟩:=List.mem_map.1 ht;rw [Jmx hvs] at hv;exact List.mem_map.2 ⟨u,h.safe u hu hv,rfl⟩
 ·unfold normC at hi
  rw [terms_map,dedV_map _ (fun t _=>Jmx hvs t) (fun t ht u hu hv hv2 he=>by
   have ht2:=(Jgt _ t).2 ⟨ht,hv⟩;have hu2:=(Jgt _ u).2 ⟨hu,hv2⟩;unfold numT at he;rw [if_pos ht2,if_pos hu2] at he;simp only [Tm.mk.injEq,true_and,and_true] at he;exact idx_inj ht2 hu2 (by omega)),xG] at hi
  obtain ⟨u,hu,rfl⟩:=Option.map_eq_some_iff.1 hi;have hl:=(List.getElem?_eq_some_iff.1 hu)
  obtain ⟨hl1,hl2⟩:=hl;unfold numT;rw [if_pos (by rw [← hl2];exact List.getElem_mem _),← hl2,List.Nodup.idxOf_getElem (dedV_nodup _) i hl1]
theorem madeC_ok (c:Cl):VC (madeC c):=norm_ok (made0_ok c)
theorem ground_calls (t:Tm)(w:World):Calls Tryz.prog 77 #[tmV t] w fun e w'=>e=.returned (tmV (Jci t))∧Fr0 w w':=by
 refine Jbo (args:=[tmV t]) (fun _=>False) Tryz.func77 rfl Tryz.ntmps77 rfl rfl ?_;refine Csr (WL.box rfl rfl rfl ?_);intro b1;refine WL.alloc T.zr26 rfl ?_;intro b2;refine Nn (Cs (Csr (Zv (OV.f0 0 rfl T.u26 rfl) (Zv (OV.l1 (v:=.int .i64 t.kind) rfl T.u3 rfl yI rfl) (Zv (OV.eb rfl rfl) (Nn ?_))))));refine Cc rfl (fun c5=>?_) (fun c5=>?_)
 ·refine Csr (Zv (OV.f0 1 rfl T.u26 rfl) (Zv (OV.l1 (v:=.int .i64 t.n) rfl T.u3 rfl yI rfl) ?_));have hg:Jci t=⟨1,t.n,E0⟩:=by unfold Jci;rw [if_pos (by simpa using c5)]
  refine Zv (OV.ao (xs:=[(0,.const (.int .i64 1)),(1,.tmp 7)]) (pl:=[(0,1),(1,1),(2,1)]) (cs:=tmC (Jci t)) T.u26 T.zr26 (by kernel_rfl) rfl (by rw [hg];exact Jal (us:=[_]) rfl rfl yW (Jal (us:=[_]) rfl rfl yW rfl))) (WL.ag (vs:=tmC (Jci t)) rfl rfl rfl T.z26 rfl ?_);refine Nn (WC.az ?_);refine Xr ?_;exact WX.retC (cs:=tmC (Jci t)) rfl rfl rfl T.u26 rfl T.z26 (fun w' hw j v hj=>Jbh hw yH j v hj) (fun w' hw=>⟨rfl,hw.fr⟩)
 refine Ck (Xn (Csr (Zv (OV.lN (cs:=tmC t) rfl T.u26 rfl T.z26 yI) ?_)));have hg:Jci t=t:=by unfold Jci;rw [if_neg (by simpa using c5)]
 refine WL.ag (vs:=tmC (Jci t)) rfl (by rw [hg];rfl) rfl T.z26 rfl ?_;refine Nn (WC.az ?_);exact WX.retC (cs:=tmC (Jci t)) rfl rfl rfl T.u26 rfl T.z26 (fun w' hw j v hj=>Jbh hw yH j v hj) (fun w' hw=>⟨rfl,hw.fr⟩)
theorem Jfk (t:Tm)(w:World):Calls Tryz.prog 74 #[tmV t] w fun e w'=>e=.returned (tmV (Jb1 t))∧Fr0 w w':=by
 refine Jbo (args:=[tmV t]) (fun _=>False) Tryz.func74 rfl Tryz.ntmps74 rfl rfl ?_;refine Csr (WL.box rfl rfl rfl ?_);intro b1;refine WL.alloc T.zr26 rfl ?_;intro b2;refine Nn (Cs (Csr (Zv (OV.lN (cs:=tmC t) rfl T.u26 rfl T.z26 yI) (WL.au (v:=.bool (Jcy t)) (by kernel_rfl) rfl rfl (fun w' hw'=>Jef t w') ?_))));refine Nn ?_;refine Cc rfl (fun c5=>?_) (fun c5=>?_)
 ·refine Csr (Zv (OV.lN (cs:=tmC t) rfl T.u26 rfl T.z26 yI) ?_);have hm:Jb1 t=t:=by unfold Jb1;rw [if_pos (by simpa using c5)]
  refine WL.ag (vs:=tmC (Jb1 t)) rfl (by rw [hm];rfl) rfl T.z26 rfl ?_;refine Nn (WC.az ?_);refine Xr ?_;exact WX.retC (cs:=tmC (Jb1 t)) rfl rfl rfl T.u26 rfl T.z26 (fun w' hw j v hj=>Jbh hw yH j v hj) (fun w' hw=>⟨rfl,hw.fr⟩)
 refine Ck (Xn (Cs (Csr (Zv (OV.f0 0 rfl T.u26 rfl) (Zv (OV.l1 (v:=.int .i64 t.kind) rfl T.u3 rfl yI rfl) (Zv (OV.eb rfl rfl) (Nn ?_)))))));refine Cc rfl (fun c9=>?_) (fun c9=>?_)
 ·refine Csr (Zv (OV.f0 2 rfl T.u26 rfl) (Zv (OV.l1 (v:=.string t.s) rfl T.u9 rfl yI rfl) (Zv (OV.da rfl T.u9) (Za rfl (Nn (Cs (Csr (Zm rfl (Zv (OV.lj rfl rfl) (Nn ?_))))))))));refine Cc rfl (fun c14=>?_) (fun c14=>?_)
  ·refine Cr (Za rfl (Nn (Csr (Zv (OV.f0 2 rfl T.u26 rfl) (Zv (OV.l1 (v:=.string t.s) rfl T.u9 rfl yI rfl) (Zm rfl (Zv (OV.sliceStr (ml:=none) (mh:=some 64) (l:=0) (h:=64) rfl T.u9 rfl (by rfl) rfl rfl (by omega)) ?_)))))));have hc:¬ Jcy t=true:=by simpa using c5
   have hk:t.kind=2:=by simpa using c9
   have hm:Jb1 t=⟨2,0,t.s.extract 0 64⟩:=by unfold Jb1;rw [if_neg hc,if_pos hk,show min t.s.size 64=64 by omega]
   refine Zv (OV.ao (xs:=[(0,.const (.int .i64 2)),(2,.tmp 18)]) (pl:=[(0,1),(1,1),(2,1)]) (cs:=tmC (Jb1 t)) T.u26 T.zr26 (by kernel_rfl) rfl (by rw [hm];exact Jal (us:=[_]) rfl rfl yW (Jal (us:=[_]) rfl rfl yW rfl))) (WL.ag (vs:=tmC (Jb1 t)) rfl rfl rfl T.z26 rfl ?_);refine Nn (WC.az ?_);refine Xr ?_;exact WX.retC (cs:=tmC (Jb1 t)) rfl rfl rfl T.u26 rfl T.z26 (fun w' hw j v hj=>Jbh hw yH j v hj) (fun w' hw=>⟨rfl,hw.fr⟩)
  refine Ck (Xn (Csr (Zv (OV.f0 2 rfl T.u26 rfl) (Zv (OV.l1 (v:=.string t.s) rfl T.u9 rfl yI rfl) (Zm rfl (Zv (OV.sliceStr (ml:=none) (mh:=some t.s.size) (l:=0) (h:=t.s.size) rfl T.u9 rfl (by rfl) rfl rfl (by omega)) ?_))))));have hc:¬ Jcy t=true:=by simpa using c5
  have hk:t.kind=2:=by simpa using c9
  have hm:Jb1 t=⟨2,0,t.s.extract 0 t.s.size⟩:=by unfold Jb1;rw [if_neg hc,if_pos hk,show min t.s.size 64=t.s.size by omega]
  refine Zv (OV.ao (xs:=[(0,.const (.int .i64 2)),(2,.tmp 18)]) (pl:=[(0,1),(1,1),(2,1)]) (cs:=tmC (Jb1 t)) T.u26 T.zr26 (by kernel_rfl) rfl (by rw [hm];exact Jal (us:=[_]) rfl rfl yW (Jal (us:=[_]) rfl rfl yW rfl))) (WL.ag (vs:=tmC (Jb1 t)) rfl rfl rfl T.z26 rfl ?_);refine Nn (WC.az ?_);refine Xr ?_;exact WX.retC (cs:=tmC (Jb1 t)) rfl rfl rfl T.u26 rfl T.z26 (fun w' hw j v hj=>Jbh hw yH j v hj) (fun w' hw=>⟨rfl,hw.fr⟩)
 refine Ck (Xn (Csr (Zv (OV.f0 1 rfl T.u26 rfl) (Zv (OV.l1 (v:=.int .i64 t.n) rfl T.u3 rfl yI rfl) ?_))));have hc:¬ Jcy t=true:=by simpa using c5
 have hk:¬ t.kind=2:=by simpa using c9
 have hm:Jb1 t=⟨1,t.n,E0⟩:=by unfold Jb1;rw [if_neg hc,if_neg hk]
 refine Zv (OV.ao (xs:=[(0,.const (.int .i64 1)),(1,.tmp 21)]) (pl:=[(0,1),(1,1),(2,1)]) (cs:=tmC (Jb1 t)) T.u26 T.zr26 (by kernel_rfl) rfl (by rw [hm];exact Jal (us:=[_]) rfl rfl yW (Jal (us:=[_]) rfl rfl yW rfl))) (WL.ag (vs:=tmC (Jb1 t)) rfl rfl rfl T.z26 rfl ?_);refine Nn (WC.az ?_);exact WX.retC (cs:=tmC (Jb1 t)) rfl rfl rfl T.u26 rfl T.z26 (fun w' hw j v hj=>Jbh hw yH j v hj) (fun w' hw=>⟨rfl,hw.fr⟩)
theorem letter_calls (c:UInt8)(w:World):Calls Tryz.prog 154 #[.int .u8 (c.toNat:Int)] w fun e w'=>e=.returned (.bool (letB c))∧Fr0 w w':=by
 refine Jbo (args:=[.int .u8 (c.toNat:Int)]) (fun _=>False) Tryz.func154 rfl Tryz.ntmps154 rfl rfl ?_;refine Csr (Za rfl (Nn (Csr (Zm rfl (Zv (OV.jy rfl rfl) (Zm rfl ?_))))));refine Zp (t:=5) rfl (fun g5=>?_) (fun g5=>?_)
 ·refine yY (Zm rfl (yY (Zv (OV.mw rfl rfl) (Zv (OV.am rfl rfl) (Zm rfl ?_)))));refine Zp (t:=9) rfl (fun g9=>?_) (fun g9=>?_)
  ·refine yX (yX (yX (Zu rfl rfl (Zu rfl rfl (yX (Zv (OV.am rfl rfl) (Zm rfl (yX (yX (yX (Zu rfl rfl (Zu rfl rfl (yX (Zv (OV.am rfl rfl) (Zm rfl (yX (yX (Zv (OV.am rfl rfl) (Za rfl (Nn (WC.az ?_)))))))))))))))))))));exact WX.ret1 rfl rfl rfl (fun w' hw=>⟨by clear hw;congr 2;unfold letB;first | (rw [eq_comm,decide_eq_true_eq];omega) | (rw [eq_comm,decide_eq_false_iff_not];omega) | (rw [decide_eq_decide];omega),hw.fr⟩)
  refine yY (Zm rfl (yY (Zv (OV.jy rfl rfl) (yY (Zm rfl ?_)))));refine Zp (t:=12) rfl (fun g12=>?_) (fun g12=>?_)
  ·refine yY (Zm rfl (yY (Zv (OV.mw rfl rfl) (yY (Zv (OV.am rfl rfl) (Zv (OV.aj rfl rfl) (Zm rfl ?_)))))));refine Zp (t:=17) rfl (fun g17=>?_) (fun g17=>?_)
   ·refine yX (yX (yX (Zu rfl rfl (Zu rfl rfl (yX (Zv (OV.am rfl rfl) (Zm rfl (yX (yX (Zv (OV.am rfl rfl) (Za rfl (Nn (WC.az ?_)))))))))))));exact WX.ret1 rfl rfl rfl (fun w' hw=>⟨by clear hw;congr 2;unfold letB;first | (rw [eq_comm,decide_eq_true_eq];omega) | (rw [eq_comm,decide_eq_false_iff_not];omega) | (rw [decide_eq_decide];omega),hw.fr⟩)
   refine yY (Zm rfl (yY (Zv (OV.jy rfl rfl) (yY (Zm rfl ?_)))));refine Zp (t:=20) rfl (fun g20=>?_) (fun g20=>?_)
   ·refine yY (Zm rfl (yY (Zv (OV.mw rfl rfl) (yY (Zv (OV.am rfl rfl) (Zv (OV.aj rfl rfl) (Zm rfl ?_)))))));refine Zp (t:=25) rfl (fun g25=>?_) (fun g25=>?_)
    ·refine yX (yX (Zv (OV.am rfl rfl) (Za rfl (Nn (WC.az ?_)))));exact WX.ret1 rfl rfl rfl (fun w' hw=>⟨by clear hw;congr 2;unfold letB;first | (rw [eq_comm,decide_eq_true_eq];omega) | (rw [eq_comm,decide_eq_false_iff_not];omega) | (rw [decide_eq_decide];omega),hw.fr⟩)
    refine yY (Zm rfl (yY (Zv (OV.eb rfl rfl) (Zv (OV.aj rfl rfl) (Za rfl (Nn (WC.az ?_)))))));exact WX.ret1 rfl rfl rfl (fun w' hw=>⟨by clear hw;congr 2;unfold letB;first | (rw [eq_comm,decide_eq_true_eq];omega) | (rw [eq_comm,decide_eq_false_iff_not];omega) | (rw [decide_eq_decide];omega),hw.fr⟩)
   refine yX (yX (yY (Zv (OV.aj rfl rfl) (Zv (OV.aj rfl rfl) (Zm rfl (yY (Zm rfl (yY (Zv (OV.eb rfl rfl) (Zv (OV.aj rfl rfl) (Za rfl (Nn (WC.az ?_)))))))))))));exact WX.ret1 rfl rfl rfl (fun w' hw=>⟨by clear hw;congr 2;unfold letB;first | (rw [eq_comm,decide_eq_true_eq];omega) | (rw [eq_comm,decide_eq_false_iff_not];omega) | (rw [decide_eq_decide];omega),hw.fr⟩)
  refine yX (yX (yY (Zv (OV.aj rfl rfl) (Zv (OV.aj rfl rfl) (Zm rfl (yY (Zm rfl (yY (Zv (OV.jy rfl rfl) (yY (Zm rfl ?_)))))))))));refine Zp (t:=20) rfl (fun g20=>?_) (fun g20=>?_)
  ·refine yY (Zm rfl (yY (Zv (OV.mw rfl rfl) (yY (Zv (OV.am rfl rfl) (Zv (OV.aj rfl rfl) (Zm rfl ?_)))))));refine Zp (t:=25) rfl (fun g25=>?_) (fun g25=>?_)
   ·refine yX (yX (Zv (OV.am rfl rfl) (Za rfl (Nn (WC.az ?_)))));exact WX.ret1 rfl rfl rfl (fun w' hw=>⟨by clear hw;congr 2;unfold letB;first | (rw [eq_comm,decide_eq_true_eq];omega) | (rw [eq_comm,decide_eq_false_iff_not];omega) | (rw [decide_eq_decide];omega),hw.fr⟩)
   refine yY (Zm rfl (yY (Zv (OV.eb rfl rfl) (Zv (OV.aj rfl rfl) (Za rfl (Nn (WC.az ?_)))))));exact WX.ret1 rfl rfl rfl (fun w' hw=>⟨by clear hw;congr 2;unfold letB;first | (rw [eq_comm,decide_eq_true_eq];omega) | (rw [eq_comm,decide_eq_false_iff_not];omega) | (rw [decide_eq_decide];omega),hw.fr⟩)
  refine yX (yX (yY (Zv (OV.aj rfl rfl) (Zv (OV.aj rfl rfl) (Zm rfl (yY (Zm rfl (yY (Zv (OV.eb rfl rfl) (Zv (OV.aj rfl rfl) (Za rfl (Nn (WC.az ?_)))))))))))));exact WX.ret1 rfl rfl rfl (fun w' hw=>⟨by clear hw;congr 2;unfold letB;first | (rw [eq_comm,decide_eq_true_eq];omega) | (rw [eq_comm,decide_eq_false_iff_not];omega) | (rw [decide_eq_decide];omega),hw.fr⟩)
 refine yX (yX (Zv (OV.aj rfl rfl) (Zm rfl (yY (Zm rfl (yY (Zv (OV.jy rfl rfl) (yY (Zm rfl ?_)))))))));refine Zp (t:=12) rfl (fun g12=>?_) (fun g12=>?_)
 ·refine yY (Zm rfl (yY (Zv (OV.mw rfl rfl) (yY (Zv (OV.am rfl rfl) (Zv (OV.aj rfl rfl) (Zm rfl ?_)))))));refine Zp (t:=17) rfl (fun g17=>?_) (fun g17=>?_)
  ·refine yX (yX (yX (Zu rfl rfl (Zu rfl rfl (yX (Zv (OV.am rfl rfl) (Zm rfl (yX (yX (Zv (OV.am rfl rfl) (Za rfl (Nn (WC.az ?_)))))))))))));exact WX.ret1 rfl rfl rfl (fun w' hw=>⟨by clear hw;congr 2;unfold letB;first | (rw [eq_comm,decide_eq_true_eq];omega) | (rw [eq_comm,decide_eq_false_iff_not];omega) | (rw [decide_eq_decide];omega),hw.fr⟩)
  refine yY (Zm rfl (yY (Zv (OV.jy rfl rfl) (yY (Zm rfl ?_)))));refine Zp (t:=20) rfl (fun g20=>?_) (fun g20=>?_)
  ·refine yY (Zm rfl (yY (Zv (OV.mw rfl rfl) (yY (Zv (OV.am rfl rfl) (Zv (OV.aj rfl rfl) (Zm rfl ?_)))))));refine Zp (t:=25) rfl (fun g25=>?_) (fun g25=>?_)
   ·refine yX (yX (Zv (OV.am rfl rfl) (Za rfl (Nn (WC.az ?_)))));exact WX.ret1 rfl rfl rfl (fun w' hw=>⟨by clear hw;congr 2;unfold letB;first | (rw [eq_comm,decide_eq_true_eq];omega) | (rw [eq_comm,decide_eq_false_iff_not];omega) | (rw [decide_eq_decide];omega),hw.fr⟩)
   refine yY (Zm rfl (yY (Zv (OV.eb rfl rfl) (Zv (OV.aj rfl rfl) (Za rfl (Nn (WC.az ?_)))))));exact WX.ret1 rfl rfl rfl (fun w' hw=>⟨by clear hw;congr 2;unfold letB;first | (rw [eq_comm,decide_eq_true_eq];omega) | (rw [eq_comm,decide_eq_false_iff_not];omega) | (rw [decide_eq_decide];omega),hw.fr⟩)
  refine yX (yX (yY (Zv (OV.aj rfl rfl) (Zv (OV.aj rfl rfl) (Zm rfl (yY (Zm rfl (yY (Zv (OV.eb rfl rfl) (Zv (OV.aj rfl rfl) (Za rfl (Nn (WC.az ?_)))))))))))));exact WX.ret1 rfl rfl rfl (fun w' hw=>⟨by clear hw;congr 2;unfold letB;first | (rw [eq_comm,decide_eq_true_eq];omega) | (rw [eq_comm,decide_eq_false_iff_not];omega) | (rw [decide_eq_decide];omega),hw.fr⟩)
 refine yX (yX (yY (Zv (OV.aj rfl rfl) (Zv (OV.aj rfl rfl) (Zm rfl (yY (Zm rfl (yY (Zv (OV.jy rfl rfl) (yY (Zm rfl ?_)))))))))));refine Zp (t:=20) rfl (fun g20=>?_) (fun g20=>?_)
 ·refine yY (Zm rfl (yY (Zv (OV.mw rfl rfl) (yY (Zv (OV.am rfl rfl) (Zv (OV.aj rfl rfl) (Zm rfl ?_)))))));refine Zp (t:=25) rfl (fun g25=>?_) (fun g25=>?_)
  ·refine yX (yX (Zv (OV.am rfl rfl) (Za rfl (Nn (WC.az ?_)))));exact WX.ret1 rfl rfl rfl (fun w' hw=>⟨by clear hw;congr 2;unfold letB;first | (rw [eq_comm,decide_eq_true_eq];omega) | (rw [eq_comm,decide_eq_false_iff_not];omega) | (rw [decide_eq_decide];omega),hw.fr⟩)
  refine yY (Zm rfl (yY (Zv (OV.eb rfl rfl) (Zv (OV.aj rfl rfl) (Za rfl (Nn (WC.az ?_)))))));exact WX.ret1 rfl rfl rfl (fun w' hw=>⟨by clear hw;congr 2;unfold letB;first | (rw [eq_comm,decide_eq_true_eq];omega) | (rw [eq_comm,decide_eq_false_iff_not];omega) | (rw [decide_eq_decide];omega),hw.fr⟩)
 refine yX (yX (yY (Zv (OV.aj rfl rfl) (Zv (OV.aj rfl rfl) (Zm rfl (yY (Zm rfl (yY (Zv (OV.eb rfl rfl) (Zv (OV.aj rfl rfl) (Za rfl (Nn (WC.az ?_)))))))))))));exact WX.ret1 rfl rfl rfl (fun w' hw=>⟨by clear hw;congr 2;unfold letB;first | (rw [eq_comm,decide_eq_true_eq];omega) | (rw [eq_comm,decide_eq_false_iff_not];omega) | (rw [decide_eq_decide];omega),hw.fr⟩)
theorem refName_calls (s:ByteArray)(hs:s.size≤1099511627776)(w:World):Calls Tryz.prog 108 #[.string s] w fun e w'=>e=.returned (.bool (nameB s))∧Fr0 w w':=by
 refine Jbo (args:=[.string s]) (fun _=>False) Tryz.func108 rfl Tryz.ntmps108 rfl rfl ?_;refine Csr (Za rfl (Nn (Cs (Csr (Zm rfl (Zv (OV.mt rfl rfl) (Zm rfl ?_)))))));refine Zp (t:=6) rfl (fun g6=>?_) (fun g6=>?_)
 ·refine yX (yX (yX (Zv (OV.am rfl rfl) (Zm rfl (yX (yX (Zv (OV.am rfl rfl) (Zm rfl (yX (yX (yX (Zv (OV.am rfl rfl) (Zm rfl (yX (yX (yX (Zv (OV.am rfl rfl) (Nn (WC.co rfl ?_)))))))))))))))))));refine Csr (Za rfl (Nn (WC.az ?_)));refine Xr ?_;exact WX.ret1 rfl rfl rfl (fun w' hw=>⟨by clear hw;rw [show nameB s=false from by unfold nameB;rw [decide_eq_false_iff_not];rintro ⟨h1,h2,h3,h4,h5,h6⟩;first | exact h1 (by assumption) | exact h3 (by assumption) | omega],hw.fr⟩)
 refine yY (Zm rfl (yY (Zv (OV.da rfl T.u9) (yY (Zv (OV.lj rfl rfl) (Zv (OV.aj rfl rfl) (Zm rfl ?_)))))));refine Zp (t:=11) rfl (fun g11=>?_) (fun g11=>?_)
 ·refine yX (yX (Zv (OV.am rfl rfl) (Zm rfl (yX (yX (yX (Zv (OV.am rfl rfl) (Zm rfl (yX (yX (yX (Zv (OV.am rfl rfl) (Nn (WC.co rfl ?_))))))))))))));refine Csr (Za rfl (Nn (WC.az ?_)));refine Xr ?_;exact WX.ret1 rfl rfl rfl (fun w' hw=>⟨by clear hw;rw [show nameB s=false from by unfold nameB;rw [decide_eq_false_iff_not];rintro ⟨h1,h2,h3,h4,h5,h6⟩;first | exact h1 (by assumption) | exact h3 (by assumption) | omega],hw.fr⟩)
 refine yY (Zm rfl (yY (Zv (OV.mt rfl rfl) (Zv (OV.aj rfl rfl) (Zm rfl ?_)))));refine Zp (t:=15) rfl (fun g15=>?_) (fun g15=>?_)
 ·refine yX (yX (yX (Zv (OV.am rfl rfl) (Zm rfl (yX (yX (yX (Zv (OV.am rfl rfl) (Nn (WC.co rfl ?_))))))))));refine Csr (Za rfl (Nn (WC.az ?_)));refine Xr ?_;exact WX.ret1 rfl rfl rfl (fun w' hw=>⟨by clear hw;rw [show nameB s=false from by unfold nameB;rw [decide_eq_false_iff_not];rintro ⟨h1,h2,h3,h4,h5,h6⟩;first | exact h1 (by assumption) | exact h3 (by assumption) | omega],hw.fr⟩)
 refine yY (Zm rfl (yY ?_));have hsz:=size_pos g6;refine Zv (OV.e6 (r:=bAt s 0) rfl rfl T.u9 ⟨by omega,bget hsz⟩) (yY (Zv (OV.cq rfl rfl) (Zv (OV.aj rfl rfl) (Zm rfl ?_))));refine Zp (t:=20) rfl (fun g20=>?_) (fun g20=>?_)
 ·refine yX (yX (yX (Zv (OV.am rfl rfl) (Nn (WC.co rfl ?_)))));refine Csr (Za rfl (Nn (WC.az ?_)));refine Xr ?_;exact WX.ret1 rfl rfl rfl (fun w' hw=>⟨by clear hw;rw [show nameB s=false from by unfold nameB;rw [decide_eq_false_iff_not];rintro ⟨h1,h2,h3,h4,h5,h6⟩;first | exact h1 (by assumption) | exact h3 (by assumption) | omega],hw.fr⟩)
 refine yY (Zm rfl (yY (Zv (OV.e6 (r:=bAt s 0) rfl rfl T.u9 ⟨by omega,bget hsz⟩) (yY (Zv (OV.lj rfl rfl) (Zv (OV.aj rfl rfl) (Nn ?_)))))));refine Cc rfl (fun c24=>?_) (fun c24=>?_)
 ·refine Csr (Za rfl (Nn (WC.az ?_)));refine Xr ?_;exact WX.ret1 rfl rfl rfl (fun w' hw=>⟨by clear hw;rw [show nameB s=false from by unfold nameB;rw [decide_eq_false_iff_not];rintro ⟨h1,h2,h3,h4,h5,h6⟩;first | exact h1 (by assumption) | exact h3 (by assumption) | omega],hw.fr⟩)
 refine Ck (Xn (Cs (Csr (Za rfl (Nn (Cb ?_))))))
 refine WC.cm (fun (i:Nat)=>[(0,.string s),(3,.int .i64 (i:Int))])
   (fun i w'=>(i≤s.size∧∀ j,j<i→letB (bAt s j)=true)∧Sat0 w ([]) w')
   (fun i=>s.size - i) 0 Y2 (fun w' hw=>⟨⟨by omega,by intro j hj;omega⟩,hw⟩) ?_
 intro i;refine WC.pure (fun hi=>?_);obtain ⟨hi,hz⟩:=hi;refine Cs (Csr (Zm rfl (Zm rfl (Zv (OV.da rfl T.u9) (Zv (OV.cq rfl rfl) (Nn ?_))))));refine Cc rfl (fun c28=>?_) (fun c28=>?_)
 ·refine Ck (Xn (Cs (Cb (Csr (Zm rfl (Zm rfl ?_))))));obtain ⟨cb,hcb⟩:∃ cb,cb=bAt s i:=⟨_,rfl⟩
  refine Zv (OV.e6 (r:=cb) rfl rfl T.u9 ⟨by omega,by rw [hcb];exact bget (by omega)⟩) (WL.au (v:=.bool (letB cb)) (by kernel_rfl) rfl rfl (fun w' hw'=>letter_calls cb w') ?_);refine Zv (OV.not rfl) (Nn ?_);refine Cc rfl (fun c35=>?_) (fun c35=>?_)
  ·refine Csr (Za rfl (Nn (WC.az ?_)));refine Xq (Xr (Xr (Xq (Xr ?_))));exact WX.ret1 rfl rfl rfl (fun w' hw=>⟨by clear hw;rw [Jf9 (i:=i) (by omega) (by rw [← hcb];simpa using c35)],hw.fr⟩)
  refine Ck (Xb (Xn (Cr (Zm rfl (Zv (OV.bm (j:=1) rfl rfl (by omega)) (Za rfl (Nl ?_)))))));have hlt:letB (bAt s i)=true:=by rw [← hcb];simpa using c35
  exact WX.bk (i+1) Y2 (fun w' hw=>⟨⟨by omega,fun j hj=>by rcases Nat.lt_or_ge j i with h | h;exact hz j h;rw [show j=i by omega];exact hlt⟩,hw⟩) (by show s.size - (i+1)<s.size - i;omega)
 refine Ce (Xe (Xe (Xh (Xn (Csr (Za rfl (Nn (WC.az ?_))))))));exact WX.ret1 rfl rfl rfl (fun w' hw=>⟨by clear hw;rw [show nameB s=true from by unfold nameB;rw [decide_eq_true_eq];exact ⟨by assumption,by omega,by assumption,by omega,by omega,fun j hj=>hz j (by omega)⟩],hw.fr⟩)
theorem refChk_calls (x:At)(a:Option Addr)(c:Nat)(hl:x.args.length≤1099511627776)(hs:x.name.size≤1099511627776)(w:World)(hr:RT w a x.args):Calls Tryz.prog 72 #[atV x a c] w fun e w'=>e=.returned (.int .i64 (chkA x))∧Fr0 w w':=by
 refine Jbo (args:=[atV x a c]) (fun _=>False) Tryz.func72 rfl Tryz.ntmps72 rfl rfl ?_;refine Csr (WL.box rfl rfl rfl ?_);intro b1;refine Za rfl (Nn (Cs (Csr (Zv (OV.f0 3 rfl T.u29 rfl) (Zv (OV.l1 (v:=.string x.name) rfl T.u9 rfl yH rfl) (WL.au (v:=.bool (nameB x.name)) (by kernel_rfl) rfl rfl (fun w' hw'=>refName_calls x.name hs w') ?_))))));refine Zv (OV.not rfl) (Nn ?_);refine Cc rfl (fun c7=>?_) (fun c7=>?_)
 ·refine Csr (Za rfl (Nn (WC.az ?_)));refine Xr ?_;exact WX.ret1 rfl rfl rfl (fun w' hw=>⟨by clear hw;congr 2;first | (have hany:x.args.any badB=true:=(List.any_eq_true.2 ⟨t,htm,by unfold badB;simp_all⟩);unfold chkA;rw [hany];clear hany;(simp_all <;> (try omega))) | (have hany:x.args.any badB=false:=(List.any_eq_false.2 fun u hu=>by rw [hbad u (by rw [xK (by omega)];exact hu)];simp);unfold chkA;rw [hany];clear hany;(simp_all <;> (try omega))) | (simp_all [chkA] <;> (repeat' split) <;> first | omega | (exfalso;omega) | simp_all),hw.fr⟩)
 refine Ck (Xn (Cs (Csr (Zv (OV.f0 4 rfl T.u29 rfl) (Zv (OV.l1 (v:=.slice a x.args.length c) rfl T.u27 rfl yH rfl) (Zv (OV.ae rfl T.u27) (Zv (OV.lj rfl rfl) (Nn ?_))))))));refine Cc rfl (fun c11=>?_) (fun c11=>?_)
 ·refine Csr (Za rfl (Nn (WC.az ?_)));refine Xr ?_;exact WX.ret1 rfl rfl rfl (fun w' hw=>⟨by clear hw;congr 2;first | (have hany:x.args.any badB=true:=(List.any_eq_true.2 ⟨t,htm,by unfold badB;simp_all⟩);unfold chkA;rw [hany];clear hany;(simp_all <;> (try omega))) | (have hany:x.args.any badB=false:=(List.any_eq_false.2 fun u hu=>by rw [hbad u (by rw [xK (by omega)];exact hu)];simp);unfold chkA;rw [hany];clear hany;(simp_all <;> (try omega))) | (simp_all [chkA] <;> (repeat' split) <;> first | omega | (exfalso;omega) | simp_all),hw.fr⟩)
 refine Ck (Xn (Cs (Csr (Zv (OV.f0 0 rfl T.u29 rfl) (Zv (OV.ai (cs:=tmC x.b) rfl T.u26 rfl T.z26 (fun _ hw j v hj=>by rw [Jap];exact Jbv hw yH (o:=0) (cs':=tmC x.b) rfl j v hj)) (Zv (OV.ao (xs:=[]) (pl:=[(0,1),(1,1),(2,1)]) (cs:=tmC T0) T.u26 T.zr26 (by kernel_rfl) rfl rfl) (Zv (OV.li (a:=x.b) (b:=T0) rfl rfl) (Zm rfl ?_))))))));refine Zp (t:=16) rfl (fun g16=>?_) (fun g16=>?_)
 ·refine yY (Zv (OV.f0 0 rfl T.u29 rfl) (yY (Zv (OV.ai (cs:=tmC x.b) rfl T.u26 rfl T.z26 (fun _ hw j v hj=>by rw [Jap];exact Jbv hw yH (o:=0) (cs':=tmC x.b) rfl j v hj)) (yY (WL.au (v:=.bool (prinB x.b)) (by kernel_rfl) rfl rfl (fun w' hw'=>refPrin_calls x.b w') ?_)))));refine yY (Zv (OV.not rfl) (Zv (OV.am rfl rfl) (Zm rfl ?_)));refine Zp (t:=22) rfl (fun g22=>?_) (fun g22=>?_)
  ·refine yY (Zv (OV.f0 0 rfl T.u29 rfl) (yY (Zv (OV.ai (cs:=tmC x.b) rfl T.u26 rfl T.z26 (fun _ hw j v hj=>by rw [Jap];exact Jbv hw yH (o:=0) (cs':=tmC x.b) rfl j v hj)) (yY (WL.au (v:=.bool (varB x.b)) (by kernel_rfl) rfl rfl (fun w' hw'=>Jdi x.b w') ?_)))));refine yY (Zv (OV.not rfl) (Zv (OV.am rfl rfl) (Nn ?_)));refine Cc rfl (fun c27=>?_) (fun c27=>?_)
   ·refine Csr (Za rfl (Nn (WC.az ?_)));refine Xr ?_;exact WX.ret1 rfl rfl rfl (fun w' hw=>⟨by clear hw;congr 2;first | (have hany:x.args.any badB=true:=(List.any_eq_true.2 ⟨t,htm,by unfold badB;simp_all⟩);unfold chkA;rw [hany];clear hany;(simp_all <;> (try omega))) | (have hany:x.args.any badB=false:=(List.any_eq_false.2 fun u hu=>by rw [hbad u (by rw [xK (by omega)];exact hu)];simp);unfold chkA;rw [hany];clear hany;(simp_all <;> (try omega))) | (simp_all [chkA] <;> (repeat' split) <;> first | omega | (exfalso;omega) | simp_all),hw.fr⟩)
   refine Ck (Xn (Cs (Csr (Za rfl (Nn (Cb ?_))))))
   refine WC.cm (fun (i:Nat)=>[(1,yZ b1),(3,.int .i64 (i:Int))])
     (fun i w'=>(i≤x.args.length∧∀ t∈x.args.take i,badB t=false)∧Sat0 w (oQ b1 (atC x a c) 29::[]) w')
     (fun i=>x.args.length - i) 0 Y2 (fun w' hw=>⟨⟨by omega,fun t ht=>by simp at ht⟩,hw⟩) ?_
   intro i;refine WC.pure (fun hi=>?_);obtain ⟨hi,hbad⟩:=hi;refine Cs (Csr (Zm rfl (Zv (OV.f0 4 rfl T.u29 rfl) (Zv (OV.l1 (v:=.slice a x.args.length c) rfl T.u27 rfl yH rfl) (Zv (OV.ae rfl T.u27) (Zv (OV.cq rfl rfl) (Nn ?_)))))));refine Cc rfl (fun c32=>?_) (fun c32=>?_)
   ·refine Ck (Xn (Cs (Cb (Csr (Zv (OV.f0 4 rfl T.u29 rfl) (Zv (OV.l1 (v:=.slice a x.args.length c) rfl T.u27 rfl yH rfl) (Zm rfl ?_)))))));obtain ⟨q1,t,hq1,ht1,htm,_,hc1⟩:=hr.get (i:=i) (by omega);refine Zv ((OV.ad (show _=some (Value.slice (some q1) x.args.length c) by rw [← hq1];rfl) rfl T.u27 T.z26 (by omega)).cast (u:=.pointer (some (q1.add (i*3)))) (by rw [xN])) (Zv (OV.ai (cs:=tmC t) rfl T.u26 rfl T.z26 (fun _ hw j v hj=>hw.keeps _ _ (hc1 j v hj))) (WL.au (v:=.bool (Jcy t)) (by kernel_rfl) rfl rfl (fun w' hw'=>Jef t w') ?_));refine Zv (OV.not rfl) (Zm rfl ?_);refine Zp (t:=42) rfl (fun g42=>?_) (fun g42=>?_)
    ·refine yY (Zv (OV.f0 4 rfl T.u29 rfl) (yY (Zv (OV.l1 (v:=.slice a x.args.length c) rfl T.u27 rfl yH rfl) (yY (Zm rfl (yY (Zv ((OV.ad (show _=some (Value.slice (some q1) x.args.length c) by rw [← hq1];rfl) rfl T.u27 T.z26 (by omega)).cast (u:=.pointer (some (q1.add (i*3)))) (by rw [xN])) (yY (Zv (OV.ai (cs:=tmC t) rfl T.u26 rfl T.z26 (fun _ hw j v hj=>hw.keeps _ _ (hc1 j v hj))) (yY (WL.au (v:=.bool (varB t)) (by kernel_rfl) rfl rfl (fun w' hw'=>Jdi t w') ?_)))))))))));refine yY (Zv (OV.not rfl) (Zv (OV.am rfl rfl) (Nn ?_)));refine Cc rfl (fun c50=>?_) (fun c50=>?_)
     ·refine Csr (Za rfl (Nn (WC.az ?_)));refine Xq (Xr (Xr (Xq (Xr ?_))));exact WX.ret1 rfl rfl rfl (fun w' hw=>⟨by clear hw;congr 2;first | (have hany:x.args.any badB=true:=(List.any_eq_true.2 ⟨t,htm,by unfold badB;simp_all⟩);unfold chkA;rw [hany];clear hany;(simp_all <;> (try omega))) | (have hany:x.args.any badB=false:=(List.any_eq_false.2 fun u hu=>by rw [hbad u (by rw [xK (by omega)];exact hu)];simp);unfold chkA;rw [hany];clear hany;(simp_all <;> (try omega))) | (simp_all [chkA] <;> (repeat' split) <;> first | omega | (exfalso;omega) | simp_all),hw.fr⟩)
     refine Ck (Xb (Xn (Cr (Zm rfl (Zv (OV.bm (j:=1) rfl rfl (by omega)) (Za rfl (Nl ?_)))))));have hb:badB t=false:=by unfold badB;simp_all
     exact WX.bk (i+1) Y2 (fun w' hw=>⟨⟨by omega,fun u hu=>by
      rw [List.take_add_one,ht1] at hu;rcases List.mem_append.1 hu with h | h
      ·exact hbad u h
      ·simp at h;subst h;exact hb⟩,hw⟩) (by show x.args.length - (i+1)<x.args.length - i;omega)
    refine yX (yX (yX (yX (yX (yX (yX (Zv (OV.aj rfl rfl) (Nn (WC.bu rfl ?_)))))))));refine Ck (Xb (Xn (Cr (Zm rfl (Zv (OV.bm (j:=1) rfl rfl (by omega)) (Za rfl (Nl ?_)))))));have hb:badB t=false:=by unfold badB;simp_all
    exact WX.bk (i+1) Y2 (fun w' hw=>⟨⟨by omega,fun u hu=>by
     rw [List.take_add_one,ht1] at hu;rcases List.mem_append.1 hu with h | h
     ·exact hbad u h
     ·simp at h;subst h;exact hb⟩,hw⟩) (by show x.args.length - (i+1)<x.args.length - i;omega)
   refine Ce (Xe (Xe (Xh (Xn (Csr (Za rfl (Nn (WC.az ?_))))))));exact WX.ret1 rfl rfl rfl (fun w' hw=>⟨by clear hw;congr 2;first | (have hany:x.args.any badB=true:=(List.any_eq_true.2 ⟨t,htm,by unfold badB;simp_all⟩);unfold chkA;rw [hany];clear hany;(simp_all <;> (try omega))) | (have hany:x.args.any badB=false:=(List.any_eq_false.2 fun u hu=>by rw [hbad u (by rw [xK (by omega)];exact hu)];simp);unfold chkA;rw [hany];clear hany;(simp_all <;> (try omega))) | (simp_all [chkA] <;> (repeat' split) <;> first | omega | (exfalso;omega) | simp_all),hw.fr⟩)
  refine yX (yX (yX (yX (Zv (OV.aj rfl rfl) (Nn (WC.bu rfl ?_))))));refine Ck (Xn (Cs (Csr (Za rfl (Nn (Cb ?_))))))
  refine WC.cm (fun (i:Nat)=>[(1,yZ b1),(3,.int .i64 (i:Int))])
    (fun i w'=>(i≤x.args.length∧∀ t∈x.args.take i,badB t=false)∧Sat0 w (oQ b1 (atC x a c) 29::[]) w')
    (fun i=>x.args.length - i) 0 Y2 (fun w' hw=>⟨⟨by omega,fun t ht=>by simp at ht⟩,hw⟩) ?_
  intro i;refine WC.pure (fun hi=>?_);obtain ⟨hi,hbad⟩:=hi;refine Cs (Csr (Zm rfl (Zv (OV.f0 4 rfl T.u29 rfl) (Zv (OV.l1 (v:=.slice a x.args.length c) rfl T.u27 rfl yH rfl) (Zv (OV.ae rfl T.u27) (Zv (OV.cq rfl rfl) (Nn ?_)))))));refine Cc rfl (fun c32=>?_) (fun c32=>?_)
  ·refine Ck (Xn (Cs (Cb (Csr (Zv (OV.f0 4 rfl T.u29 rfl) (Zv (OV.l1 (v:=.slice a x.args.length c) rfl T.u27 rfl yH rfl) (Zm rfl ?_)))))));obtain ⟨q1,t,hq1,ht1,htm,_,hc1⟩:=hr.get (i:=i) (by omega);refine Zv ((OV.ad (show _=some (Value.slice (some q1) x.args.length c) by rw [← hq1];rfl) rfl T.u27 T.z26 (by omega)).cast (u:=.pointer (some (q1.add (i*3)))) (by rw [xN])) (Zv (OV.ai (cs:=tmC t) rfl T.u26 rfl T.z26 (fun _ hw j v hj=>hw.keeps _ _ (hc1 j v hj))) (WL.au (v:=.bool (Jcy t)) (by kernel_rfl) rfl rfl (fun w' hw'=>Jef t w') ?_));refine Zv (OV.not rfl) (Zm rfl ?_);refine Zp (t:=42) rfl (fun g42=>?_) (fun g42=>?_)
   ·refine yY (Zv (OV.f0 4 rfl T.u29 rfl) (yY (Zv (OV.l1 (v:=.slice a x.args.length c) rfl T.u27 rfl yH rfl) (yY (Zm rfl (yY (Zv ((OV.ad (show _=some (Value.slice (some q1) x.args.length c) by rw [← hq1];rfl) rfl T.u27 T.z26 (by omega)).cast (u:=.pointer (some (q1.add (i*3)))) (by rw [xN])) (yY (Zv (OV.ai (cs:=tmC t) rfl T.u26 rfl T.z26 (fun _ hw j v hj=>hw.keeps _ _ (hc1 j v hj))) (yY (WL.au (v:=.bool (varB t)) (by kernel_rfl) rfl rfl (fun w' hw'=>Jdi t w') ?_)))))))))));refine yY (Zv (OV.not rfl) (Zv (OV.am rfl rfl) (Nn ?_)));refine Cc rfl (fun c50=>?_) (fun c50=>?_)
    ·refine Csr (Za rfl (Nn (WC.az ?_)));refine Xq (Xr (Xr (Xq (Xr ?_))));exact WX.ret1 rfl rfl rfl (fun w' hw=>⟨by clear hw;congr 2;first | (have hany:x.args.any badB=true:=(List.any_eq_true.2 ⟨t,htm,by unfold badB;simp_all⟩);unfold chkA;rw [hany];clear hany;(simp_all <;> (try omega))) | (have hany:x.args.any badB=false:=(List.any_eq_false.2 fun u hu=>by rw [hbad u (by rw [xK (by omega)];exact hu)];simp);unfold chkA;rw [hany];clear hany;(simp_all <;> (try omega))) | (simp_all [chkA] <;> (repeat' split) <;> first | omega | (exfalso;omega) | simp_all),hw.fr⟩)
    refine Ck (Xb (Xn (Cr (Zm rfl (Zv (OV.bm (j:=1) rfl rfl (by omega)) (Za rfl (Nl ?_)))))));have hb:badB t=false:=by unfold badB;simp_all
    exact WX.bk (i+1) Y2 (fun w' hw=>⟨⟨by omega,fun u hu=>by
     rw [List.take_add_one,ht1] at hu;rcases List.mem_append.1 hu with h | h
     ·exact hbad u h
     ·simp at h;subst h;exact hb⟩,hw⟩) (by show x.args.length - (i+1)<x.args.length - i;omega)
   refine yX (yX (yX (yX (yX (yX (yX (Zv (OV.aj rfl rfl) (Nn (WC.bu rfl ?_)))))))));refine Ck (Xb (Xn (Cr (Zm rfl (Zv (OV.bm (j:=1) rfl rfl (by omega)) (Za rfl (Nl ?_)))))));have hb:badB t=false:=by unfold badB;simp_all
   exact WX.bk (i+1) Y2 (fun w' hw=>⟨⟨by omega,fun u hu=>by
    rw [List.take_add_one,ht1] at hu;rcases List.mem_append.1 hu with h | h
    ·exact hbad u h
    ·simp at h;subst h;exact hb⟩,hw⟩) (by show x.args.length - (i+1)<x.args.length - i;omega)
  refine Ce (Xe (Xe (Xh (Xn (Csr (Za rfl (Nn (WC.az ?_))))))));exact WX.ret1 rfl rfl rfl (fun w' hw=>⟨by clear hw;congr 2;first | (have hany:x.args.any badB=true:=(List.any_eq_true.2 ⟨t,htm,by unfold badB;simp_all⟩);unfold chkA;rw [hany];clear hany;(simp_all <;> (try omega))) | (have hany:x.args.any badB=false:=(List.any_eq_false.2 fun u hu=>by rw [hbad u (by rw [xK (by omega)];exact hu)];simp);unfold chkA;rw [hany];clear hany;(simp_all <;> (try omega))) | (simp_all [chkA] <;> (repeat' split) <;> first | omega | (exfalso;omega) | simp_all),hw.fr⟩)
 refine yX (yX (yX (yX (Zv (OV.aj rfl rfl) (Zm rfl (yX (yX (yX (yX (Zv (OV.aj rfl rfl) (Nn (WC.bu rfl ?_))))))))))));refine Ck (Xn (Cs (Csr (Za rfl (Nn (Cb ?_))))))
 refine WC.cm (fun (i:Nat)=>[(1,yZ b1),(3,.int .i64 (i:Int))])
   (fun i w'=>(i≤x.args.length∧∀ t∈x.args.take i,badB t=false)∧Sat0 w (oQ b1 (atC x a c) 29::[]) w')
   (fun i=>x.args.length - i) 0 Y2 (fun w' hw=>⟨⟨by omega,fun t ht=>by simp at ht⟩,hw⟩) ?_
 intro i;refine WC.pure (fun hi=>?_);obtain ⟨hi,hbad⟩:=hi;refine Cs (Csr (Zm rfl (Zv (OV.f0 4 rfl T.u29 rfl) (Zv (OV.l1 (v:=.slice a x.args.length c) rfl T.u27 rfl yH rfl) (Zv (OV.ae rfl T.u27) (Zv (OV.cq rfl rfl) (Nn ?_)))))));refine Cc rfl (fun c32=>?_) (fun c32=>?_)
 ·refine Ck (Xn (Cs (Cb (Csr (Zv (OV.f0 4 rfl T.u29 rfl) (Zv (OV.l1 (v:=.slice a x.args.length c) rfl T.u27 rfl yH rfl) (Zm rfl ?_)))))));obtain ⟨q1,t,hq1,ht1,htm,_,hc1⟩:=hr.get (i:=i) (by omega);refine Zv ((OV.ad (show _=some (Value.slice (some q1) x.args.length c) by rw [← hq1];rfl) rfl T.u27 T.z26 (by omega)).cast (u:=.pointer (some (q1.add (i*3)))) (by rw [xN])) (Zv (OV.ai (cs:=tmC t) rfl T.u26 rfl T.z26 (fun _ hw j v hj=>hw.keeps _ _ (hc1 j v hj))) (WL.au (v:=.bool (Jcy t)) (by kernel_rfl) rfl rfl (fun w' hw'=>Jef t w') ?_));refine Zv (OV.not rfl) (Zm rfl ?_);refine Zp (t:=42) rfl (fun g42=>?_) (fun g42=>?_)
  ·refine yY (Zv (OV.f0 4 rfl T.u29 rfl) (yY (Zv (OV.l1 (v:=.slice a x.args.length c) rfl T.u27 rfl yH rfl) (yY (Zm rfl (yY (Zv ((OV.ad (show _=some (Value.slice (some q1) x.args.length c) by rw [← hq1];rfl) rfl T.u27 T.z26 (by omega)).cast (u:=.pointer (some (q1.add (i*3)))) (by rw [xN])) (yY (Zv (OV.ai (cs:=tmC t) rfl T.u26 rfl T.z26 (fun _ hw j v hj=>hw.keeps _ _ (hc1 j v hj))) (yY (WL.au (v:=.bool (varB t)) (by kernel_rfl) rfl rfl (fun w' hw'=>Jdi t w') ?_)))))))))));refine yY (Zv (OV.not rfl) (Zv (OV.am rfl rfl) (Nn ?_)));refine Cc rfl (fun c50=>?_) (fun c50=>?_)
   ·refine Csr (Za rfl (Nn (WC.az ?_)));refine Xq (Xr (Xr (Xq (Xr ?_))));exact WX.ret1 rfl rfl rfl (fun w' hw=>⟨by clear hw;congr 2;first | (have hany:x.args.any badB=true:=(List.any_eq_true.2 ⟨t,htm,by unfold badB;simp_all⟩);unfold chkA;rw [hany];clear hany;(simp_all <;> (try omega))) | (have hany:x.args.any badB=false:=(List.any_eq_false.2 fun u hu=>by rw [hbad u (by rw [xK (by omega)];exact hu)];simp);unfold chkA;rw [hany];clear hany;(simp_all <;> (try omega))) | (simp_all [chkA] <;> (repeat' split) <;> first | omega | (exfalso;omega) | simp_all),hw.fr⟩)
   refine Ck (Xb (Xn (Cr (Zm rfl (Zv (OV.bm (j:=1) rfl rfl (by omega)) (Za rfl (Nl ?_)))))));have hb:badB t=false:=by unfold badB;simp_all
   exact WX.bk (i+1) Y2 (fun w' hw=>⟨⟨by omega,fun u hu=>by
    rw [List.take_add_one,ht1] at hu;rcases List.mem_append.1 hu with h | h
    ·exact hbad u h
    ·simp at h;subst h;exact hb⟩,hw⟩) (by show x.args.length - (i+1)<x.args.length - i;omega)
  refine yX (yX (yX (yX (yX (yX (yX (Zv (OV.aj rfl rfl) (Nn (WC.bu rfl ?_)))))))));refine Ck (Xb (Xn (Cr (Zm rfl (Zv (OV.bm (j:=1) rfl rfl (by omega)) (Za rfl (Nl ?_)))))));have hb:badB t=false:=by unfold badB;simp_all
  exact WX.bk (i+1) Y2 (fun w' hw=>⟨⟨by omega,fun u hu=>by
   rw [List.take_add_one,ht1] at hu;rcases List.mem_append.1 hu with h | h
   ·exact hbad u h
   ·simp at h;subst h;exact hb⟩,hw⟩) (by show x.args.length - (i+1)<x.args.length - i;omega)
 refine Ce (Xe (Xe (Xh (Xn (Csr (Za rfl (Nn (WC.az ?_))))))));exact WX.ret1 rfl rfl rfl (fun w' hw=>⟨by clear hw;congr 2;first | (have hany:x.args.any badB=true:=(List.any_eq_true.2 ⟨t,htm,by unfold badB;simp_all⟩);unfold chkA;rw [hany];clear hany;(simp_all <;> (try omega))) | (have hany:x.args.any badB=false:=(List.any_eq_false.2 fun u hu=>by rw [hbad u (by rw [xK (by omega)];exact hu)];simp);unfold chkA;rw [hany];clear hany;(simp_all <;> (try omega))) | (simp_all [chkA] <;> (repeat' split) <;> first | omega | (exfalso;omega) | simp_all),hw.fr⟩)
abbrev rowS (a:Option Addr)(c:Nat)(ts:List Ts):Hw.Item:=row 61 7 a ts.length c (ts.flatMap tsC)
theorem T.apS:appB Tryz.prog 30 61 7 72=true:=by kernel_rfl
structure RS (w:World) (a:Option Addr) (ts:List Ts):Prop where
 nil:a=none→ts.length=0
 at_:∀ q,a=some q→∀ i t,ts[i]?=some t→∀ j v,(tsC t)[j]?=some v→w.cell? ((q.add (i*7)).add j)=some v
theorem RS.keeps {w w':World}{a:Option Addr}{ts:List Ts}(h:RS w a ts)(k:Keeps w w'):RS w' a ts:=⟨h.nil,fun q hq i t ht j v hv=>k _ _ (h.at_ q hq i t ht j v hv)⟩
theorem RS.get {w:World}{a:Option Addr}{ts:List Ts}(h:RS w a ts){i:Nat}(hi:i<ts.length):∃ q t,a=some q∧ts[i]?=some t∧t∈ts∧∀ j v,(tsC t)[j]?=some v→w.cell? ((q.add (i*7)).add j)=some v:=by
 cases a with
 | none=>have:=h.nil rfl;omega
 | some q=>exact ⟨q,ts[i],rfl,xD hi,List.getElem_mem hi,h.at_ q rfl i _ (xD hi)⟩
theorem RS.of_row {w0 ws w:World}{M I:Nat→Prop}{ow:List Hw.Item}{a:Option Addr}{c:Nat}{ts:List Ts}(hw:Sat w0 M I ws ow w)(hm:rowS a c ts∈ow):RS w a ts:=by
 refine ⟨fun ha=>?_,fun q hq i t ht j v hv=>?_⟩
 ·rcases (Jd4 hw hm).2 with ⟨_,h,_⟩ | ⟨b,hb,_⟩
  ·exact h
  ·rw [ha] at hb;cases hb
 ·subst hq;have hj:j<7:=(List.getElem?_eq_some_iff.1 hv).1;have h1:=Jdr hw hm (i*7+j) v (by rw [Jcu tsC_len ts i j t ht hj];exact hv);rwa [Jdy] at h1
structure CG where
 hd:AG
 ba:Option Addr
 bc:Nat
 bd:List AG
 ta:Option Addr
 tc:Nat
 ts:List Ts
def CG.cl (g:CG):Cl:=⟨g.hd.x,g.bd.map AG.x,g.ts⟩
def cgC (g:CG):List Value:=[.int .i64 g.hd.x.b.kind,.int .i64 g.hd.x.b.n,.string g.hd.x.b.s,.string g.hd.x.name,.slice g.hd.a g.hd.x.args.length g.hd.c,.slice g.ba g.bd.length g.bc,.slice g.ta g.ts.length g.tc]
abbrev cgV (g:CG):Value:=.agg (cgC g).toArray
def cgA (g:CG):List Hw.Item:=argA g.hd::(atsA g.ba g.bc g.bd++[rowS g.ta g.tc g.ts])
structure RC (w:World) (g:CG):Prop where
 hd:RT w g.hd.a g.hd.x.args
 bd:RA w g.ba g.bd
 ts:RS w g.ta g.ts
theorem RC.keeps {w w':World}{g:CG}(h:RC w g)(k:Keeps w w'):RC w' g:=⟨h.hd.keeps k,h.bd.keeps k,h.ts.keeps k⟩
theorem RC.of_items {w0 ws w:World}{M I:Nat→Prop}{ow:List Hw.Item}{g:CG}(hw:Sat w0 M I ws ow w)(hm:∀ i∈cgA g,i∈ow):RC w g:=
 ⟨RT.of_row (c:=g.hd.c) rfl hw (hm _ yH),RA.of_row hw (fun i hi=>hm _ (yV (xA _ hi))),RS.of_row hw (hm _ (yV (xB _ yH)))⟩
theorem Jnl {g:CG}{i:Nat}{y:AG}(h:g.bd[i]?=some y):clA g.cl i=y.x:=by
 unfold clA CG.cl;rw [yF,xG,h];rfl
theorem Jnk {g:CG}{i:Nat}{t:Ts}(h:g.ts[i]?=some t):clT g.cl i=t:=by
 unfold clT CG.cl;rw [yF,h];rfl
theorem WC.snap {P:Program}{Q:Post}{n:Nat}{ds:DS}{e:Env}{c:Code}{w0 ws:World}{M I:Nat→Prop}{A ow:List Hw.Item} 
  (h:∀ w1,Sat w0 M I ws (A++ow) w1→WC P Q n ds e (Sat w0 M (fun b=>b<w1.heap.size∧∀ i∈ow,¬ i.D b) w1 ow) c):WC P Q n ds e (Sat w0 M I ws (A++ow)) c:=
 fun a w ha hw=>h w hw a w ha (Sat.resnap (Sat.part (List.sublist_append_right _ _) hw))
end Go.Proofs.YtgebaodagaecmaaGreatDoor
namespace Go.Hw
open Go
set_option linter.unusedSimpArgs false
set_option linter.unusedVariables false
section
variable {w0 ws:World} {M I:Nat→Prop} {ow:List Item}
variable {P:Program} {ops:Array Oper} {Q:Post} {n:Nat} {ds:DS} {e:Env} {rest:List Oper} {t lt:TypeId} {p:String} {af:Array Edge} {k:Nat} {x y:Operand} {v:Value}
theorem take_set_mid {α:Type}{l xs vs:List α}{o k:Nat}(h:l.take k=xs)(ho:o+vs.length≤xs.length)(hk:k≤l.length):(l.take o++vs++l.drop (o+vs.length)).take k=xs.take o++vs++xs.drop (o+vs.length):=by
 have hl:xs.length=k:=by rw [← h,xJ];omega
 subst h;rw [List.take_take,Nat.min_eq_left (by omega),xF,xF,List.take_append,xJ,Nat.min_eq_left (by omega),xK (l:=List.take o l) (by rw [xJ];omega)];congr 1;rw [List.take_append,xK (l:=vs) (by omega)];congr 1;rw [List.drop_take];congr 1;omega
theorem WL.io {T size m cap o b:Nat}{a:Option Addr}{xs vs:List Value}(hx:ev e x=Option.some (.pointer (Option.some ⟨b,o,none⟩)))(ha:a=Option.some ⟨b,0,none⟩)(hy:ev e y=Option.some (.agg vs.toArray))(h1:vs.all (·.oneCell')=true)(hz:P.sz lt=Option.some vs.length)(ho:o+vs.length≤xs.length) 
  (h:WL P ops Q n ds e (Sat w0 M I ws (row T size a m cap (xs.take o++vs++xs.drop (o+vs.length))::ow)) rest) :
  WL P ops Q n ds e (Sat w0 M I ws (row T size a m cap xs::ow)) (⟨none,.store lt x y,t,p,af,none⟩::rest):=by
 subst ha;refine WL.n8 (S':=Sat w0 M I ws (row T size (Option.some ⟨b,0,none⟩) m cap (xs.take o++vs++xs.drop (o+vs.length))::ow)) (fun ac w ha hw=>?_) h;have hown:w.ownsRow 0 T size (.slice (Option.some ⟨b,0,none⟩) m cap) m xs:=hw.it _ yH;rcases hown.2 with ⟨hv,_⟩ | ⟨g,c,cur,hv,hg0,hg,hmc,hcm,hcs,htake⟩
 ·cases hv
 ·simp only [Value.slice.injEq,Option.some.injEq,Addr.mk.injEq,and_true] at hv;obtain ⟨rfl,_,rfl⟩:=hv;have hlen:=hown.1;have hle:m*size≤cur.size:=by rw [hcs];exact Nat.mul_le_mul_right _ hmc
  have hcl:cur.toList.length=cur.size:=Array.length_toList;have ho':o+vs.length≤cur.toList.length:=by omega
  have hs:=run_storeCells_at P b o T vs 0 cur w hg (by simpa using (show o+vs.length≤cur.size by omega)) (by simpa using h1);simp only [xM,Nat.add_zero] at hs;refine ⟨w.setRow b (cur.toList.take o++vs++cur.toList.drop (o+vs.length)).toArray,?_,?_⟩
  ·simp only [execOp,Instr.storeAt,Instr.sureAddr,storeVar,ha.eval hx,ha.eval hy,Value.cells];simp [run_sizeOf hz,hs]
  ·refine hw.turn ((Fr.setRow _ _ _).mono (fun i hi=>⟨_,rfl,by subst hi;rfl⟩)) ⟨by simp only [xL,xJ,List.length_drop];omega,.inr ⟨b,cap,_,rfl,hg0,setRow_heap w b cur _ T (0,0) hg,hmc,hcm,?_,?_⟩⟩ (fun q hq=>.inl hq)
   ·simp only [List.size_toArray,xL,xJ,List.length_drop];rw [← hcs];omega
   ·exact take_set_mid htake ho (by omega)
end
theorem WL.buildSliceB {P:Program}{w0 ws:World}{M I:Nat→Prop}{ow:List Item}{ops:Array Oper}{Q:Post}{n:Nat}{ds:DS}{e:Env}{rest:List Oper}{t lt T:TypeId}{p:String}{af:Array Edge}{k s m:Nat}{xs:List Operand}{css:List (List Value)}{parts:Array (Nat × Operand)}{zc:List Value} 
  (hp:parts=(xs.zipIdx.map fun (x,i)=>(i,x)).toArray) (hu:P.underlying lt=Option.some (.slice T)) (hz:P.sz T=Option.some s) (hzr:P.zr T=Option.some zc.toArray) (hv:evs e xs=Option.some (css.map fun c=>.agg c.toArray)) (hl:css.length=m) (hs:∀ c∈css,c.length=s) (h0:0<m*s) (hm:m*s≤16777216) (hk:Nat.blt k n=true)
  (h:∀ b,WL P ops Q n ds ((k,.slice (Option.some ⟨b,0,Option.none⟩) m m)::e) (Sat w0 M I ws (oQ b css.flatten T::ow)) rest) :
  WL P ops Q n ds e (Sat w0 M I ws ow) (⟨Option.some k,.buildSlice lt m parts,t,p,af,Option.none⟩::rest):=by
 refine WL.i6 (ι:=Nat) (vv:=fun b=>.slice (Option.some ⟨b,0,Option.none⟩) m m) (SS:=fun b=>Sat w0 M I ws (oQ b css.flatten T::ow)) ?_ hk h;intro a w ha hw;obtain ⟨zv,hzv,hc⟩:=Jgo hzr w
 have key:∀ (us:List (List Value)) (i:Nat) (done cur:List Value),(∀ c∈us,c.length=s)→done.length=i*s→cur.length=us.length*s →
   Instr.fill (fun i=>Option.some (i*s,s)) (done++cur).toArray (((us.map fun c=>Value.agg c.toArray).zipIdx i).map fun (v,i)=>(i,v))=Option.some (done++us.flatten).toArray:=by
  intro us
  induction us with
  | nil=>intro i done cur _ _ hcu;have:cur=[]:=List.eq_nil_of_length_eq_zero (by simpa using hcu);subst this;simp [Instr.fill]
  | cons u us ih=>
   intro i done cur h1 hd hcu;have hu1:u.length=s:=h1 u yH;have hcl:cur.length=us.length*s+s:=by rw [hcu,List.length_cons,Nat.add_mul,Nat.one_mul]
   have ih':=ih (i+1) (done++u) (cur.drop s) (fun c hc=>h1 c (.tail _ hc)) (by rw [xL,hd,hu1,Nat.add_mul,Nat.one_mul]) (by rw [List.length_drop];omega);simp only [yC,List.zipIdx_cons];refine Jal (us:=u) rfl (by rw [hu1]) (by rw [xL,hd,hu1];omega) ?_;have e1:(done++cur).take (i*s)=done:=by rw [← hd,List.take_left'];rfl
   have e2:(done++cur).drop (i*s+u.length)=cur.drop s:=by rw [← hd,hu1,List.drop_append,Nat.add_sub_cancel_left,xW (by omega),xY]
   rw [e1,e2,ih'];simp
 have hxs:=Jfe ha hv
 have hmap:List.map ((fun x:Nat × Operand=>(x.fst,a.eval x.snd)) ∘ fun x:Operand × Nat=>(x.snd,x.fst)) xs.zipIdx=(css.map fun c=>Value.agg c.toArray).zipIdx.map fun (v,i)=>(i,v):=by
  rw [← hxs,List.zipIdx_map,List.map_map];rfl
 subst hp;refine ⟨w.heap.size,w.alloc (.cells css.flatten.toArray T),?_,hw.fresh (Fr.alloc _ _) (Jdg _ _) (fun b hb=>by simp only [own] at hb;subst hb;simp)⟩
 have hz2:∀ (f:Nat→Value),Instr.fill (fun i=>Option.some (i*s,s)) ((Array.range (m*s)).map f) ((css.map fun c=>Value.agg c.toArray).zipIdx.map fun (v,i)=>(i,v))=Option.some css.flatten.toArray:=by
  intro f;have h2:=key css 0 [] ((Array.range (m*s)).map f).toList hs (by simp) (by simp [hl]);rw [xY,xY,Array.toArray_toList] at h2;exact h2
 have hs0:¬ (m*s=0):=by omega
 have hs3:¬ (m*s > 2 ^ 24):=by omega
 simp only [execOp,Instr.buildSlice,Sem.run_bind,run_underlying hu,Result.andThen_ok,run_sizeOf hz,if_neg hs3,if_neg hs0,hzv,Sem.run_pure];simp only [List.map_toArray,List.map_map,hmap,hz2];simp [newRow,newObj,Sem.run]
end Go.Hw
