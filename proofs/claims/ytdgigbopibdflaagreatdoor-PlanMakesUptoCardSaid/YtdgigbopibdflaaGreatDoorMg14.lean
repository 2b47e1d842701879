/- Contracts of functions of the program: what each returns and leaves in memory. Printed by gen.py and walk.py. A store of several cells into an element of a row. -/
import Derived.Test.YtdgigbopibdflaaGreatDoorMg13
import Derived.Test.YtdgigbopibdflaaGreatDoorHxA
import Derived.Test.YtdgigbopibdflaaGreatDoorHxTurn
set_option maxRecDepth 10000
namespace Go.Proofs.YtdgigbopibdflaaGreatDoor
open Go Go.Hw
set_option linter.unusedSimpArgs false
set_option linter.unusedVariables false
theorem RT.pre {w:World}{a:Option Addr}{ts us:List Tm}(h:RT w a (ts++us))(hu:0<us.length):RT w a ts:=
 ⟨fun ha=>by have:=h.nil ha;rw [xL] at this;omega,fun q hq i t ht j v hv=>h.at_ q hq i t (by rw [List.getElem?_append_left (List.getElem?_eq_some_iff.1 ht).1];exact ht) j v hv⟩
theorem keptTerms_calls (ts:List Tm)(a b:Option Addr)(c1 c2:Nat)(hm:ts.length≤1048576)(hc:ts.length+1≤c1)(w:World)(hB:Jdj w)(hr1:RT w a (ts++[TB]))(hr2:RT w b ts):Calls Tryz.prog 100 #[.slice a ts.length c1,.slice b ts.length c2] w fun e w'=>e=.returned (.bool true)∧Fr0 w w':=by
 refine Jbi (args:=[.slice a ts.length c1,.slice b ts.length c2]) (fun _=>False) Tryz.func100 rfl Tryz.ntmps100 rfl rfl ?_;refine Csr (Za rfl (Nn (Cs (Csr (Zm rfl (Zm rfl (WL.c0 (v:=.bool true) (vs:=[.slice a ts.length c1,.slice b ts.length c2]) (fun w' hw'=>(sameTerms_calls ts ts a b c1 c2 (by omega) (by omega) w' ((hr1.pre (by decide)).keeps hw'.keeps) (hr2.keeps hw'.keeps)).mono (fun en w'' ⟨h1,h2⟩=>⟨by rw [h1,xO rfl],h2⟩)) ?_)))))));refine Zv (OV.not rfl) (Nn (WC.ca (show _=some (Value.bool false) from by rfl) ?_));refine Ck (Xn (Csr (Zm rfl (Zm rfl (Zv (OV.ad rfl T.u24) (Zv (OV.bh (j:=1) rfl rfl (by omega)) (Zv (OV.e7 (h:=ts.length+1) rfl T.u24 T.z23 rfl (by omega)) (Za rfl (Nn (Cs (Hq [] (m:=8) rfl ?_)))))))))));refine Hf 0 rfl (OV.cj rfl) (Hf 1 rfl (OV.cj rfl) (Hf 2 rfl (OV.ad rfl T.u24) ?_));obtain ⟨q1,t1,rfl,ht1,_,_,hc1⟩:=hr1.get (i:=ts.length) (by simp);have htb:t1=TB:=by rw [List.getElem?_append_right (Nat.le_refl _),Nat.sub_self] at ht1;simpa using ht1.symm
 subst htb;refine Hf 3 rfl ((OV.ae rfl rfl T.u24 T.z23 (by omega)).cast (u:=.pointer (some (q1.add (ts.length*3)))) (by rw [xN])) (Ht 4 rfl (OV.am (cs:=tmC TB) rfl T.u23 rfl T.z23 (fun _ hw j v hj=>hw.keeps _ _ (hc1 j v hj))) (Ht 5 rfl (OV.am (cs:=tmC TB) rfl T.u23 rfl T.z23 (fun _ hw j v hj=>by rw [Jav,xM];exact hw.keeps _ _ (hB j v hj))) (Hf 6 rfl ((OV.i8 (a:=TB) (b:=TB) rfl rfl).cast (u:=.bool true) (by rw [xO rfl])) (Hf 7 rfl (OV.assign rfl) (He (Xn (WC.ay ?_)))))));exact WX.ret1 rfl rfl rfl (fun w' hw=>⟨rfl,hw.fr⟩)
theorem keptAtom_calls (x:At)(a b:Option Addr)(c1 c2:Nat)(hm:x.args.length≤1048576)(hc:x.args.length+1≤c1)(w:World)(hB:Jdj w)(hr1:RT w a (x.args++[TB]))(hr2:RT w b x.args):Calls Tryz.prog 43 #[atV x a c1,atV x b c2] w fun e w'=>e=.returned (.bool true)∧Fr0 w w':=by
 refine Jbi (args:=[atV x a c1,atV x b c2]) (fun _=>False) Tryz.func43 rfl Tryz.ntmps43 rfl rfl ?_;refine Csr (WL.box rfl rfl rfl ?_);intro b2;refine WL.box rfl rfl rfl ?_;intro b3;refine Za rfl (Nn (Csr (Zv (OV.f0 0 rfl T.u26 rfl) (Zv (OV.am (cs:=tmC x.b) rfl T.u23 rfl T.z23 (fun _ hw j v hj=>by rw [Jav];exact Jbk hw yG (o:=0) (cs':=tmC x.b) rfl j v hj)) (Zv (OV.f0 0 rfl T.u26 rfl) (Zv (OV.am (cs:=tmC x.b) rfl T.u23 rfl T.z23 (fun _ hw j v hj=>by rw [Jav];exact Jbk hw yF (o:=0) (cs':=tmC x.b) rfl j v hj)) (Zv ((OV.i8 (a:=x.b) (b:=x.b) rfl rfl).cast (u:=.bool true) (by rw [xO rfl])) (Zm rfl (WL.known (t:=10) (b:=true) rfl (by rfl) ?_)))))))));refine yW (Zv (OV.f0 3 rfl T.u26 rfl) (yW (Zv (OV.l1 (v:=.string x.name) rfl T.u9 rfl yG rfl) (yW (Zv (OV.f0 3 rfl T.u26 rfl) (yW (Zv (OV.l1 (v:=.string x.name) rfl T.u9 rfl yF rfl) (yW (Zv ((OV.gk rfl rfl).cast (u:=.bool true) (by rw [xO rfl])) (Zv (OV.ak rfl rfl) (Zm rfl (WL.known (t:=17) (b:=true) rfl (by rfl) ?_))))))))))));refine yW (Zv (OV.f0 4 rfl T.u26 rfl) (yW (Zv (OV.l1 (v:=.slice a x.args.length c1) rfl T.u24 rfl yG rfl) (yW (Zv (OV.f0 4 rfl T.u26 rfl) (yW (Zv (OV.l1 (v:=.slice b x.args.length c2) rfl T.u24 rfl yF rfl) (yW (WL.c0 (v:=.bool true) (vs:=[.slice a x.args.length c1,.slice b x.args.length c2]) (fun w' hw'=>keptTerms_calls x.args a b c1 c2 hm hc w' (hB.keeps hw'.keeps) (hr1.keeps hw'.keeps) (hr2.keeps hw'.keeps)) ?_)))))))));refine Zv (OV.ak rfl rfl) (Za rfl (Nn (WC.ay ?_)));exact WX.ret1 rfl rfl rfl (fun w' hw=>⟨rfl,hw.fr⟩)
theorem letter_calls (c:UInt8)(w:World):Calls Tryz.prog 221 #[.int .u8 (c.toNat:Int)] w fun e w'=>e=.returned (.bool (letB c))∧Fr0 w w':=by
 refine Jbi (args:=[.int .u8 (c.toNat:Int)]) (fun _=>False) Tryz.func221 rfl Tryz.ntmps221 rfl rfl ?_;refine Csr (Za rfl (Nn (Csr (Zm rfl (Zv (OV.fx rfl rfl) (Zm rfl ?_))))));refine Zp (t:=5) rfl (fun g5=>?_) (fun g5=>?_)
 ·refine yW (Zm rfl (yW (Zv (OV.ic rfl rfl) (Zv (OV.ak rfl rfl) (Zm rfl ?_)))));refine Zp (t:=9) rfl (fun g9=>?_) (fun g9=>?_)
  ·refine yV (yV (yV (Zu rfl rfl (Zu rfl rfl (yV (Zv (OV.ak rfl rfl) (Zm rfl (yV (yV (yV (Zu rfl rfl (Zu rfl rfl (yV (Zv (OV.ak rfl rfl) (Zm rfl (yV (yV (Zv (OV.ak rfl rfl) (Za rfl (Nn (WC.ay ?_)))))))))))))))))))));exact WX.ret1 rfl rfl rfl (fun w' hw=>⟨by clear hw;congr 2;unfold letB;first | (rw [eq_comm,decide_eq_true_eq];omega) | (rw [eq_comm,decide_eq_false_iff_not];omega) | (rw [decide_eq_decide];omega),hw.fr⟩)
  refine yW (Zm rfl (yW (Zv (OV.fx rfl rfl) (yW (Zm rfl ?_)))));refine Zp (t:=12) rfl (fun g12=>?_) (fun g12=>?_)
  ·refine yW (Zm rfl (yW (Zv (OV.ic rfl rfl) (yW (Zv (OV.ak rfl rfl) (Zv (OV.ai rfl rfl) (Zm rfl ?_)))))));refine Zp (t:=17) rfl (fun g17=>?_) (fun g17=>?_)
   ·refine yV (yV (yV (Zu rfl rfl (Zu rfl rfl (yV (Zv (OV.ak rfl rfl) (Zm rfl (yV (yV (Zv (OV.ak rfl rfl) (Za rfl (Nn (WC.ay ?_)))))))))))));exact WX.ret1 rfl rfl rfl (fun w' hw=>⟨by clear hw;congr 2;unfold letB;first | (rw [eq_comm,decide_eq_true_eq];omega) | (rw [eq_comm,decide_eq_false_iff_not];omega) | (rw [decide_eq_decide];omega),hw.fr⟩)
   refine yW (Zm rfl (yW (Zv (OV.fx rfl rfl) (yW (Zm rfl ?_)))));refine Zp (t:=20) rfl (fun g20=>?_) (fun g20=>?_)
   ·refine yW (Zm rfl (yW (Zv (OV.ic rfl rfl) (yW (Zv (OV.ak rfl rfl) (Zv (OV.ai rfl rfl) (Zm rfl ?_)))))));refine Zp (t:=25) rfl (fun g25=>?_) (fun g25=>?_)
    ·refine yV (yV (Zv (OV.ak rfl rfl) (Za rfl (Nn (WC.ay ?_)))));exact WX.ret1 rfl rfl rfl (fun w' hw=>⟨by clear hw;congr 2;unfold letB;first | (rw [eq_comm,decide_eq_true_eq];omega) | (rw [eq_comm,decide_eq_false_iff_not];omega) | (rw [decide_eq_decide];omega),hw.fr⟩)
    refine yW (Zm rfl (yW (Zv (OV.dq rfl rfl) (Zv (OV.ai rfl rfl) (Za rfl (Nn (WC.ay ?_)))))));exact WX.ret1 rfl rfl rfl (fun w' hw=>⟨by clear hw;congr 2;unfold letB;first | (rw [eq_comm,decide_eq_true_eq];omega) | (rw [eq_comm,decide_eq_false_iff_not];omega) | (rw [decide_eq_decide];omega),hw.fr⟩)
   refine yV (yV (yW (Zv (OV.ai rfl rfl) (Zv (OV.ai rfl rfl) (Zm rfl (yW (Zm rfl (yW (Zv (OV.dq rfl rfl) (Zv (OV.ai rfl rfl) (Za rfl (Nn (WC.ay ?_)))))))))))));exact WX.ret1 rfl rfl rfl (fun w' hw=>⟨by clear hw;congr 2;unfold letB;first | (rw [eq_comm,decide_eq_true_eq];omega) | (rw [eq_comm,decide_eq_false_iff_not];omega) | (rw [decide_eq_decide];omega),hw.fr⟩)
  refine yV (yV (yW (Zv (OV.ai rfl rfl) (Zv (OV.ai rfl rfl) (Zm rfl (yW (Zm rfl (yW (Zv (OV.fx rfl rfl) (yW (Zm rfl ?_)))))))))));refine Zp (t:=20) rfl (fun g20=>?_) (fun g20=>?_)
  ·refine yW (Zm rfl (yW (Zv (OV.ic rfl rfl) (yW (Zv (OV.ak rfl rfl) (Zv (OV.ai rfl rfl) (Zm rfl ?_)))))));refine Zp (t:=25) rfl (fun g25=>?_) (fun g25=>?_)
   ·refine yV (yV (Zv (OV.ak rfl rfl) (Za rfl (Nn (WC.ay ?_)))));exact WX.ret1 rfl rfl rfl (fun w' hw=>⟨by clear hw;congr 2;unfold letB;first | (rw [eq_comm,decide_eq_true_eq];omega) | (rw [eq_comm,decide_eq_false_iff_not];omega) | (rw [decide_eq_decide];omega),hw.fr⟩)
   refine yW (Zm rfl (yW (Zv (OV.dq rfl rfl) (Zv (OV.ai rfl rfl) (Za rfl (Nn (WC.ay ?_)))))));exact WX.ret1 rfl rfl rfl (fun w' hw=>⟨by clear hw;congr 2;unfold letB;first | (rw [eq_comm,decide_eq_true_eq];omega) | (rw [eq_comm,decide_eq_false_iff_not];omega) | (rw [decide_eq_decide];omega),hw.fr⟩)
  refine yV (yV (yW (Zv (OV.ai rfl rfl) (Zv (OV.ai rfl rfl) (Zm rfl (yW (Zm rfl (yW (Zv (OV.dq rfl rfl) (Zv (OV.ai rfl rfl) (Za rfl (Nn (WC.ay ?_)))))))))))));exact WX.ret1 rfl rfl rfl (fun w' hw=>⟨by clear hw;congr 2;unfold letB;first | (rw [eq_comm,decide_eq_true_eq];omega) | (rw [eq_comm,decide_eq_false_iff_not];omega) | (rw [decide_eq_decide];omega),hw.fr⟩)
 refine yV (yV (Zv (OV.ai rfl rfl) (Zm rfl (yW (Zm rfl (yW (Zv (OV.fx rfl rfl) (yW (Zm rfl ?_)))))))));refine Zp (t:=12) rfl (fun g12=>?_) (fun g12=>?_)
 ·refine yW (Zm rfl (yW (Zv (OV.ic rfl rfl) (yW (Zv (OV.ak rfl rfl) (Zv (OV.ai rfl rfl) (Zm rfl ?_)))))));refine Zp (t:=17) rfl (fun g17=>?_) (fun g17=>?_)
  ·refine yV (yV (yV (Zu rfl rfl (Zu rfl rfl (yV (Zv (OV.ak rfl rfl) (Zm rfl (yV (yV (Zv (OV.ak rfl rfl) (Za rfl (Nn (WC.ay ?_)))))))))))));exact WX.ret1 rfl rfl rfl (fun w' hw=>⟨by clear hw;congr 2;unfold letB;first | (rw [eq_comm,decide_eq_true_eq];omega) | (rw [eq_comm,decide_eq_false_iff_not];omega) | (rw [decide_eq_decide];omega),hw.fr⟩)
  refine yW (Zm rfl (yW (Zv (OV.fx rfl rfl) (yW (Zm rfl ?_)))));refine Zp (t:=20) rfl (fun g20=>?_) (fun g20=>?_)
  ·refine yW (Zm rfl (yW (Zv (OV.ic rfl rfl) (yW (Zv (OV.ak rfl rfl) (Zv (OV.ai rfl rfl) (Zm rfl ?_)))))));refine Zp (t:=25) rfl (fun g25=>?_) (fun g25=>?_)
   ·refine yV (yV (Zv (OV.ak rfl rfl) (Za rfl (Nn (WC.ay ?_)))));exact WX.ret1 rfl rfl rfl (fun w' hw=>⟨by clear hw;congr 2;unfold letB;first | (rw [eq_comm,decide_eq_true_eq];omega) | (rw [eq_comm,decide_eq_false_iff_not];omega) | (rw [decide_eq_decide];omega),hw.fr⟩)
   refine yW (Zm rfl (yW (Zv (OV.dq rfl rfl) (Zv (OV.ai rfl rfl) (Za rfl (Nn (WC.ay ?_)))))));exact WX.ret1 rfl rfl rfl (fun w' hw=>⟨by clear hw;congr 2;unfold letB;first | (rw [eq_comm,decide_eq_true_eq];omega) | (rw [eq_comm,decide_eq_false_iff_not];omega) | (rw [decide_eq_decide];omega),hw.fr⟩)
  refine yV (yV (yW (Zv (OV.ai rfl rfl) (Zv (OV.ai rfl rfl) (Zm rfl (yW (Zm rfl (yW (Zv (OV.dq rfl rfl) (Zv (OV.ai rfl rfl) (Za rfl (Nn (WC.ay ?_)))))))))))));exact WX.ret1 rfl rfl rfl (fun w' hw=>⟨by clear hw;congr 2;unfold letB;first | (rw [eq_comm,decide_eq_true_eq];omega) | (rw [eq_comm,decide_eq_false_iff_not];omega) | (rw [decide_eq_decide];omega),hw.fr⟩)
 refine yV (yV (yW (Zv (OV.ai rfl rfl) (Zv (OV.ai rfl rfl) (Zm rfl (yW (Zm rfl (yW (Zv (OV.fx rfl rfl) (yW (Zm rfl ?_)))))))))));refine Zp (t:=20) rfl (fun g20=>?_) (fun g20=>?_)
 ·refine yW (Zm rfl (yW (Zv (OV.ic rfl rfl) (yW (Zv (OV.ak rfl rfl) (Zv (OV.ai rfl rfl) (Zm rfl ?_)))))));refine Zp (t:=25) rfl (fun g25=>?_) (fun g25=>?_)
  ·refine yV (yV (Zv (OV.ak rfl rfl) (Za rfl (Nn (WC.ay ?_)))));exact WX.ret1 rfl rfl rfl (fun w' hw=>⟨by clear hw;congr 2;unfold letB;first | (rw [eq_comm,decide_eq_true_eq];omega) | (rw [eq_comm,decide_eq_false_iff_not];omega) | (rw [decide_eq_decide];omega),hw.fr⟩)
  refine yW (Zm rfl (yW (Zv (OV.dq rfl rfl) (Zv (OV.ai rfl rfl) (Za rfl (Nn (WC.ay ?_)))))));exact WX.ret1 rfl rfl rfl (fun w' hw=>⟨by clear hw;congr 2;unfold letB;first | (rw [eq_comm,decide_eq_true_eq];omega) | (rw [eq_comm,decide_eq_false_iff_not];omega) | (rw [decide_eq_decide];omega),hw.fr⟩)
 refine yV (yV (yW (Zv (OV.ai rfl rfl) (Zv (OV.ai rfl rfl) (Zm rfl (yW (Zm rfl (yW (Zv (OV.dq rfl rfl) (Zv (OV.ai rfl rfl) (Za rfl (Nn (WC.ay ?_)))))))))))));exact WX.ret1 rfl rfl rfl (fun w' hw=>⟨by clear hw;congr 2;unfold letB;first | (rw [eq_comm,decide_eq_true_eq];omega) | (rw [eq_comm,decide_eq_false_iff_not];omega) | (rw [decide_eq_decide];omega),hw.fr⟩)
theorem refName_calls (s:ByteArray)(hs:s.size≤1099511627776)(w:World):Calls Tryz.prog 192 #[.string s] w fun e w'=>e=.returned (.bool (nameB s))∧Fr0 w w':=by
 refine Jbi (args:=[.string s]) (fun _=>False) Tryz.func192 rfl Tryz.ntmps192 rfl rfl ?_;refine Csr (Za rfl (Nn (Cs (Csr (Zm rfl (Zv (OV.gk rfl rfl) (Zm rfl ?_)))))));refine Zp (t:=6) rfl (fun g6=>?_) (fun g6=>?_)
 ·refine yV (yV (yV (Zv (OV.ak rfl rfl) (Zm rfl (yV (yV (Zv (OV.ak rfl rfl) (Zm rfl (yV (yV (yV (Zv (OV.ak rfl rfl) (Zm rfl (yV (yV (yV (Zv (OV.ak rfl rfl) (Nn (WC.cm rfl ?_)))))))))))))))))));refine Csr (Za rfl (Nn (WC.ay ?_)));refine Xr ?_;exact WX.ret1 rfl rfl rfl (fun w' hw=>⟨by clear hw;rw [show nameB s=false from by unfold nameB;rw [decide_eq_false_iff_not];rintro ⟨h1,h2,h3,h4,h5,h6⟩;first | exact h1 (by assumption) | exact h3 (by assumption) | omega],hw.fr⟩)
 refine yW (Zm rfl (yW (Zv (OV.bg rfl T.u9) (yW (Zv (OV.ia rfl rfl) (Zv (OV.ai rfl rfl) (Zm rfl ?_)))))));refine Zp (t:=11) rfl (fun g11=>?_) (fun g11=>?_)
 ·refine yV (yV (Zv (OV.ak rfl rfl) (Zm rfl (yV (yV (yV (Zv (OV.ak rfl rfl) (Zm rfl (yV (yV (yV (Zv (OV.ak rfl rfl) (Nn (WC.cm rfl ?_))))))))))))));refine Csr (Za rfl (Nn (WC.ay ?_)));refine Xr ?_;exact WX.ret1 rfl rfl rfl (fun w' hw=>⟨by clear hw;rw [show nameB s=false from by unfold nameB;rw [decide_eq_false_iff_not];rintro ⟨h1,h2,h3,h4,h5,h6⟩;first | exact h1 (by assumption) | exact h3 (by assumption) | omega],hw.fr⟩)
 refine yW (Zm rfl (yW (Zv (OV.gk rfl rfl) (Zv (OV.ai rfl rfl) (Zm rfl ?_)))));refine Zp (t:=15) rfl (fun g15=>?_) (fun g15=>?_)
 ·refine yV (yV (yV (Zv (OV.ak rfl rfl) (Zm rfl (yV (yV (yV (Zv (OV.ak rfl rfl) (Nn (WC.cm rfl ?_))))))))));refine Csr (Za rfl (Nn (WC.ay ?_)));refine Xr ?_;exact WX.ret1 rfl rfl rfl (fun w' hw=>⟨by clear hw;rw [show nameB s=false from by unfold nameB;rw [decide_eq_false_iff_not];rintro ⟨h1,h2,h3,h4,h5,h6⟩;first | exact h1 (by assumption) | exact h3 (by assumption) | omega],hw.fr⟩)
 refine yW (Zm rfl (yW ?_));have hsz:=size_pos g6;refine Zv (OV.d9 (r:=bAt s 0) rfl rfl T.u9 ⟨by omega,bget hsz⟩) (yW (Zv (OV.cu rfl rfl) (Zv (OV.ai rfl rfl) (Zm rfl ?_))));refine Zp (t:=20) rfl (fun g20=>?_) (fun g20=>?_)
 ·refine yV (yV (yV (Zv (OV.ak rfl rfl) (Nn (WC.cm rfl ?_)))));refine Csr (Za rfl (Nn (WC.ay ?_)));refine Xr ?_;exact WX.ret1 rfl rfl rfl (fun w' hw=>⟨by clear hw;rw [show nameB s=false from by unfold nameB;rw [decide_eq_false_iff_not];rintro ⟨h1,h2,h3,h4,h5,h6⟩;first | exact h1 (by assumption) | exact h3 (by assumption) | omega],hw.fr⟩)
 refine yW (Zm rfl (yW (Zv (OV.d9 (r:=bAt s 0) rfl rfl T.u9 ⟨by omega,bget hsz⟩) (yW (Zv (OV.ia rfl rfl) (Zv (OV.ai rfl rfl) (Nn ?_)))))));refine Cc rfl (fun c24=>?_) (fun c24=>?_)
 ·refine Csr (Za rfl (Nn (WC.ay ?_)));refine Xr ?_;exact WX.ret1 rfl rfl rfl (fun w' hw=>⟨by clear hw;rw [show nameB s=false from by unfold nameB;rw [decide_eq_false_iff_not];rintro ⟨h1,h2,h3,h4,h5,h6⟩;first | exact h1 (by assumption) | exact h3 (by assumption) | omega],hw.fr⟩)
 refine Ck (Xn (Cs (Csr (Za rfl (Nn (Cb ?_))))))
 refine WC.bz (fun (i:Nat)=>[(0,.string s),(3,.int .i64 (i:Int))])
   (fun i w'=>(i≤s.size∧∀ j,j<i→letB (bAt s j)=true)∧Sat0 w ([]) w')
   (fun i=>s.size - i) 0 Y2 (fun w' hw=>⟨⟨by omega,by intro j hj;omega⟩,hw⟩) ?_
 intro i;refine WC.pure (fun hi=>?_);obtain ⟨hi,hz⟩:=hi;refine Cs (Csr (Zm rfl (Zm rfl (Zv (OV.bg rfl T.u9) (Zv (OV.cu rfl rfl) (Nn ?_))))));refine Cc rfl (fun c28=>?_) (fun c28=>?_)
 ·refine Ck (Xn (Cs (Cb (Csr (Zm rfl (Zm rfl ?_))))));obtain ⟨cb,hcb⟩:∃ cb,cb=bAt s i:=⟨_,rfl⟩
  refine Zv (OV.d9 (r:=cb) rfl rfl T.u9 ⟨by omega,by rw [hcb];exact bget (by omega)⟩) (WL.aw (v:=.bool (letB cb)) (by kernel_rfl) rfl rfl (fun w' hw'=>letter_calls cb w') ?_);refine Zv (OV.not rfl) (Nn ?_);refine Cc rfl (fun c35=>?_) (fun c35=>?_)
  ·refine Csr (Za rfl (Nn (WC.ay ?_)));refine Xq (Xr (Xr (Xq (Xr ?_))));exact WX.ret1 rfl rfl rfl (fun w' hw=>⟨by clear hw;rw [Jeb (i:=i) (by omega) (by rw [← hcb];simpa using c35)],hw.fr⟩)
  refine Ck (Xb (Xn (Cr (Zm rfl (Zv (OV.bh (j:=1) rfl rfl (by omega)) (Za rfl (Nl ?_)))))));have hlt:letB (bAt s i)=true:=by rw [← hcb];simpa using c35
  exact WX.au (i+1) Y2 (fun w' hw=>⟨⟨by omega,fun j hj=>by rcases Nat.lt_or_ge j i with h | h;exact hz j h;rw [show j=i by omega];exact hlt⟩,hw⟩) (by show s.size - (i+1)<s.size - i;omega)
 refine Ce (Xe (Xe (Xh (Xn (Csr (Za rfl (Nn (WC.ay ?_))))))));exact WX.ret1 rfl rfl rfl (fun w' hw=>⟨by clear hw;rw [show nameB s=true from by unfold nameB;rw [decide_eq_true_eq];exact ⟨by assumption,by omega,by assumption,by omega,by omega,fun j hj=>hz j (by omega)⟩],hw.fr⟩)
theorem refChk_calls (x:At)(a:Option Addr)(c:Nat)(hl:x.args.length≤1099511627776)(hs:x.name.size≤1099511627776)(w:World)(hr:RT w a x.args):Calls Tryz.prog 128 #[atV x a c] w fun e w'=>e=.returned (.int .i64 (chkA x))∧Fr0 w w':=by
 refine Jbi (args:=[atV x a c]) (fun _=>False) Tryz.func128 rfl Tryz.ntmps128 rfl rfl ?_;refine Csr (WL.box rfl rfl rfl ?_);intro b1;refine Za rfl (Nn (Cs (Csr (Zv (OV.f0 3 rfl T.u26 rfl) (Zv (OV.l1 (v:=.string x.name) rfl T.u9 rfl yF rfl) (WL.aw (v:=.bool (nameB x.name)) (by kernel_rfl) rfl rfl (fun w' hw'=>refName_calls x.name hs w') ?_))))));refine Zv (OV.not rfl) (Nn ?_);refine Cc rfl (fun c7=>?_) (fun c7=>?_)
 ·refine Csr (Za rfl (Nn (WC.ay ?_)));refine Xr ?_;exact WX.ret1 rfl rfl rfl (fun w' hw=>⟨by clear hw;congr 2;first | (have hany:x.args.any badB=true:=(List.any_eq_true.2 ⟨t,htm,by unfold badB;simp_all⟩);unfold chkA;rw [hany];clear hany;(simp_all <;> (try omega))) | (have hany:x.args.any badB=false:=(List.any_eq_false.2 fun u hu=>by rw [hbad u (by rw [xK (by omega)];exact hu)];simp);unfold chkA;rw [hany];clear hany;(simp_all <;> (try omega))) | (simp_all [chkA] <;> (repeat' split) <;> first | omega | (exfalso;omega) | simp_all),hw.fr⟩)
 refine Ck (Xn (Cs (Csr (Zv (OV.f0 4 rfl T.u26 rfl) (Zv (OV.l1 (v:=.slice a x.args.length c) rfl T.u24 rfl yF rfl) (Zv (OV.ad rfl T.u24) (Zv (OV.ia rfl rfl) (Nn ?_))))))));refine Cc rfl (fun c11=>?_) (fun c11=>?_)
 ·refine Csr (Za rfl (Nn (WC.ay ?_)));refine Xr ?_;exact WX.ret1 rfl rfl rfl (fun w' hw=>⟨by clear hw;congr 2;first | (have hany:x.args.any badB=true:=(List.any_eq_true.2 ⟨t,htm,by unfold badB;simp_all⟩);unfold chkA;rw [hany];clear hany;(simp_all <;> (try omega))) | (have hany:x.args.any badB=false:=(List.any_eq_false.2 fun u hu=>by rw [hbad u (by rw [xK (by omega)];exact hu)];simp);unfold chkA;rw [hany];clear hany;(simp_all <;> (try omega))) | (simp_all [chkA] <;> (repeat' split) <;> first | omega | (exfalso;omega) | simp_all),hw.fr⟩)
 refine Ck (Xn (Cs (Csr (Zv (OV.f0 0 rfl T.u26 rfl) (Zv (OV.am (cs:=tmC x.b) rfl T.u23 rfl T.z23 (fun _ hw j v hj=>by rw [Jav];exact Jbk hw yF (o:=0) (cs':=tmC x.b) rfl j v hj)) (Zv (OV.bf (xs:=[]) (pl:=[(0,1),(1,1),(2,1)]) (cs:=tmC T0) T.u23 T.zr23 (by kernel_rfl) rfl rfl) (Zv (OV.i7 (a:=x.b) (b:=T0) rfl rfl) (Zm rfl ?_))))))));refine Zp (t:=16) rfl (fun g16=>?_) (fun g16=>?_)
 ·refine yW (Zv (OV.f0 0 rfl T.u26 rfl) (yW (Zv (OV.am (cs:=tmC x.b) rfl T.u23 rfl T.z23 (fun _ hw j v hj=>by rw [Jav];exact Jbk hw yF (o:=0) (cs':=tmC x.b) rfl j v hj)) (yW (WL.aw (v:=.bool (prinB x.b)) (by kernel_rfl) rfl rfl (fun w' hw'=>refPrin_calls x.b w') ?_)))));refine yW (Zv (OV.not rfl) (Zv (OV.ak rfl rfl) (Zm rfl ?_)));refine Zp (t:=22) rfl (fun g22=>?_) (fun g22=>?_)
  ·refine yW (Zv (OV.f0 0 rfl T.u26 rfl) (yW (Zv (OV.am (cs:=tmC x.b) rfl T.u23 rfl T.z23 (fun _ hw j v hj=>by rw [Jav];exact Jbk hw yF (o:=0) (cs':=tmC x.b) rfl j v hj)) (yW (WL.aw (v:=.bool (varB x.b)) (by kernel_rfl) rfl rfl (fun w' hw'=>Jcv x.b w') ?_)))));refine yW (Zv (OV.not rfl) (Zv (OV.ak rfl rfl) (Nn ?_)));refine Cc rfl (fun c27=>?_) (fun c27=>?_)
   ·refine Csr (Za rfl (Nn (WC.ay ?_)));refine Xr ?_;exact WX.ret1 rfl rfl rfl (fun w' hw=>⟨by clear hw;congr 2;first | (have hany:x.args.any badB=true:=(List.any_eq_true.2 ⟨t,htm,by unfold badB;simp_all⟩);unfold chkA;rw [hany];clear hany;(simp_all <;> (try omega))) | (have hany:x.args.any badB=false:=(List.any_eq_false.2 fun u hu=>by rw [hbad u (by rw [xK (by omega)];exact hu)];simp);unfold chkA;rw [hany];clear hany;(simp_all <;> (try omega))) | (simp_all [chkA] <;> (repeat' split) <;> first | omega | (exfalso;omega) | simp_all),hw.fr⟩)
   refine Ck (Xn (Cs (Csr (Za rfl (Nn (Cb ?_))))))
   refine WC.bz (fun (i:Nat)=>[(1,yX b1),(3,.int .i64 (i:Int))])
     (fun i w'=>(i≤x.args.length∧∀ t∈x.args.take i,badB t=false)∧Sat0 w (oQ b1 (atC x a c) 26::[]) w')
     (fun i=>x.args.length - i) 0 Y2 (fun w' hw=>⟨⟨by omega,fun t ht=>by simp at ht⟩,hw⟩) ?_
   intro i;refine WC.pure (fun hi=>?_);obtain ⟨hi,hbad⟩:=hi;refine Cs (Csr (Zm rfl (Zv (OV.f0 4 rfl T.u26 rfl) (Zv (OV.l1 (v:=.slice a x.args.length c) rfl T.u24 rfl yF rfl) (Zv (OV.ad rfl T.u24) (Zv (OV.cu rfl rfl) (Nn ?_)))))));refine Cc rfl (fun c32=>?_) (fun c32=>?_)
   ·refine Ck (Xn (Cs (Cb (Csr (Zv (OV.f0 4 rfl T.u26 rfl) (Zv (OV.l1 (v:=.slice a x.args.length c) rfl T.u24 rfl yF rfl) (Zm rfl ?_)))))));obtain ⟨q1,t,hq1,ht1,htm,_,hc1⟩:=hr.get (i:=i) (by omega);refine Zv ((OV.ae (show _=some (Value.slice (some q1) x.args.length c) by rw [← hq1];rfl) rfl T.u24 T.z23 (by omega)).cast (u:=.pointer (some (q1.add (i*3)))) (by rw [xN])) (Zv (OV.am (cs:=tmC t) rfl T.u23 rfl T.z23 (fun _ hw j v hj=>hw.keeps _ _ (hc1 j v hj))) (WL.aw (v:=.bool (Jcn t)) (by kernel_rfl) rfl rfl (fun w' hw'=>Jcw t w') ?_));refine Zv (OV.not rfl) (Zm rfl ?_);refine Zp (t:=42) rfl (fun g42=>?_) (fun g42=>?_)
    ·refine yW (Zv (OV.f0 4 rfl T.u26 rfl) (yW (Zv (OV.l1 (v:=.slice a x.args.length c) rfl T.u24 rfl yF rfl) (yW (Zm rfl (yW (Zv ((OV.ae (show _=some (Value.slice (some q1) x.args.length c) by rw [← hq1];rfl) rfl T.u24 T.z23 (by omega)).cast (u:=.pointer (some (q1.add (i*3)))) (by rw [xN])) (yW (Zv (OV.am (cs:=tmC t) rfl T.u23 rfl T.z23 (fun _ hw j v hj=>hw.keeps _ _ (hc1 j v hj))) (yW (WL.aw (v:=.bool (varB t)) (by kernel_rfl) rfl rfl (fun w' hw'=>Jcv t w') ?_)))))))))));refine yW (Zv (OV.not rfl) (Zv (OV.ak rfl rfl) (Nn ?_)));refine Cc rfl (fun c50=>?_) (fun c50=>?_)
     ·refine Csr (Za rfl (Nn (WC.ay ?_)));refine Xq (Xr (Xr (Xq (Xr ?_))));exact WX.ret1 rfl rfl rfl (fun w' hw=>⟨by clear hw;congr 2;first | (have hany:x.args.any badB=true:=(List.any_eq_true.2 ⟨t,htm,by unfold badB;simp_all⟩);unfold chkA;rw [hany];clear hany;(simp_all <;> (try omega))) | (have hany:x.args.any badB=false:=(List.any_eq_false.2 fun u hu=>by rw [hbad u (by rw [xK (by omega)];exact hu)];simp);unfold chkA;rw [hany];clear hany;(simp_all <;> (try omega))) | (simp_all [chkA] <;> (repeat' split) <;> first | omega | (exfalso;omega) | simp_all),hw.fr⟩)
     refine Ck (Xb (Xn (Cr (Zm rfl (Zv (OV.bh (j:=1) rfl rfl (by omega)) (Za rfl (Nl ?_)))))));have hb:badB t=false:=by unfold badB;simp_all
     exact WX.au (i+1) Y2 (fun w' hw=>⟨⟨by omega,fun u hu=>by
      rw [List.take_add_one,ht1] at hu;rcases List.mem_append.1 hu with h | h
      ·exact hbad u h
      ·simp at h;subst h;exact hb⟩,hw⟩) (by show x.args.length - (i+1)<x.args.length - i;omega)
    refine yV (yV (yV (yV (yV (yV (yV (Zv (OV.ai rfl rfl) (Nn (WC.ca rfl ?_)))))))));refine Ck (Xb (Xn (Cr (Zm rfl (Zv (OV.bh (j:=1) rfl rfl (by omega)) (Za rfl (Nl ?_)))))));have hb:badB t=false:=by unfold badB;simp_all
    exact WX.au (i+1) Y2 (fun w' hw=>⟨⟨by omega,fun u hu=>by
     rw [List.take_add_one,ht1] at hu;rcases List.mem_append.1 hu with h | h
     ·exact hbad u h
     ·simp at h;subst h;exact hb⟩,hw⟩) (by show x.args.length - (i+1)<x.args.length - i;omega)
   refine Ce (Xe (Xe (Xh (Xn (Csr (Za rfl (Nn (WC.ay ?_))))))));exact WX.ret1 rfl rfl rfl (fun w' hw=>⟨by clear hw;congr 2;first | (have hany:x.args.any badB=true:=(List.any_eq_true.2 ⟨t,htm,by unfold badB;simp_all⟩);unfold chkA;rw [hany];clear hany;(simp_all <;> (try omega))) | (have hany:x.args.any badB=false:=(List.any_eq_false.2 fun u hu=>by rw [hbad u (by rw [xK (by omega)];exact hu)];simp);unfold chkA;rw [hany];clear hany;(simp_all <;> (try omega))) | (simp_all [chkA] <;> (repeat' split) <;> first | omega | (exfalso;omega) | simp_all),hw.fr⟩)
  refine yV (yV (yV (yV (Zv (OV.ai rfl rfl) (Nn (WC.ca rfl ?_))))));refine Ck (Xn (Cs (Csr (Za rfl (Nn (Cb ?_))))))
  refine WC.bz (fun (i:Nat)=>[(1,yX b1),(3,.int .i64 (i:Int))])
    (fun i w'=>(i≤x.args.length∧∀ t∈x.args.take i,badB t=false)∧Sat0 w (oQ b1 (atC x a c) 26::[]) w')
    (fun i=>x.args.length - i) 0 Y2 (fun w' hw=>⟨⟨by omega,fun t ht=>by simp at ht⟩,hw⟩) ?_
  intro i;refine WC.pure (fun hi=>?_);obtain ⟨hi,hbad⟩:=hi;refine Cs (Csr (Zm rfl (Zv (OV.f0 4 rfl T.u26 rfl) (Zv (OV.l1 (v:=.slice a x.args.length c) rfl T.u24 rfl yF rfl) (Zv (OV.ad rfl T.u24) (Zv (OV.cu rfl rfl) (Nn ?_)))))));refine Cc rfl (fun c32=>?_) (fun c32=>?_)
  ·refine Ck (Xn (Cs (Cb (Csr (Zv (OV.f0 4 rfl T.u26 rfl) (Zv (OV.l1 (v:=.slice a x.args.length c) rfl T.u24 rfl yF rfl) (Zm rfl ?_)))))));obtain ⟨q1,t,hq1,ht1,htm,_,hc1⟩:=hr.get (i:=i) (by omega);refine Zv ((OV.ae (show _=some (Value.slice (some q1) x.args.length c) by rw [← hq1];rfl) rfl T.u24 T.z23 (by omega)).cast (u:=.pointer (some (q1.add (i*3)))) (by rw [xN])) (Zv (OV.am (cs:=tmC t) rfl T.u23 rfl T.z23 (fun _ hw j v hj=>hw.keeps _ _ (hc1 j v hj))) (WL.aw (v:=.bool (Jcn t)) (by kernel_rfl) rfl rfl (fun w' hw'=>Jcw t w') ?_));refine Zv (OV.not rfl) (Zm rfl ?_);refine Zp (t:=42) rfl (fun g42=>?_) (fun g42=>?_)
   ·refine yW (Zv (OV.f0 4 rfl T.u26 rfl) (yW (Zv (OV.l1 (v:=.slice a x.args.length c) rfl T.u24 rfl yF rfl) (yW (Zm rfl (yW (Zv ((OV.ae (show _=some (Value.slice (some q1) x.args.length c) by rw [← hq1];rfl) rfl T.u24 T.z23 (by omega)).cast (u:=.pointer (some (q1.add (i*3)))) (by rw [xN])) (yW (Zv (OV.am (cs:=tmC t) rfl T.u23 rfl T.z23 (fun _ hw j v hj=>hw.keeps _ _ (hc1 j v hj))) (yW (WL.aw (v:=.bool (varB t)) (by kernel_rfl) rfl rfl (fun w' hw'=>Jcv t w') ?_)))))))))));refine yW (Zv (OV.not rfl) (Zv (OV.ak rfl rfl) (Nn ?_)));refine Cc rfl (fun c50=>?_) (fun c50=>?_)
    ·refine Csr (Za rfl (Nn (WC.ay ?_)));refine Xq (Xr (Xr (Xq (Xr ?_))));exact WX.ret1 rfl rfl rfl (fun w' hw=>⟨by clear hw;congr 2;first | (have hany:x.args.any badB=true:=(List.any_eq_true.2 ⟨t,htm,by unfold badB;simp_all⟩);unfold chkA;rw [hany];clear hany;(simp_all <;> (try omega))) | (have hany:x.args.any badB=false:=(List.any_eq_false.2 fun u hu=>by rw [hbad u (by rw [xK (by omega)];exact hu)];simp);unfold chkA;rw [hany];clear hany;(simp_all <;> (try omega))) | (simp_all [chkA] <;> (repeat' split) <;> first | omega | (exfalso;omega) | simp_all),hw.fr⟩)
    refine Ck (Xb (Xn (Cr (Zm rfl (Zv (OV.bh (j:=1) rfl rfl (by omega)) (Za rfl (Nl ?_)))))));have hb:badB t=false:=by unfold badB;simp_all
    exact WX.au (i+1) Y2 (fun w' hw=>⟨⟨by omega,fun u hu=>by
     rw [List.take_add_one,ht1] at hu;rcases List.mem_append.1 hu with h | h
     ·exact hbad u h
     ·simp at h;subst h;exact hb⟩,hw⟩) (by show x.args.length - (i+1)<x.args.length - i;omega)
   refine yV (yV (yV (yV (yV (yV (yV (Zv (OV.ai rfl rfl) (Nn (WC.ca rfl ?_)))))))));refine Ck (Xb (Xn (Cr (Zm rfl (Zv (OV.bh (j:=1) rfl rfl (by omega)) (Za rfl (Nl ?_)))))));have hb:badB t=false:=by unfold badB;simp_all
   exact WX.au (i+1) Y2 (fun w' hw=>⟨⟨by omega,fun u hu=>by
    rw [List.take_add_one,ht1] at hu;rcases List.mem_append.1 hu with h | h
    ·exact hbad u h
    ·simp at h;subst h;exact hb⟩,hw⟩) (by show x.args.length - (i+1)<x.args.length - i;omega)
  refine Ce (Xe (Xe (Xh (Xn (Csr (Za rfl (Nn (WC.ay ?_))))))));exact WX.ret1 rfl rfl rfl (fun w' hw=>⟨by clear hw;congr 2;first | (have hany:x.args.any badB=true:=(List.any_eq_true.2 ⟨t,htm,by unfold badB;simp_all⟩);unfold chkA;rw [hany];clear hany;(simp_all <;> (try omega))) | (have hany:x.args.any badB=false:=(List.any_eq_false.2 fun u hu=>by rw [hbad u (by rw [xK (by omega)];exact hu)];simp);unfold chkA;rw [hany];clear hany;(simp_all <;> (try omega))) | (simp_all [chkA] <;> (repeat' split) <;> first | omega | (exfalso;omega) | simp_all),hw.fr⟩)
 refine yV (yV (yV (yV (Zv (OV.ai rfl rfl) (Zm rfl (yV (yV (yV (yV (Zv (OV.ai rfl rfl) (Nn (WC.ca rfl ?_))))))))))));refine Ck (Xn (Cs (Csr (Za rfl (Nn (Cb ?_))))))
 refine WC.bz (fun (i:Nat)=>[(1,yX b1),(3,.int .i64 (i:Int))])
   (fun i w'=>(i≤x.args.length∧∀ t∈x.args.take i,badB t=false)∧Sat0 w (oQ b1 (atC x a c) 26::[]) w')
   (fun i=>x.args.length - i) 0 Y2 (fun w' hw=>⟨⟨by omega,fun t ht=>by simp at ht⟩,hw⟩) ?_
 intro i;refine WC.pure (fun hi=>?_);obtain ⟨hi,hbad⟩:=hi;refine Cs (Csr (Zm rfl (Zv (OV.f0 4 rfl T.u26 rfl) (Zv (OV.l1 (v:=.slice a x.args.length c) rfl T.u24 rfl yF rfl) (Zv (OV.ad rfl T.u24) (Zv (OV.cu rfl rfl) (Nn ?_)))))));refine Cc rfl (fun c32=>?_) (fun c32=>?_)
 ·refine Ck (Xn (Cs (Cb (Csr (Zv (OV.f0 4 rfl T.u26 rfl) (Zv (OV.l1 (v:=.slice a x.args.length c) rfl T.u24 rfl yF rfl) (Zm rfl ?_)))))));obtain ⟨q1,t,hq1,ht1,htm,_,hc1⟩:=hr.get (i:=i) (by omega);refine Zv ((OV.ae (show _=some (Value.slice (some q1) x.args.length c) by rw [← hq1];rfl) rfl T.u24 T.z23 (by omega)).cast (u:=.pointer (some (q1.add (i*3)))) (by rw [xN])) (Zv (OV.am (cs:=tmC t) rfl T.u23 rfl T.z23 (fun _ hw j v hj=>hw.keeps _ _ (hc1 j v hj))) (WL.aw (v:=.bool (Jcn t)) (by kernel_rfl) rfl rfl (fun w' hw'=>Jcw t w') ?_));refine Zv (OV.not rfl) (Zm rfl ?_);refine Zp (t:=42) rfl (fun g42=>?_) (fun g42=>?_)
  ·refine yW (Zv (OV.f0 4 rfl T.u26 rfl) (yW (Zv (OV.l1 (v:=.slice a x.args.length c) rfl T.u24 rfl yF rfl) (yW (Zm rfl (yW (Zv ((OV.ae (show _=some (Value.slice (some q1) x.args.length c) by rw [← hq1];rfl) rfl T.u24 T.z23 (by omega)).cast (u:=.pointer (some (q1.add (i*3)))) (by rw [xN])) (yW (Zv (OV.am (cs:=tmC t) rfl T.u23 rfl T.z23 (fun _ hw j v hj=>hw.keeps _ _ (hc1 j v hj))) (yW (WL.aw (v:=.bool (varB t)) (by kernel_rfl) rfl rfl (fun w' hw'=>Jcv t w') ?_)))))))))));refine yW (Zv (OV.not rfl) (Zv (OV.ak rfl rfl) (Nn ?_)));refine Cc rfl (fun c50=>?_) (fun c50=>?_)
   ·refine Csr (Za rfl (Nn (WC.ay ?_)));refine Xq (Xr (Xr (Xq (Xr ?_))));exact WX.ret1 rfl rfl rfl (fun w' hw=>⟨by clear hw;congr 2;first | (have hany:x.args.any badB=true:=(List.any_eq_true.2 ⟨t,htm,by unfold badB;simp_all⟩);unfold chkA;rw [hany];clear hany;(simp_all <;> (try omega))) | (have hany:x.args.any badB=false:=(List.any_eq_false.2 fun u hu=>by rw [hbad u (by rw [xK (by omega)];exact hu)];simp);unfold chkA;rw [hany];clear hany;(simp_all <;> (try omega))) | (simp_all [chkA] <;> (repeat' split) <;> first | omega | (exfalso;omega) | simp_all),hw.fr⟩)
   refine Ck (Xb (Xn (Cr (Zm rfl (Zv (OV.bh (j:=1) rfl rfl (by omega)) (Za rfl (Nl ?_)))))));have hb:badB t=false:=by unfold badB;simp_all
   exact WX.au (i+1) Y2 (fun w' hw=>⟨⟨by omega,fun u hu=>by
    rw [List.take_add_one,ht1] at hu;rcases List.mem_append.1 hu with h | h
    ·exact hbad u h
    ·simp at h;subst h;exact hb⟩,hw⟩) (by show x.args.length - (i+1)<x.args.length - i;omega)
  refine yV (yV (yV (yV (yV (yV (yV (Zv (OV.ai rfl rfl) (Nn (WC.ca rfl ?_)))))))));refine Ck (Xb (Xn (Cr (Zm rfl (Zv (OV.bh (j:=1) rfl rfl (by omega)) (Za rfl (Nl ?_)))))));have hb:badB t=false:=by unfold badB;simp_all
  exact WX.au (i+1) Y2 (fun w' hw=>⟨⟨by omega,fun u hu=>by
   rw [List.take_add_one,ht1] at hu;rcases List.mem_append.1 hu with h | h
   ·exact hbad u h
   ·simp at h;subst h;exact hb⟩,hw⟩) (by show x.args.length - (i+1)<x.args.length - i;omega)
 refine Ce (Xe (Xe (Xh (Xn (Csr (Za rfl (Nn (WC.ay ?_))))))));exact WX.ret1 rfl rfl rfl (fun w' hw=>⟨by clear hw;congr 2;first | (have hany:x.args.any badB=true:=(List.any_eq_true.2 ⟨t,htm,by unfold badB;simp_all⟩);unfold chkA;rw [hany];clear hany;(simp_all <;> (try omega))) | (have hany:x.args.any badB=false:=(List.any_eq_false.2 fun u hu=>by rw [hbad u (by rw [xK (by omega)];exact hu)];simp);unfold chkA;rw [hany];clear hany;(simp_all <;> (try omega))) | (simp_all [chkA] <;> (repeat' split) <;> first | omega | (exfalso;omega) | simp_all),hw.fr⟩)
structure Ts where
 op:Int
 l:Tm
 r:Tm
 deriving DecidableEq
instance:Inhabited Ts:=⟨⟨0,default,default⟩⟩
structure Cl where
 hd:At
 bd:List At
 ts:List Ts
 deriving DecidableEq
instance:Inhabited Cl:=⟨⟨default,[],[]⟩⟩
def tstB (t:Ts):Bool:=decide (1≤t.op∧t.op≤4) && (Jcn t.l || varB t.l) && (Jcn t.r || varB t.r)
def decB (t:Ts):Bool × Bool:=
 if tstB t=true∧Jcn t.l=true∧Jcn t.r=true then
  (if t.op=1 then decide (cmpT t.l t.r=0) else if t.op=2 then decide (cmpT t.l t.r≠0) else if t.op=3 then decide (cmpT t.l t.r<0) else decide (cmpT t.l t.r≤0),true)
 else (false,false)
def appT (s:Bn)(t:Ts):Ts:=⟨t.op,becD s t.l,becD s t.r⟩
def okT (s:Bn)(t:Ts):Bool:=(decB (appT s t)).1
def varsT (t:Ts):List Int:=([t.l,t.r].filter varB).map (·.n)
def clA (c:Cl)(i:Nat):At:=c.bd.getD i default
def clT (c:Cl)(i:Nat):Ts:=c.ts.getD i default
def Jii (c:Cl)(l:List Nat)(s:Bn):Bool:=l.all fun i=>okT s (clT c i)
def tk (c:Cl):(Int→Prop)→List (Nat × List Nat)→Prop
 | _,[]=>True
 | D,j::js=>(∀ i∈j.2,∀ v∈varsT (clT c i),D v∨v∈Jah (clA c j.1))∧tk c (fun v=>D v∨v∈Jah (clA c j.1)) js
def GB (s:Bn):Prop:=∀ v z,gotT s v=some z→varB z=false
theorem GB.match {p x:At}{s s':Bn}(hs:SB s)(hg:GB s)(hx:∀ t∈plc x,varB t=false)(h:Jjf p x s=some s'):GB s':=by
 obtain ⟨h1,hf,h2,h3,h4⟩:=(matchS_iff hs).1 h;intro v z hz;rcases (h3 v).1 (by rw [hz];rfl) with hh | hh
 ·obtain ⟨y,hy⟩:=Option.isSome_iff_exists.1 hh;have:=h2 _ _ hy;rw [hz] at this;rw [xH this];exact hg _ _ hy
 ·obtain ⟨t,ht,hv,rfl⟩:=mem_varsOf.1 hh;rw [Jft hf.1] at h4;have h5:becD s' t∈plc x:=by rw [← h4];exact List.mem_map.2 ⟨t,ht,rfl⟩
  have h6:becD s' t=z:=by unfold becD;rw [if_pos hv,hz];rfl
  rw [← h6];exact hx _ h5
abbrev bodyAt (FF:Nat→At→Prop)(s:Bn)(i:Nat)(a:At):Prop:=FF i (appD s a)∧(varB a.b=true→(becD s a.b).kind≠0)
def bnG:Nat→List Tm→Bn
 | _,[]=>[]
 | k,t::ts=>((k:Int),t)::bnG (k+1) ts
abbrev bnV (r:List Tm):Bn:=bnG 0 r
def valsB (n:Nat)(s:Bn):List Tm:=(List.range n).map fun v:Nat=>(gotT s (v:Int)).getD T0
theorem Jgq (n:Nat)(s:Bn):(valsB n s).length=n:=by simp [valsB]
structure PlanOK (c:Cl) (ahead:List Nat) (J:List (Nat × List Nat)):Prop where
 atoms:(J.map (·.1)).Perm (List.range c.bd.length)
 ab:∀ i∈ahead,i<c.ts.length
 jb:∀ j∈J,∀ i∈j.2,i<c.ts.length
 all:∀ i,i<c.ts.length→i∈ahead∨∃ j∈J,i∈j.2
 av:∀ i∈ahead,varsT (clT c i)=[]
 jv:tk c (fun _=>False) J
structure Sol (FF:Nat→At→Prop) (c:Cl) (n:Nat) (r:List Tm):Prop where
 len:r.length=n
 ts:∀ t∈c.ts,okT (bnV r) t=true
 bd:∀ i a,c.bd[i]?=some a→bodyAt FF (bnV r) i a
theorem PlanOK.at {c:Cl}{ahead:List Nat}{J:List (Nat × List Nat)}(h:PlanOK c ahead J)(i:Nat):(∃ j∈J,j.1=i)↔i<c.bd.length:=by
 have:=h.atoms.mem_iff (a:=i)
 simpa [xR] using this
theorem tlook_calls (ys:List Bd)(v:Int)(a:Option Addr)(c:Nat)(hl:ys.length≤1099511627776)(w:World)(hN:Jdi w)(hr:RBd w a ys):Calls Tryz.prog 52 #[.slice a ys.length c,.int .i64 v] w fun e w'=>e=.returned (.tuple #[tmV ((gotT (sb ys) v).getD T0),.bool (gotT (sb ys) v).isSome])∧Fr0 w w':=by
 refine Jbi (args:=[.slice a ys.length c,.int .i64 v]) (fun _=>False) Tryz.func52 rfl Tryz.ntmps52 rfl rfl ?_;refine Csr (WL.alloc T.zr23 rfl ?_);intro b4;refine Za rfl (Nn (Cs (Csr (Zm rfl (Zv (OV.ad rfl T.u110) (Zm rfl (Nn (Cb ?_))))))))
 refine WC.bz (fun (i:Nat)=>[(1,.int .i64 v),(4,yX b4),(8,.slice a ys.length c),(9,.int .i64 (ys.length:Int)),(10,.int .i64 (i:Int))])
   (fun i w'=>(i≤ys.length∧∀ j z,j<i→ys[j]?=some z→z.v≠v)∧Sat0 w (oQ b4 (tmC T0) 23::[]) w')
   (fun i=>ys.length - i) 0 Y5 (fun w' hw=>⟨⟨by omega,fun j z hj=>by omega⟩,hw⟩) ?_
 intro i;refine WC.pure (fun hi=>?_);obtain ⟨hi,hz⟩:=hi;refine Csr (Zv (OV.cu rfl rfl) (Nn (Cs ?_)));refine Cc rfl (fun c11=>?_) (fun c11=>?_)
 ·refine Ck (Xn (Cs (Cb (Csr ?_))));obtain ⟨q1,y,hq1,hy,hym,hc1⟩:=hr.get (i:=i) (by omega);refine Zv ((OV.ae (show _=some (Value.slice (some q1) ys.length c) by rw [← hq1];rfl) rfl T.u110 T.z181 (by omega)).cast (u:=.pointer (some (q1.add (i*4)))) (by rw [xN])) (Zv (OV.am (cs:=bdC y) rfl T.u181 rfl T.z181 (fun _ hw j u hj=>hw.keeps _ _ (hc1 j u hj))) (WL.alloc T.zr181 rfl ?_));intro b7;refine WL.aj (vs:=bdC y) rfl rfl rfl T.z181 rfl ?_;refine Nn (Csr (Zv (OV.f0 0 rfl T.u181 rfl) (Zv (OV.l1 (v:=.int .i64 y.v) rfl T.u3 rfl yF rfl) (Zm rfl (Zv (OV.dq rfl rfl) (Nn ?_))))));refine Cc rfl (fun c17=>?_) (fun c17=>?_)
  ·refine Csr (Zv (OV.f0 1 rfl T.u181 rfl) (Zv (OV.am (cs:=tmC y.t) rfl T.u23 rfl T.z23 (fun _ hw j v hj=>by rw [Jav];exact Jbk hw yF (o:=1) (cs':=tmC y.t) rfl j v hj)) ?_));refine WL.focus perm1 (WL.aj (vs:=tmC y.t) rfl rfl rfl T.z23 rfl ?_);refine Za rfl (Nn (WC.ay ?_));refine Xq (Xr (Xr (Xq (Xr ?_))));have hg:=gotT_at hy c17 hz;exact WX.gn (cs:=tmC y.t) rfl rfl rfl rfl T.u23 rfl T.z23 (fun w' hw j v hj=>Jbt hw yF j v hj) (fun w' hw=>⟨by rw [hg];rfl,hw.fr⟩)
  refine Ck (Xb (Xn (Cr (Zv (OV.bh (j:=1) rfl rfl (by omega)) (Zm rfl (Nl ?_))))))
  exact WX.au (i+1) Y5 (fun w' hw=>⟨⟨by omega,fun j z hj hjz=>by
   rcases Nat.lt_or_ge j i with h | h
   ·exact hz j z h hjz
   ·rw [show j=i by omega,hy] at hjz;rw [← xH hjz];exact c17⟩,hw.drop⟩) (by show ys.length - (i+1)<ys.length - i;omega)
 refine Ce (Xe (Xe (Xh (Xn (Csr (Zv (OV.am (cs:=tmC T0) rfl T.u23 rfl T.z23 (fun _ hw j v hj=>by rw [Jav,xM];exact hw.keeps _ _ (hN j v hj))) (WL.aj (vs:=tmC T0) rfl rfl rfl T.z23 rfl ?_)))))));refine Za rfl (Nn (WC.ay ?_));have hg:=gotT_no (v:=v) (ys:=ys) (fun j z hjz=>hz j z (by have:=(List.getElem?_eq_some_iff.1 hjz).1;omega) hjz);exact WX.gn (cs:=tmC T0) rfl rfl rfl rfl T.u23 rfl T.z23 (fun w' hw j v hj=>Jbt hw yF j v hj) (fun w' hw=>⟨by rw [hg];rfl,hw.fr⟩)
theorem tbecome_calls (ys:List Bd)(t:Tm)(a:Option Addr)(c:Nat)(hl:ys.length≤1099511627776)(w:World)(hN:Jdi w)(hr:RBd w a ys):Calls Tryz.prog 202 #[.slice a ys.length c,tmV t] w fun e w'=>e=.returned (tmV (becD (sb ys) t))∧Fr0 w w':=by
 refine Jbi (args:=[.slice a ys.length c,tmV t]) (fun _=>False) Tryz.func202 rfl Tryz.ntmps202 rfl rfl ?_;refine Csr (WL.box rfl rfl rfl ?_);intro b3;refine WL.alloc T.zr23 rfl ?_;intro b4;refine Nn (Cs (Csr (Zv (OV.lN (cs:=tmC t) rfl T.u23 rfl T.z23 yG) (WL.aw (v:=.bool (varB t)) (by kernel_rfl) rfl rfl (fun w' hw'=>Jcr t w') ?_))));refine Nn ?_;refine Cc rfl (fun c8=>?_) (fun c8=>?_)
 ·refine Csr (Zm rfl (Zv (OV.f0 1 rfl T.u23 rfl) (Zv (OV.l1 (v:=.int .i64 t.n) rfl T.u3 rfl yG rfl) (WL.aw (v:=.tuple #[tmV ((gotT (sb ys) t.n).getD T0),.bool (gotT (sb ys) t.n).isSome]) (by kernel_rfl) rfl rfl (fun w' hw'=>tlook_calls ys t.n a c hl w' (hN.keeps hw'.keeps) (hr.keeps hw'.keeps)) ?_))));refine Zm rfl (Zv (OV.extract rfl rfl) (Zv (OV.extract rfl rfl) (WL.alloc T.zr23 rfl ?_)));intro b5;refine WL.aj (vs:=tmC ((gotT (sb ys) t.n).getD T0)) rfl rfl rfl T.z23 rfl ?_;refine Za rfl (Nn (Csr (Zm rfl (Nn ?_))));refine Cc rfl (fun c16=>?_) (fun c16=>?_)
  ·refine Csr (Zv (OV.lN (cs:=tmC ((gotT (sb ys) t.n).getD T0)) rfl T.u23 rfl T.z23 yF) ?_);refine WL.focus perm1 (WL.aj (vs:=tmC ((gotT (sb ys) t.n).getD T0)) rfl rfl rfl T.z23 rfl ?_);refine Nn (WC.ay ?_);refine Xr ?_;exact WX.retC (cs:=tmC ((gotT (sb ys) t.n).getD T0)) rfl rfl rfl T.u23 rfl T.z23 (fun w' hw j v hj=>Jbt hw yF j v hj) (fun w' hw=>⟨by unfold becD;rw [if_pos c8];cases hg:gotT (sb ys) t.n with | none=>rw [hg] at c16;cases c16 | some z=>rfl,hw.fr⟩)
  refine Ck (Xn (Csr (Zv (OV.lN (cs:=tmC t) rfl T.u23 rfl T.z23 yH) ?_)));refine WL.focus perm1 (WL.aj (vs:=tmC t) rfl rfl rfl T.z23 rfl ?_);refine Nn (WC.ay ?_);exact WX.retC (cs:=tmC t) rfl rfl rfl T.u23 rfl T.z23 (fun w' hw j v hj=>Jbt hw yF j v hj) (fun w' hw=>⟨by unfold becD;rw [if_pos c8];cases hg:gotT (sb ys) t.n with | none=>rfl | some z=>rw [hg] at c16;exact (by cases c16),hw.fr⟩)
 refine Ck (Xn (Csr (Zv (OV.lN (cs:=tmC t) rfl T.u23 rfl T.z23 yG) (WL.aj (vs:=tmC t) rfl rfl rfl T.z23 rfl ?_))));refine Nn (WC.ay ?_);exact WX.retC (cs:=tmC t) rfl rfl rfl T.u23 rfl T.z23 (fun w' hw j v hj=>Jbt hw yF j v hj) (fun w' hw=>⟨by unfold becD;rw [if_neg (by simpa using c8)],hw.fr⟩)
def tsC (t:Ts):List Value:=.int .i64 t.op::(tmC t.l++tmC t.r)
abbrev tsV (t:Ts):Value:=.agg (tsC t).toArray
theorem Jim (t:Ts):(tsC t).length=7:=rfl
theorem Jit (t:Ts):∀ v∈tsC t,v.oneCell'=true:=by simp [tsC,tmC,Value.oneCell']
theorem checkTest_calls (t:Ts)(w:World):Calls Tryz.prog 200 #[tsV t] w fun e w'=>e=.returned (.int .i64 (if tstB t=true then 0 else 32))∧Fr0 w w':=by
 refine Jbi (args:=[tsV t]) (fun _=>False) Tryz.func200 rfl Tryz.ntmps200 rfl rfl ?_;refine Csr (WL.box rfl rfl rfl ?_);intro b1;refine Za rfl (Nn (Cs (Csr (Zv (OV.f0 0 rfl T.u85 rfl) (Zv (OV.l1 (v:=.int .i64 t.op) rfl T.u3 rfl yF rfl) (Zv (OV.cu rfl rfl) (Zm rfl ?_)))))));refine Zp (t:=6) rfl (fun g6=>?_) (fun g6=>?_)
 ·refine yV (yV (yV (Zv (OV.ak rfl rfl) (Zm rfl (yV (yV (yV (yV (yV (Zu rfl rfl (Zu rfl rfl (Zu rfl rfl (Zu rfl rfl (yV (Zv (OV.ak rfl rfl) (Zm rfl (yV (yV (yV (yV (yV (Zu rfl rfl (Zu rfl rfl (Zu rfl rfl (Zu rfl rfl (yV (Zv (OV.ak rfl rfl) (Nn (WC.cm rfl ?_)))))))))))))))))))))))))))));refine Csr (Za rfl (Nn (WC.ay ?_)));refine Xr ?_;exact WX.ret1 rfl rfl rfl (fun w' hw=>⟨by clear hw;simp_all [tstB] <;> omega,hw.fr⟩)
 refine yW (Zv (OV.f0 0 rfl T.u85 rfl) (yW (Zv (OV.l1 (v:=.int .i64 t.op) rfl T.u3 rfl yF rfl) (yW (Zv (OV.ia rfl rfl) (Zv (OV.ai rfl rfl) (Zm rfl ?_)))))));refine Zp (t:=11) rfl (fun g11=>?_) (fun g11=>?_)
 ·refine yV (yV (yV (yV (yV (Zu rfl rfl (Zu rfl rfl (Zu rfl rfl (Zu rfl rfl (yV (Zv (OV.ak rfl rfl) (Zm rfl (yV (yV (yV (yV (yV (Zu rfl rfl (Zu rfl rfl (Zu rfl rfl (Zu rfl rfl (yV (Zv (OV.ak rfl rfl) (Nn (WC.cm rfl ?_))))))))))))))))))))))));refine Csr (Za rfl (Nn (WC.ay ?_)));refine Xr ?_;exact WX.ret1 rfl rfl rfl (fun w' hw=>⟨by clear hw;simp_all [tstB] <;> omega,hw.fr⟩)
 refine yW (Zv (OV.f0 1 rfl T.u85 rfl) (yW (Zv (OV.am (cs:=tmC t.l) rfl T.u23 rfl T.z23 (fun _ hw j v hj=>by rw [Jav];exact Jbk hw yF (o:=1) (cs':=tmC t.l) rfl j v hj)) (yW (WL.aw (v:=.bool (Jcn t.l)) (by kernel_rfl) rfl rfl (fun w' hw'=>Jdn t.l w') ?_)))));refine yW (Zv (OV.not rfl) (yW (Zm rfl ?_)));refine Zp (t:=16) rfl (fun g16=>?_) (fun g16=>?_)
 ·refine yW (Zv (OV.f0 1 rfl T.u85 rfl) (yW (Zv (OV.am (cs:=tmC t.l) rfl T.u23 rfl T.z23 (fun _ hw j v hj=>by rw [Jav];exact Jbk hw yF (o:=1) (cs':=tmC t.l) rfl j v hj)) (yW (WL.aw (v:=.bool (varB t.l)) (by kernel_rfl) rfl rfl (fun w' hw'=>Jcr t.l w') ?_)))));refine yW (Zv (OV.not rfl) (yW (Zv (OV.ak rfl rfl) (Zv (OV.ai rfl rfl) (Zm rfl ?_)))));refine Zp (t:=23) rfl (fun g23=>?_) (fun g23=>?_)
  ·refine yV (yV (yV (yV (yV (Zu rfl rfl (Zu rfl rfl (Zu rfl rfl (Zu rfl rfl (yV (Zv (OV.ak rfl rfl) (Nn (WC.cm rfl ?_))))))))))));refine Csr (Za rfl (Nn (WC.ay ?_)));refine Xr ?_;exact WX.ret1 rfl rfl rfl (fun w' hw=>⟨by clear hw;simp_all [tstB] <;> omega,hw.fr⟩)
  refine yW (Zv (OV.f0 4 rfl T.u85 rfl) (yW (Zv (OV.am (cs:=tmC t.r) rfl T.u23 rfl T.z23 (fun _ hw j v hj=>by rw [Jav];exact Jbk hw yF (o:=4) (cs':=tmC t.r) rfl j v hj)) (yW (WL.aw (v:=.bool (Jcn t.r)) (by kernel_rfl) rfl rfl (fun w' hw'=>Jdn t.r w') ?_)))));refine yW (Zv (OV.not rfl) (yW (Zm rfl ?_)));refine Zp (t:=28) rfl (fun g28=>?_) (fun g28=>?_)
  ·refine yW (Zv (OV.f0 4 rfl T.u85 rfl) (yW (Zv (OV.am (cs:=tmC t.r) rfl T.u23 rfl T.z23 (fun _ hw j v hj=>by rw [Jav];exact Jbk hw yF (o:=4) (cs':=tmC t.r) rfl j v hj)) (yW (WL.aw (v:=.bool (varB t.r)) (by kernel_rfl) rfl rfl (fun w' hw'=>Jcr t.r w') ?_)))));refine yW (Zv (OV.not rfl) (yW (Zv (OV.ak rfl rfl) (Zv (OV.ai rfl rfl) (Nn ?_)))));refine Cc rfl (fun c34=>?_) (fun c34=>?_)
   ·refine Csr (Za rfl (Nn (WC.ay ?_)));refine Xr ?_;exact WX.ret1 rfl rfl rfl (fun w' hw=>⟨by clear hw;simp_all [tstB] <;> omega,hw.fr⟩)
   refine Ck (Xn (Csr (Za rfl (Nn (WC.ay ?_)))));exact WX.ret1 rfl rfl rfl (fun w' hw=>⟨by clear hw;simp_all [tstB] <;> omega,hw.fr⟩)
  refine yV (yV (yV (yV (yW (Zv (OV.ai rfl rfl) (Zv (OV.ai rfl rfl) (Nn (WC.ca rfl ?_))))))));refine Ck (Xn (Csr (Za rfl (Nn (WC.ay ?_)))));exact WX.ret1 rfl rfl rfl (fun w' hw=>⟨by clear hw;simp_all [tstB] <;> omega,hw.fr⟩)
 refine yV (yV (yV (yV (yW (Zv (OV.ai rfl rfl) (Zv (OV.ai rfl rfl) (Zm rfl (yW (Zv (OV.f0 4 rfl T.u85 rfl) (yW (Zv (OV.am (cs:=tmC t.r) rfl T.u23 rfl T.z23 (fun _ hw j v hj=>by rw [Jav];exact Jbk hw yF (o:=4) (cs':=tmC t.r) rfl j v hj)) (yW (WL.aw (v:=.bool (Jcn t.r)) (by kernel_rfl) rfl rfl (fun w' hw'=>Jdn t.r w') ?_)))))))))))));refine yW (Zv (OV.not rfl) (yW (Zm rfl ?_)));refine Zp (t:=28) rfl (fun g28=>?_) (fun g28=>?_)
 ·refine yW (Zv (OV.f0 4 rfl T.u85 rfl) (yW (Zv (OV.am (cs:=tmC t.r) rfl T.u23 rfl T.z23 (fun _ hw j v hj=>by rw [Jav];exact Jbk hw yF (o:=4) (cs':=tmC t.r) rfl j v hj)) (yW (WL.aw (v:=.bool (varB t.r)) (by kernel_rfl) rfl rfl (fun w' hw'=>Jcr t.r w') ?_)))));refine yW (Zv (OV.not rfl) (yW (Zv (OV.ak rfl rfl) (Zv (OV.ai rfl rfl) (Nn ?_)))));refine Cc rfl (fun c34=>?_) (fun c34=>?_)
  ·refine Csr (Za rfl (Nn (WC.ay ?_)));refine Xr ?_;exact WX.ret1 rfl rfl rfl (fun w' hw=>⟨by clear hw;simp_all [tstB] <;> omega,hw.fr⟩)
  refine Ck (Xn (Csr (Za rfl (Nn (WC.ay ?_)))));exact WX.ret1 rfl rfl rfl (fun w' hw=>⟨by clear hw;simp_all [tstB] <;> omega,hw.fr⟩)
 refine yV (yV (yV (yV (yW (Zv (OV.ai rfl rfl) (Zv (OV.ai rfl rfl) (Nn (WC.ca rfl ?_))))))));refine Ck (Xn (Csr (Za rfl (Nn (WC.ay ?_)))));exact WX.ret1 rfl rfl rfl (fun w' hw=>⟨by clear hw;simp_all [tstB] <;> omega,hw.fr⟩)
theorem applyTest_calls (ys:List Bd)(t:Ts)(a:Option Addr)(c:Nat)(hl:ys.length≤1099511627776)(w:World)(hN:Jdi w)(hr:RBd w a ys):Calls Tryz.prog 150 #[.slice a ys.length c,tsV t] w fun e w'=>e=.returned (tsV (appT (sb ys) t))∧Fr0 w w':=by
 refine Jbi (args:=[.slice a ys.length c,tsV t]) (fun _=>False) Tryz.func150 rfl Tryz.ntmps150 rfl rfl ?_;refine Csr (WL.box rfl rfl rfl ?_);intro b3;refine WL.alloc T.zr85 rfl ?_;intro b4;refine Nn (Cs (Hd (fun w'=>w'.heap[b3]?=some (.cells (tsC t).toArray 85 (0,0))) [] (fun _ hw=>hw.it (oQ b3 (tsC t) 85) (by simp)) (m:=12) rfl ?_));refine Hf 0 rfl (OV.f0 0 rfl T.u85 rfl) (Ht 1 rfl (OV.ap (v:=.int .i64 t.op) rfl T.u3 rfl (fun _ hw=>(Jbn hw (o:=0) rfl).1)) (Hf 2 rfl (OV.cj rfl) (Hf 3 rfl (OV.f0 1 rfl T.u85 rfl) (Ht 4 rfl (OV.am (cs:=tmC t.l) rfl T.u23 rfl T.z23 (fun _ hw j v hj=>by rw [Jav];exact Jcz hw (o:=1) (cs':=tmC t.l) rfl j v hj)) (Hf 6 rfl (OV.cj rfl) (Hf 7 rfl (OV.f0 4 rfl T.u85 rfl) (Ht 8 rfl (OV.am (cs:=tmC t.r) rfl T.u23 rfl T.z23 (fun _ hw j v hj=>by rw [Jav];exact Jcz hw (o:=4) (cs':=tmC t.r) rfl j v hj)) (Ho 5 rfl (fl':=false) rfl ?_))))))));refine WL.aw (v:=tmV (becD (sb ys) t.l)) (by kernel_rfl) rfl rfl (fun w' hw'=>tbecome_calls ys t.l a c hl w' (hN.keeps hw'.keeps) (hr.keeps hw'.keeps)) ?_;refine Hc (fun _=>(fun _ hw=>hw.it (oQ b3 (tsC t) 85) (by simp))) ?_;refine Ho 9 rfl (fl':=false) rfl ?_;refine WL.aw (v:=tmV (becD (sb ys) t.r)) (by kernel_rfl) rfl rfl (fun w' hw'=>tbecome_calls ys t.r a c hl w' (hN.keeps hw'.keeps) (hr.keeps hw'.keeps)) ?_;refine Hc (fun _=>(fun _ hw=>hw.it (oQ b3 (tsC t) 85) (by simp))) ?_;refine Hf 10 rfl (OV.bf (xs:=[(0,.tmp 6),(1,.tmp 10),(2,.tmp 14)]) (pl:=[(0,1),(1,3),(4,3)]) (cs:=tsC (appT (sb ys) t)) T.u85 T.zr85 (by kernel_rfl) rfl (Jax (us:=[_]) rfl rfl yU (Jax (us:=tmC (becD (sb ys) t.l)) rfl rfl yU (Jax (us:=tmC (becD (sb ys) t.r)) rfl rfl yU rfl)))) (Ho 11 rfl (fl':=false) rfl ?_);refine WL.aj (vs:=tsC (appT (sb ys) t)) rfl rfl rfl T.z85 rfl ?_;refine Hc (fun _=>(fun _ hw=>hw.it (oQ b3 (tsC t) 85) (by simp))) ?_;refine He (Xn (WC.ay ?_));exact WX.retC (cs:=tsC (appT (sb ys) t)) rfl rfl rfl T.u85 rfl T.z85 (fun w' hw j v hj=>Jbt hw yF j v hj) (fun w' hw=>⟨rfl,hw.fr⟩)
theorem decide_calls (t:Ts)(w:World):Calls Tryz.prog 149 #[tsV t] w fun e w'=>e=.returned (.tuple #[.bool (decB t).1,.bool (decB t).2])∧Fr0 w w':=by
 refine Jbi (args:=[tsV t]) (fun _=>False) Tryz.func149 rfl Tryz.ntmps149 rfl rfl ?_;refine Csr (WL.box rfl rfl rfl ?_);intro b1;refine Za rfl (Za rfl (Nn (Cs (Csr (Zv (OV.lN (cs:=tsC t) rfl T.u85 rfl T.z85 yF) (WL.aw (v:=.int .i64 (if tstB t=true then 0 else 32)) (by kernel_rfl) rfl rfl (fun w' hw'=>checkTest_calls t w') ?_))))));refine Zv (OV.fb rfl rfl) (Zm rfl ?_);refine Zp (t:=8) rfl (fun g8=>?_) (fun g8=>?_)
 ·refine yV (yV (yV (yV (Zv (OV.ak rfl rfl) (Zm rfl (yV (yV (yV (yV (Zv (OV.ak rfl rfl) (Nn (WC.cm rfl ?_))))))))))));refine Csr (Za rfl (Za rfl (Nn (WC.ay ?_))));refine Xr ?_;exact WX.ret2 rfl rfl rfl rfl (fun w' hw=>⟨by clear hw;simp_all [decB] <;> omega,hw.fr⟩)
 refine yW (Zv (OV.f0 1 rfl T.u85 rfl) (yW (Zv (OV.am (cs:=tmC t.l) rfl T.u23 rfl T.z23 (fun _ hw j v hj=>by rw [Jav];exact Jbk hw yF (o:=1) (cs':=tmC t.l) rfl j v hj)) (yW (WL.aw (v:=.bool (Jcn t.l)) (by kernel_rfl) rfl rfl (fun w' hw'=>Jdn t.l w') ?_)))));refine yW (Zv (OV.not rfl) (Zv (OV.ai rfl rfl) (Zm rfl ?_)));refine Zp (t:=14) rfl (fun g14=>?_) (fun g14=>?_)
 ·refine yV (yV (yV (yV (Zv (OV.ak rfl rfl) (Nn (WC.cm rfl ?_))))));refine Csr (Za rfl (Za rfl (Nn (WC.ay ?_))));refine Xr ?_;exact WX.ret2 rfl rfl rfl rfl (fun w' hw=>⟨by clear hw;simp_all [decB] <;> omega,hw.fr⟩)
 refine yW (Zv (OV.f0 4 rfl T.u85 rfl) (yW (Zv (OV.am (cs:=tmC t.r) rfl T.u23 rfl T.z23 (fun _ hw j v hj=>by rw [Jav];exact Jbk hw yF (o:=4) (cs':=tmC t.r) rfl j v hj)) (yW (WL.aw (v:=.bool (Jcn t.r)) (by kernel_rfl) rfl rfl (fun w' hw'=>Jdn t.r w') ?_)))));refine yW (Zv (OV.not rfl) (Zv (OV.ai rfl rfl) (Nn ?_)));refine Cc rfl (fun c19=>?_) (fun c19=>?_)
 ·refine Csr (Za rfl (Za rfl (Nn (WC.ay ?_))));refine Xr ?_;exact WX.ret2 rfl rfl rfl rfl (fun w' hw=>⟨by clear hw;simp_all [decB] <;> omega,hw.fr⟩)
 refine Ck (Xn (Csr (Zv (OV.f0 1 rfl T.u85 rfl) (Zv (OV.am (cs:=tmC t.l) rfl T.u23 rfl T.z23 (fun _ hw j v hj=>by rw [Jav];exact Jbk hw yF (o:=1) (cs':=tmC t.l) rfl j v hj)) (Zv (OV.f0 4 rfl T.u85 rfl) (Zv (OV.am (cs:=tmC t.r) rfl T.u23 rfl T.z23 (fun _ hw j v hj=>by rw [Jav];exact Jbk hw yF (o:=4) (cs':=tmC t.r) rfl j v hj)) (WL.aw (v:=.int .i64 (cmpT t.l t.r)) (by kernel_rfl) rfl rfl (fun w' hw'=>Jgg t.l t.r w') ?_)))))));refine Za rfl (Nn (Cs (Csr (Zv (OV.f0 0 rfl T.u85 rfl) (Zv (OV.l1 (v:=.int .i64 t.op) rfl T.u3 rfl yF rfl) (Nn (Cb (Csr (Zv (OV.dq rfl rfl) (Za rfl (Nn ?_)))))))))));refine Cc rfl (fun c27=>?_) (fun c27=>?_)
 ·refine Csr (Zm rfl (Zv (OV.dq rfl rfl) (Za rfl (Za rfl (Nn (WC.ay ?_))))));refine Xq (Xr ?_);exact WX.ret2 rfl rfl rfl rfl (fun w' hw=>⟨by clear hw;simp_all [decB] <;> omega,hw.fr⟩)
 refine Csr (Zv (OV.dq rfl rfl) (Za rfl (Nn ?_)));refine Cc rfl (fun c31=>?_) (fun c31=>?_)
 ·refine Csr (Zm rfl (Zv (OV.fb rfl rfl) (Za rfl (Za rfl (Nn (WC.ay ?_))))));refine Xq (Xr ?_);exact WX.ret2 rfl rfl rfl rfl (fun w' hw=>⟨by clear hw;simp_all [decB] <;> omega,hw.fr⟩)
 refine Csr (Zv (OV.dq rfl rfl) (Za rfl (Nn ?_)));refine Cc rfl (fun c35=>?_) (fun c35=>?_)
 ·refine Csr (Zm rfl (Zv (OV.cu rfl rfl) (Za rfl (Za rfl (Nn (WC.ay ?_))))));refine Xq (Xr ?_);exact WX.ret2 rfl rfl rfl rfl (fun w' hw=>⟨by clear hw;simp_all [decB] <;> omega,hw.fr⟩)
 refine Ck (Xb (Xn (Csr (Zm rfl (Zv (OV.ic rfl rfl) (Za rfl (Za rfl (Nn (WC.ay ?_)))))))));exact WX.ret2 rfl rfl rfl rfl (fun w' hw=>⟨by clear hw;simp_all [decB] <;> omega,hw.fr⟩)
theorem Jds {α:Type}{p:List α→Prop}(l:List α)(h0:p [])(h1:∀ l x,p l→p (l++[x])):p l:=by
 have h:∀ l:List α,p l.reverse:=fun l=>by
  induction l with
  | nil=>exact h0
  | cons x l ih=>rw [List.reverse_cons];exact h1 _ _ ih
 have h2:=h l.reverse;rwa [List.reverse_reverse] at h2
def mapA (f:Tm→Tm)(x:At):At:=⟨f x.b,x.name,x.args.map f⟩
def mapT (f:Tm→Tm)(t:Ts):Ts:=⟨t.op,f t.l,f t.r⟩
def mapC (f:Tm→Tm)(c:Cl):Cl:=⟨mapA f c.hd,c.bd.map (mapA f),c.ts.map (mapT f)⟩
def plT (t:Ts):List Tm:=[t.l,t.r]
def Jbu (c:Cl):List Tm:=c.bd.flatMap plc
def Jbx (c:Cl):List Tm:=c.ts.flatMap plT
def Jcb (c:Cl):List Tm:=plc c.hd++(Jbu c++Jbx c)
def dedV (l:List Tm):List Tm:=l.foldl (fun acc t=>if varB t=true∧t∉acc then acc++[t] else acc) []
theorem Jdg (l:List Tm)(t:Tm):dedV (l++[t])=if varB t=true∧t∉dedV l then dedV l++[t] else dedV l:=by
 unfold dedV;rw [List.foldl_append];rfl
theorem Jgf (l:List Tm):∀ t,t∈dedV l↔t∈l∧varB t=true:=by
 induction l using Jds with
 | h0=>intro t;simp [dedV]
 | h1 l u ih=>
  intro t;rw [Jdg,xS,xI]
  split
  ·rename_i h;rw [xS,xI,ih];constructor
   ·rintro (hh | rfl)
    ·exact ⟨Or.inl hh.1,hh.2⟩
    ·exact ⟨Or.inr rfl,h.1⟩
   ·rintro ⟨hh | hh,hv⟩
    ·exact Or.inl ⟨hh,hv⟩
    ·exact Or.inr hh
  ·rename_i h;rw [ih];constructor
   ·rintro ⟨hh,hv⟩;exact ⟨Or.inl hh,hv⟩
   ·rintro ⟨hh | rfl,hv⟩
    ·exact ⟨hh,hv⟩
    ·by_cases hm:t∈dedV l
     ·exact (ih t).1 hm
     ·exact absurd ⟨hv,hm⟩ h
theorem dedV_len (l:List Tm):(dedV l).length≤l.length:=by
 induction l using Jds with
 | h0=>simp [dedV]
 | h1 l u ih=>rw [Jdg];split <;> simp <;> omega
structure VC (c:Cl):Prop where
 bl:c.bd.length≤8
 tl:c.ts.length≤8
 hd:chkA c.hd=0
 bd:∀ a∈c.bd,chkA a=0
 ts:∀ t∈c.ts,tstB t=true
 hb:varB c.hd.b=false
 safe:∀ t∈plc c.hd++Jbx c,varB t=true→t∈Jbu c
 num:∀ (i:Nat) (t:Tm),(dedV (Jcb c))[i]?=some t→t.n=(i:Int)
def nV (c:Cl):Nat:=(dedV (Jcb c)).length
theorem Jje {t u:Tm}(ht:varB t=true)(hu:varB u=true)(h:t.n=u.n):t=u:=by
 obtain ⟨k,n,s⟩:=t;obtain ⟨k2,n2,s2⟩:=u;unfold varB at ht hu;simp only [xY,decide_eq_true_eq] at ht hu;simp only at h;rw [ht.1.1,hu.1.1,ht.2,hu.2,h]
theorem chkA_zero {x:At}:chkA x=0↔nameB x.name=true∧x.args.length≤8∧(x.b=T0∨prinB x.b=true∨varB x.b=true)∧∀ t∈x.args,badB t=false:=by
 unfold chkA;constructor
 ·intro h
  split at h
  ·cases h
  ·split at h
   ·cases h
   ·split at h
    ·cases h
    ·split at h
     ·cases h
     ·rename_i h1 h2 h3 h4;refine ⟨by simpa using h1,by omega,?_,fun t ht=>?_⟩
      ·by_cases a:x.b=T0
       ·exact Or.inl a
       ·by_cases b:prinB x.b=true
        ·exact Or.inr (Or.inl b)
        ·by_cases c:varB x.b=true
         ·exact Or.inr (Or.inr c)
         ·exact absurd ⟨a,by simpa using b,by simpa using c⟩ h3
      ·by_cases hb:badB t=true
       ·exact absurd (List.any_eq_true.2 ⟨t,ht,hb⟩) h4
       ·simpa using hb
 ·rintro ⟨h1,h2,h3,h4⟩
  rw [if_neg (by rw [h1];simp),if_neg (by omega),if_neg (by
   rintro ⟨a,b,c⟩;rcases h3 with h | h | h
   ·exact a h
   ·rw [b] at h;cases h
   ·rw [c] at h;cases h),if_neg (by
   intro h;obtain ⟨t,ht,hb⟩:=List.any_eq_true.1 h;rw [h4 t ht] at hb;cases hb)]
theorem tst_bad {t:Ts}(h:tstB t=true):(1≤t.op∧t.op≤4)∧badB t.l=false∧badB t.r=false:=by
 unfold tstB at h;simp only [xY,decide_eq_true_eq] at h;obtain ⟨⟨h1,h2⟩,h3⟩:=h;refine ⟨h1,?_,?_⟩
 ·unfold badB;revert h2;cases Jcn t.l <;> cases varB t.l <;> simp
 ·unfold badB;revert h3;cases Jcn t.r <;> cases varB t.r <;> simp
end Go.Proofs.YtdgigbopibdflaaGreatDoor
set_option maxRecDepth 10000
namespace Go.Proofs.YtdgigbopibdflaaGreatDoor
open Go Go.Hw
set_option linter.unusedSimpArgs false
set_option linter.unusedVariables false
theorem tss_one (ts:List Ts):∀ u∈ts.flatMap tsC,u.oneCell'=true:=by
 intro u hu;obtain ⟨t,_,h⟩:=List.mem_flatMap.1 hu;exact Jit t u h
abbrev rowS (a:Option Addr)(c:Nat)(ts:List Ts):Hw.Item:=row 85 7 a ts.length c (ts.flatMap tsC)
theorem T.apS:appB Tryz.prog 28 85 7 72=true:=by kernel_rfl
structure RS (w:World) (a:Option Addr) (ts:List Ts):Prop where
 nil:a=none→ts.length=0
 at_:∀ q,a=some q→∀ i t,ts[i]?=some t→∀ j v,(tsC t)[j]?=some v→w.cell? ((q.add (i*7)).add j)=some v
theorem RS.keeps {w w':World}{a:Option Addr}{ts:List Ts}(h:RS w a ts)(k:Keeps w w'):RS w' a ts:=⟨h.nil,fun q hq i t ht j v hv=>k _ _ (h.at_ q hq i t ht j v hv)⟩
theorem RS.get {w:World}{a:Option Addr}{ts:List Ts}(h:RS w a ts){i:Nat}(hi:i<ts.length):∃ q t,a=some q∧ts[i]?=some t∧t∈ts∧∀ j v,(tsC t)[j]?=some v→w.cell? ((q.add (i*7)).add j)=some v:=by
 cases a with
 | none=>have:=h.nil rfl;omega
 | some q=>exact ⟨q,ts[i],rfl,xD hi,List.getElem_mem hi,h.at_ q rfl i _ (xD hi)⟩
theorem RS.of_row {w0 ws w:World}{M I:Nat→Prop}{ow:List Hw.Item}{a:Option Addr}{c:Nat}{ts:List Ts}(hw:Sat w0 M I ws ow w)(hm:rowS a c ts∈ow):RS w a ts:=by
 refine ⟨fun ha=>?_,fun q hq i t ht j v hv=>?_⟩
 ·rcases (Jdl hw hm).2 with ⟨_,h,_⟩ | ⟨b,hb,_⟩
  ·exact h
  ·rw [ha] at hb;cases hb
 ·subst hq;have hj:j<7:=(List.getElem?_eq_some_iff.1 hv).1;have h1:=Jdu hw hm (i*7+j) v (by rw [Jcq Jim ts i j t ht hj];exact hv);rwa [Jdz] at h1
structure CG where
 hd:AG
 ba:Option Addr
 bc:Nat
 bd:List AG
 ta:Option Addr
 tc:Nat
 ts:List Ts
def CG.cl (g:CG):Cl:=⟨g.hd.x,g.bd.map AG.x,g.ts⟩
def cgC (g:CG):List Value:=[.int .i64 g.hd.x.b.kind,.int .i64 g.hd.x.b.n,.string g.hd.x.b.s,.string g.hd.x.name,.slice g.hd.a g.hd.x.args.length g.hd.c,.slice g.ba g.bd.length g.bc,.slice g.ta g.ts.length g.tc]
abbrev cgV (g:CG):Value:=.agg (cgC g).toArray
def cgA (g:CG):List Hw.Item:=argA g.hd::(atsA g.ba g.bc g.bd++[rowS g.ta g.tc g.ts])
structure RC (w:World) (g:CG):Prop where
 hd:RT w g.hd.a g.hd.x.args
 bd:RA w g.ba g.bd
 ts:RS w g.ta g.ts
theorem RC.keeps {w w':World}{g:CG}(h:RC w g)(k:Keeps w w'):RC w' g:=⟨h.hd.keeps k,h.bd.keeps k,h.ts.keeps k⟩
theorem RC.of_items {w0 ws w:World}{M I:Nat→Prop}{ow:List Hw.Item}{g:CG}(hw:Sat w0 M I ws ow w)(hm:∀ i∈cgA g,i∈ow):RC w g:=
 ⟨RT.of_row (c:=g.hd.c) rfl hw (hm _ yF),RA.of_row hw (fun i hi=>hm _ (yT (xA _ hi))),RS.of_row hw (hm _ (yT (xB _ yF)))⟩
theorem Jgh {g:CG}{i:Nat}{y:AG}(h:g.bd[i]?=some y):clA g.cl i=y.x:=by
 unfold clA CG.cl;rw [yD,xG,h];rfl
theorem Jfv {g:CG}{i:Nat}{t:Ts}(h:g.ts[i]?=some t):clT g.cl i=t:=by
 unfold clT CG.cl;rw [yD,h];rfl
theorem WC.snap {P:Program}{Q:Post}{n:Nat}{ds:DS}{e:Env}{c:Code}{w0 ws:World}{M I:Nat→Prop}{A ow:List Hw.Item} 
  (h:∀ w1,Sat w0 M I ws (A++ow) w1→WC P Q n ds e (Sat w0 M (fun b=>b<w1.heap.size∧∀ i∈ow,¬ i.D b) w1 ow) c):WC P Q n ds e (Sat w0 M I ws (A++ow)) c:=
 fun a w ha hw=>h w hw a w ha (Sat.resnap (Sat.part (List.sublist_append_right _ _) hw))
end Go.Proofs.YtdgigbopibdflaaGreatDoor
namespace Go.Hw
open Go
set_option linter.unusedSimpArgs false
set_option linter.unusedVariables false
section
variable {w0 ws:World} {M I:Nat→Prop} {ow:List Item}
variable {P:Program} {ops:Array Oper} {Q:Post} {n:Nat} {ds:DS} {e:Env} {rest:List Oper} {t lt:TypeId} {p:String} {af:Array Edge} {k:Nat} {x y:Operand} {v:Value}
theorem take_set_mid {α:Type}{l xs vs:List α}{o k:Nat}(h:l.take k=xs)(ho:o+vs.length≤xs.length)(hk:k≤l.length):(l.take o++vs++l.drop (o+vs.length)).take k=xs.take o++vs++xs.drop (o+vs.length):=by
 have hl:xs.length=k:=by rw [← h,xJ];omega
 subst h;rw [List.take_take,Nat.min_eq_left (by omega),xF,xF,List.take_append,xJ,Nat.min_eq_left (by omega),xK (l:=List.take o l) (by rw [xJ];omega)];congr 1;rw [List.take_append,xK (l:=vs) (by omega)];congr 1;rw [List.drop_take];congr 1;omega
theorem WL.storeRowN {T size m cap o b:Nat}{a:Option Addr}{xs vs:List Value}(hx:ev e x=Option.some (.pointer (Option.some ⟨b,o,none⟩)))(ha:a=Option.some ⟨b,0,none⟩)(hy:ev e y=Option.some (.agg vs.toArray))(h1:vs.all (·.oneCell')=true)(hz:P.sz lt=Option.some vs.length)(ho:o+vs.length≤xs.length) 
  (h:WL P ops Q n ds e (Sat w0 M I ws (row T size a m cap (xs.take o++vs++xs.drop (o+vs.length))::ow)) rest) :
  WL P ops Q n ds e (Sat w0 M I ws (row T size a m cap xs::ow)) (⟨none,.store lt x y,t,p,af,none⟩::rest):=by
 subst ha;refine WL.jd (S':=Sat w0 M I ws (row T size (Option.some ⟨b,0,none⟩) m cap (xs.take o++vs++xs.drop (o+vs.length))::ow)) (fun ac w ha hw=>?_) h;have hown:w.ownsRow 0 T size (.slice (Option.some ⟨b,0,none⟩) m cap) m xs:=hw.it _ yF;rcases hown.2 with ⟨hv,_⟩ | ⟨g,c,cur,hv,hg0,hg,hmc,hcm,hcs,htake⟩
 ·cases hv
 ·simp only [Value.slice.injEq,Option.some.injEq,Addr.mk.injEq,and_true] at hv;obtain ⟨rfl,_,rfl⟩:=hv;have hlen:=hown.1;have hle:m*size≤cur.size:=by rw [hcs];exact Nat.mul_le_mul_right _ hmc
  have hcl:cur.toList.length=cur.size:=Array.length_toList;have ho':o+vs.length≤cur.toList.length:=by omega
  have hs:=run_storeCells_at P b o T vs 0 cur w hg (by simpa using (show o+vs.length≤cur.size by omega)) (by simpa using h1);simp only [xM,Nat.add_zero] at hs;refine ⟨w.setRow b (cur.toList.take o++vs++cur.toList.drop (o+vs.length)).toArray,?_,?_⟩
  ·simp only [execOp,Instr.storeAt,Instr.sureAddr,storeVar,ha.eval hx,ha.eval hy,Value.cells];simp [run_sizeOf hz,hs]
  ·refine hw.turn ((Fr.setRow _ _ _).mono (fun i hi=>⟨_,rfl,by subst hi;rfl⟩)) ⟨by simp only [xL,xJ,List.length_drop];omega,.inr ⟨b,cap,_,rfl,hg0,setRow_heap w b cur _ T (0,0) hg,hmc,hcm,?_,?_⟩⟩ (fun q hq=>.inl hq)
   ·simp only [List.size_toArray,xL,xJ,List.length_drop];rw [← hcs];omega
   ·exact take_set_mid htake ho (by omega)
end
theorem WL.buildSliceB {P:Program}{w0 ws:World}{M I:Nat→Prop}{ow:List Item}{ops:Array Oper}{Q:Post}{n:Nat}{ds:DS}{e:Env}{rest:List Oper}{t lt T:TypeId}{p:String}{af:Array Edge}{k s m:Nat}{xs:List Operand}{css:List (List Value)}{parts:Array (Nat × Operand)}{zc:List Value} 
  (hp:parts=(xs.zipIdx.map fun (x,i)=>(i,x)).toArray) (hu:P.underlying lt=Option.some (.slice T)) (hz:P.sz T=Option.some s) (hzr:P.zr T=Option.some zc.toArray) (hv:evs e xs=Option.some (css.map fun c=>.agg c.toArray)) (hl:css.length=m) (hs:∀ c∈css,c.length=s) (h0:0<m*s) (hm:m*s≤16777216) (hk:Nat.blt k n=true)
  (h:∀ b,WL P ops Q n ds ((k,.slice (Option.some ⟨b,0,Option.none⟩) m m)::e) (Sat w0 M I ws (oQ b css.flatten T::ow)) rest) :
  WL P ops Q n ds e (Sat w0 M I ws ow) (⟨Option.some k,.buildSlice lt m parts,t,p,af,Option.none⟩::rest):=by
 refine WL.fi (ι:=Nat) (vv:=fun b=>.slice (Option.some ⟨b,0,Option.none⟩) m m) (SS:=fun b=>Sat w0 M I ws (oQ b css.flatten T::ow)) ?_ hk h;intro a w ha hw;obtain ⟨zv,hzv,hc⟩:=Jfl hzr w
 have key:∀ (us:List (List Value)) (i:Nat) (done cur:List Value),(∀ c∈us,c.length=s)→done.length=i*s→cur.length=us.length*s →
   Instr.fill (fun i=>Option.some (i*s,s)) (done++cur).toArray (((us.map fun c=>Value.agg c.toArray).zipIdx i).map fun (v,i)=>(i,v))=Option.some (done++us.flatten).toArray:=by
  intro us
  induction us with
  | nil=>intro i done cur _ _ hcu;have:cur=[]:=List.eq_nil_of_length_eq_zero (by simpa using hcu);subst this;simp [Instr.fill]
  | cons u us ih=>
   intro i done cur h1 hd hcu;have hu1:u.length=s:=h1 u yF;have hcl:cur.length=us.length*s+s:=by rw [hcu,List.length_cons,Nat.add_mul,Nat.one_mul]
   have ih':=ih (i+1) (done++u) (cur.drop s) (fun c hc=>h1 c (.tail _ hc)) (by rw [xL,hd,hu1,Nat.add_mul,Nat.one_mul]) (by rw [List.length_drop];omega);simp only [yA,List.zipIdx_cons];refine Jax (us:=u) rfl (by rw [hu1]) (by rw [xL,hd,hu1];omega) ?_;have e1:(done++cur).take (i*s)=done:=by rw [← hd,List.take_left'];rfl
   have e2:(done++cur).drop (i*s+u.length)=cur.drop s:=by rw [← hd,hu1,List.drop_append,Nat.add_sub_cancel_left,xV (by omega),xW]
   rw [e1,e2,ih'];simp
 have hxs:=Jeh ha hv
 have hmap:List.map ((fun x:Nat × Operand=>(x.fst,a.eval x.snd)) ∘ fun x:Operand × Nat=>(x.snd,x.fst)) xs.zipIdx=(css.map fun c=>Value.agg c.toArray).zipIdx.map fun (v,i)=>(i,v):=by
  rw [← hxs,List.zipIdx_map,List.map_map];rfl
 subst hp;refine ⟨w.heap.size,w.alloc (.cells css.flatten.toArray T),?_,hw.fresh (Fr.alloc _ _) (Jde _ _) (fun b hb=>by simp only [own] at hb;subst hb;simp)⟩
 have hz2:∀ (f:Nat→Value),Instr.fill (fun i=>Option.some (i*s,s)) ((Array.range (m*s)).map f) ((css.map fun c=>Value.agg c.toArray).zipIdx.map fun (v,i)=>(i,v))=Option.some css.flatten.toArray:=by
  intro f;have h2:=key css 0 [] ((Array.range (m*s)).map f).toList hs (by simp) (by simp [hl]);rw [xW,xW,Array.toArray_toList] at h2;exact h2
 have hs0:¬ (m*s=0):=by omega
 have hs3:¬ (m*s > 2 ^ 24):=by omega
 simp only [execOp,Instr.buildSlice,Sem.run_bind,run_underlying hu,Result.andThen_ok,run_sizeOf hz,if_neg hs3,if_neg hs0,hzv,Sem.run_pure];simp only [List.map_toArray,List.map_map,hmap,hz2];simp [newRow,newObj,Sem.run]
end Go.Hw
set_option maxRecDepth 10000
namespace Go.Proofs.YtdgigbopibdflaaGreatDoor
open Go Go.Hw
set_option linter.unusedSimpArgs false
set_option linter.unusedVariables false
theorem Src.of_rowT {w0 ws w:World}{M I:Nat→Prop}{ow:List Hw.Item}{a:Option Addr}{c:Nat}{ts:List Tm}(hw:Sat w0 M I ws ow w)(hm:rowT a c ts∈ow):Src (Sat w0 M I ws ow) a ts.length 3 (ts.flatMap tmC):=
 Src.of_rt (RT.of_row rfl hw hm).nil (fun _ h=>RT.of_row rfl h hm)
theorem el_part {w:World}{a:Addr}{cs cs':List Value}(hc:∀ j v,cs[j]?=some v→w.cell? (a.add j)=some v){o:Nat}(hp:(cs.drop o).take cs'.length=cs'):∀ j v,cs'[j]?=some v→w.cell? ((a.add o).add j)=some v:=by
 intro j v hj;have hl:=(List.getElem?_eq_some_iff.1 hj).1;rw [← hp,List.getElem?_take_of_lt hl,List.getElem?_drop] at hj;rw [← Jdz];exact hc _ _ hj
theorem not_mem_take {l:List Tm}{i:Nat}{t:Tm}(hn:∀ u∈l.take i,u≠t)(hi:l.length≤i):t∉l:=fun h=>hn t (by rw [xK hi];exact h) rfl
theorem Jb1 {α:Type}{l:List α}{i:Nat}{t:α}(h:l[i]?=some t):l.take (i+1)=l.take i++[t]:=by rw [List.take_add_one,h];rfl
theorem ne_step {l:List Tm}{i:Nat}{t u:Tm}(hn:∀ u∈l.take i,u≠t)(h:l[i]?=some u)(hne:u≠t):∀ u∈l.take (i+1),u≠t:=fun v hv=>by
 rw [Jb1 h] at hv;rcases List.mem_append.1 hv with h1 | h1
 ·exact hn v h1
 ·simp only [xI] at h1;rw [h1];exact hne
theorem Jd1 (x:At)(a:Option Addr)(c:Nat)(hl:x.args.length≤1048576)(w:World)(hr:RT w a x.args):Calls Tryz.prog 130 #[atV x a c] w fun e w'=>∃ z:Option Addr × Nat,e=.returned (.slice z.1 (plc x).length z.2)∧Turns [] [rowT z.1 z.2 (plc x)] w w':=by
 refine Jbi (args:=[atV x a c]) (fun _=>False) Tryz.func130 rfl Tryz.ntmps130 rfl rfl ?_;refine Csr (WL.box rfl rfl rfl ?_);intro b1;refine Za rfl (Nn (Csr (Zv (OV.f0 0 rfl T.u26 rfl) (Zv (OV.am (cs:=tmC x.b) rfl T.u23 rfl T.z23 (fun _ hw j v hj=>by rw [Jav];exact Jbk hw yF (o:=0) (cs':=tmC x.b) rfl j v hj)) (WL.bo (cs:=tmC x.b) T.u24 T.z23 T.zr23 rfl rfl (by omega) (by omega) rfl ?_)))));intro b6;refine WL.weak (S':=Sat0 w (row 23 3 (some ⟨b6,0,none⟩) 1 1 (tmC x.b)::oQ b1 (atC x a c) 26::[])) (fun w' hw=>hw.asRow (m:=1) rfl (by decide)) ?_;refine Za rfl (Nn (Csr (Zm rfl (Zv (OV.f0 4 rfl T.u26 rfl) (Zv (OV.l1 (v:=.slice a x.args.length c) rfl T.u24 rfl yG rfl) (WL.append (news:=x.args.flatMap tmC) rfl rfl T.apT (fun _ _=>Src.of_rt hr.nil (fun _ hw=>hr.keeps hw.keeps)) (Je9 _) ⟨by omega,by unfold maxLen;omega⟩ rfl ?_))))));intro a10 c10;refine Za rfl (Nn (WC.ay ?_));have el:1+x.args.length=(plc x).length:=by simp [plc];omega
 have ef:tmC x.b++x.args.flatMap tmC=(plc x).flatMap tmC:=rfl;rw [el,ef];exact WX.ret1 rfl rfl rfl (fun w' hw=>⟨(a10,c10),rfl,(hw.pik [[rowT a10 c10 (plc x)],[oQ b1 (atC x a c) 26]] [0] 2).turned0⟩)
theorem within_calls (l:List Tm)(a:Option Addr)(c:Nat)(t:Tm)(hl:l.length≤1099511627776)(w:World)(hr:RT w a l):Calls Tryz.prog 131 #[.slice a l.length c,tmV t] w fun e w'=>e=.returned (.bool (decide (t∈l)))∧Fr0 w w':=by
 refine Jbi (args:=[.slice a l.length c,tmV t]) (fun _=>False) Tryz.func131 rfl Tryz.ntmps131 rfl rfl ?_;refine Csr (WL.box rfl rfl rfl ?_);intro b3;refine Za rfl (Nn (Cs (Csr (Za rfl (Nn (Cb ?_))))))
 refine WC.bz (fun (i:Nat)=>[(0,.slice a l.length c),(3,yX b3),(5,.int .i64 (i:Int))])
   (fun i w'=>(i≤l.length∧∀ u∈l.take i,u≠t)∧Sat0 w (oQ b3 (tmC t) 23::[]) w')
   (fun i=>l.length - i) 0 Y3 (fun w' hw=>⟨⟨by omega,fun u hu=>by simp at hu⟩,hw⟩) ?_
 intro i;refine WC.pure (fun hi=>?_);obtain ⟨hi,hn⟩:=hi;refine Cs (Csr (Zm rfl (Zm rfl (Zv (OV.ad rfl T.u24) (Zv (OV.cu rfl rfl) (Nn ?_))))));refine Cc rfl (fun c9=>?_) (fun c9=>?_)
 ·refine Ck (Xn (Cs (Cb (Cs (Hq [] (m:=6) rfl ?_)))));refine Hf 0 rfl (OV.cj rfl) (Hf 1 rfl (OV.cj rfl) ?_);obtain ⟨q1,u,hq,ht,htm,_,hc⟩:=hr.get (i:=i) (by omega);refine Hf 2 rfl ((OV.ae (show _=some (Value.slice (some q1) l.length c) by rw [← hq];rfl) rfl T.u24 T.z23 (by omega)).cast (u:=.pointer (some (q1.add (i*3)))) (by rw [xN])) (Ht 3 rfl (OV.am (cs:=tmC u) rfl T.u23 rfl T.z23 (fun _ hw j v hj=>hw.keeps _ _ (hc j v hj))) (Ht 4 rfl (OV.lN (cs:=tmC t) rfl T.u23 rfl T.z23 yF) (Hf 5 rfl (OV.i8 (a:=u) (b:=t) rfl rfl) (He (Xn ?_)))));refine Cc rfl (fun c17=>?_) (fun c17=>?_)
  ·refine Csr (Za rfl (Nn (WC.ay ?_)));refine Xq (Xr (Xr (Xq (Xr ?_))));exact WX.ret1 rfl rfl rfl (fun w' hw=>⟨by rw [xO (by rw [← c17];exact htm)],hw.drop.fr⟩)
  refine Ck (Xb (Xn (Cr (Zm rfl (Zv (OV.bh (j:=1) rfl rfl (by omega)) (Za rfl (Nl ?_)))))));exact WX.au (i+1) Y3 (fun w' hw=>⟨⟨by omega,ne_step hn ht c17⟩,hw⟩) (by show l.length - (i+1)<l.length - i;omega)
 refine Ce (Xe (Xe (Xh (Xn (Csr (Za rfl (Nn (WC.ay ?_))))))));exact WX.ret1 rfl rfl rfl (fun w' hw=>⟨by rw [xP (not_mem_take hn (by omega))],hw.drop.fr⟩)
theorem variables_calls (l:List Tm)(a:Option Addr)(c:Nat)(hl:l.length≤1048576)(w:World)(hr:RT w a l):Calls Tryz.prog 133 #[.slice a l.length c] w fun e w'=>∃ z:Option Addr × Nat,e=.returned (.slice z.1 (dedV l).length z.2)∧Turns [] [rowT z.1 z.2 (dedV l)] w w':=by
 refine Jbi (args:=[.slice a l.length c]) (fun _=>False) Tryz.func133 rfl Tryz.ntmps133 rfl rfl ?_;refine Csr (Za rfl (Nn (Csr (Za rfl (Nn (Cs (Csr (Za rfl (Nn (Cb (WC.weak (S':=Sat0 w (row 23 3 none 0 0 []::[])) (fun w' hw=>hw.rowNil 23 3) ?_)))))))))))
 refine WC.d8 (fun (i:Nat) (la:Option Addr) (lc:Nat) (vs:List Tm)=>[(0,.slice a l.length c),(3,.slice la vs.length lc),(4,.int .i64 (i:Int))])
   (fun i la lc vs w'=>(i≤l.length∧vs=dedV (l.take i)∧vs.length≤i)∧Sat0 w (rowT la lc vs::[]) w')
   (fun i _ _ _=>l.length - i) 0 none 0 [] Y3 (fun w' hw=>⟨⟨by omega,rfl,by simp⟩,hw⟩) ?_
 intro i la lc vs;refine WC.pure (fun hi=>?_);obtain ⟨hi,hvs,hvl⟩:=hi;refine Cs (Csr (Zm rfl (Zm rfl (Zv (OV.ad rfl T.u24) (Zv (OV.cu rfl rfl) (Nn ?_))))));refine Cc rfl (fun c8=>?_) (fun c8=>?_)
 ·refine Ck (Xn (Cs (Cb (Csr (Zm rfl (Zm rfl ?_))))));obtain ⟨q1,t,hq,ht,htm,_,hc⟩:=hr.get (i:=i) (by omega);refine Zv ((OV.ae (show _=some (Value.slice (some q1) l.length c) by rw [← hq];rfl) rfl T.u24 T.z23 (by omega)).cast (u:=.pointer (some (q1.add (i*3)))) (by rw [xN])) (Zv (OV.am (cs:=tmC t) rfl T.u23 rfl T.z23 (fun _ hw j v hj=>hw.keeps _ _ (hc j v hj))) (WL.aw (v:=.bool (varB t)) (by kernel_rfl) rfl rfl (fun w' hw'=>Jcv t w') ?_));refine Zm rfl ?_;refine Zp (t:=16) rfl (fun g16=>?_) (fun g16=>?_)
  ·refine yW (Zm rfl (yW (Zm rfl (yW (Zm rfl (yW (Zv ((OV.ae (show _=some (Value.slice (some q1) l.length c) by rw [← hq];rfl) rfl T.u24 T.z23 (by omega)).cast (u:=.pointer (some (q1.add (i*3)))) (by rw [xN])) (yW (Zv (OV.am (cs:=tmC t) rfl T.u23 rfl T.z23 (fun _ hw j v hj=>hw.keeps _ _ (hc j v hj))) (yW (WL.aw (v:=.bool (decide (t∈vs))) (by kernel_rfl) rfl rfl (fun w' hw'=>within_calls vs la lc t (by omega) w' (RT.of_row (c:=lc) rfl hw' yF)) ?_)))))))))));refine yW (Zv (OV.not rfl) (Zv (OV.ak rfl rfl) (Nn ?_)));refine Cc rfl (fun c24=>?_) (fun c24=>?_)
   ·refine Cr (Zm rfl (Zm rfl (Zm rfl (Zv ((OV.ae (show _=some (Value.slice (some q1) l.length c) by rw [← hq];rfl) rfl T.u24 T.z23 (by omega)).cast (u:=.pointer (some (q1.add (i*3)))) (by rw [xN])) (Zv (OV.am (cs:=tmC t) rfl T.u23 rfl T.z23 (fun _ hw j v hj=>hw.keeps _ _ (hc j v hj))) (WL.bo (cs:=tmC t) T.u24 T.z23 T.zr23 rfl rfl (by omega) (by omega) rfl ?_))))));intro b30;refine WL.focus (ow':=rowT la lc vs::oQ b30 (tmC t) 23::[]) (pmP [_,_] [1,0]) ?_;refine WL.append (news:=tmC t) rfl rfl T.apT (fun _ _=>Jdx yG rfl) (Jiu _) ⟨by omega,by unfold maxLen;omega⟩ rfl ?_;intro a31 c31;refine Za rfl (Nl (Xb (Xn (Cr (Zm rfl (Zv (OV.bh (j:=1) rfl rfl (by omega)) (Za rfl (Nl ?_))))))));have el:vs.length+1=(vs++[t]).length:=by simp
    have ef:vs.flatMap tmC++tmC t=(vs++[t]).flatMap tmC:=by simp
    rw [el,ef]
    exact WX.cg (i+1) a31 c31 (vs++[t]) Y3 (fun w' hw=>⟨⟨by omega,by
     rw [Jb1 ht,Jdg,← hvs,if_pos ⟨g16,by simpa using c24⟩],by simp;omega⟩,by
     exact hw.pik [[rowT a31 c31 (vs++[t])],[oQ b30 (tmC t) 23]] [0] 2⟩) (by show l.length - (i+1)<l.length - i;omega)
   refine Ck (Xb (Xn (Cr (Zm rfl (Zv (OV.bh (j:=1) rfl rfl (by omega)) (Za rfl (Nl ?_)))))))
   exact WX.cg (i+1) la lc vs Y3 (fun w' hw=>⟨⟨by omega,by
    rw [Jb1 ht,Jdg,← hvs,if_neg (fun hh=>hh.2 (by simpa using c24))],by omega⟩,hw⟩) (by show l.length - (i+1)<l.length - i;omega)
  refine yV (yV (yV (yV (yV (yV (yV (Zv (OV.ai rfl rfl) (Nn (WC.ca (show _=some (Value.bool false) from by rfl) ?_)))))))));refine Ck (Xb (Xn (Cr (Zm rfl (Zv (OV.bh (j:=1) rfl rfl (by omega)) (Za rfl (Nl ?_)))))))
  exact WX.cg (i+1) la lc vs Y3 (fun w' hw=>⟨⟨by omega,by
   rw [Jb1 ht,Jdg,← hvs,if_neg (fun hh=>by rw [g16] at hh;cases hh.1)],by omega⟩,hw⟩) (by show l.length - (i+1)<l.length - i;omega)
 refine Ce (Xe (Xe (Xh (Xn (Csr (Zm rfl (Za rfl (Nn (WC.ay ?_)))))))));rw [xK (by omega)] at hvs;subst hvs;exact WX.ret1 rfl rfl rfl (fun w' hw=>⟨(la,lc),rfl,hw.turned0⟩)
theorem Jfp {g:CG}{i:Nat}{y:AG}(h:g.bd[i]?=some y):(g.bd.take (i+1)).flatMap (fun y=>plc y.x)=(g.bd.take i).flatMap (fun y=>plc y.x)++plc y.x:=by
 rw [Jb1 h,List.flatMap_append];simp
theorem Jf0 (g:CG):Jbu g.cl=g.bd.flatMap fun y=>plc y.x:=by
 unfold Jbu CG.cl;rw [List.flatMap_map]
theorem Jgr (g:CG):Jbx g.cl=g.ts.flatMap plT:=rfl
theorem Jf6 (c:Cl):(Jbx c).length=2*c.ts.length:=by
 unfold Jbx
 induction c.ts with
 | nil=>rfl
 | cons t l ih=>rw [List.flatMap_cons,xL,ih,List.length_cons];simp only [plT,List.length_cons,List.length_nil];omega
theorem Jeg {α β:Type}(f:α→List β)(l:List α)(i:Nat):((l.take i).flatMap f).length≤(l.flatMap f).length:=by
 conv=>rhs;rw [← List.take_append_drop i l,List.flatMap_append,xL]
 omega
theorem bodyTerms_calls (g:CG)(hm:(Jbu g.cl).length≤1048576)(hl:g.bd.length≤1048576)(w:World)(hr:RC w g):Calls Tryz.prog 73 #[cgV g] w fun e w'=>∃ z:Option Addr × Nat,e=.returned (.slice z.1 (Jbu g.cl).length z.2)∧Turns [] [rowT z.1 z.2 (Jbu g.cl)] w w':=by
 refine Jbi (args:=[cgV g]) (fun _=>False) Tryz.func73 rfl Tryz.ntmps73 rfl rfl ?_;refine Csr (WL.box rfl rfl rfl ?_);intro b1;refine Za rfl (Nn (Csr (Za rfl (Nn (Cs (Csr (Za rfl (Nn (Cb (WC.weak (S':=Sat0 w (row 23 3 none 0 0 []::oQ b1 (cgC g) 30::[])) (fun w' hw=>hw.rowNil 23 3) ?_))))))))))
 refine WC.d8 (fun (i:Nat) (la:Option Addr) (lc:Nat) (l:List Tm)=>[(1,yX b1),(3,.slice la l.length lc),(4,.int .i64 (i:Int))])
   (fun i la lc l w'=>(i≤g.bd.length∧l=(g.bd.take i).flatMap fun y=>plc y.x)∧Sat0 w (rowT la lc l::oQ b1 (cgC g) 30::[]) w')
   (fun i _ _ _=>g.bd.length - i) 0 none 0 [] Y3 (fun w' hw=>⟨⟨by omega,rfl⟩,hw⟩) ?_
 intro i la lc l;refine WC.pure (fun hi=>?_);obtain ⟨hi,hlv⟩:=hi;refine Cs (Csr (Zm rfl (Zv (OV.f0 5 rfl T.u30 rfl) (Zv (OV.l1 (v:=.slice g.ba g.bd.length g.bc) rfl T.u27 rfl yG rfl) (Zv (OV.ad rfl T.u27) (Zv (OV.cu rfl rfl) (Nn ?_)))))));refine Cc rfl (fun c9=>?_) (fun c9=>?_)
 ·refine Ck (Xn (Cs (Cb (Cr (Zm rfl (Zv (OV.f0 5 rfl T.u30 rfl) (Zv (OV.l1 (v:=.slice g.ba g.bd.length g.bc) rfl T.u27 rfl yG rfl) (Zm rfl ?_))))))));obtain ⟨q1,y,hq,ht,htm,hra,hc⟩:=hr.bd.get (i:=i) (by omega);refine Zv ((OV.ae (show _=some (Value.slice (some q1) g.bd.length g.bc) by rw [← hq];rfl) rfl T.u27 T.z26 (by omega)).cast (u:=.pointer (some (q1.add (i*5)))) (by rw [xN])) (Zv (OV.am (cs:=atC y.x y.a y.c) rfl T.u26 rfl T.z26 (fun _ hw j v hj=>hw.keeps _ _ (hc j v hj))) ?_);have hbt:=Jfp ht;have hle:=Jeg (fun y:AG=>plc y.x) g.bd (i+1);rw [hbt,← Jf0,xL,← hlv] at hle;have hpl:(plc y.x).length=y.x.args.length+1:=by simp [plc]
  refine WL.cT (ι:=Option Addr × Nat) (vs:=[atV y.x y.a y.c]) (vv:=fun z=>.slice z.1 (plc y.x).length z.2) (pp:=fun _=>True) [] (AA:=fun z=>[rowT z.1 z.2 (plc y.x)]) rfl (fun w' hw' _=>(Jd1 y.x y.a y.c (by omega) w' (hra.keeps hw'.keeps)).mono (fun en w'' ⟨z,h1,h2⟩=>⟨z,h1,trivial,h2⟩)) ?_;rintro ⟨za,zc⟩ _;refine WL.focus (ow':=rowT la lc l::rowT za zc (plc y.x)::oQ b1 (cgC g) 30::[]) (pmP [_,_,_] [1,0,2]) ?_;refine WL.append (news:=(plc y.x).flatMap tmC) rfl rfl T.apT (fun w hw=>Src.of_rowT hw yG) (Je9 _) ⟨by omega,by unfold maxLen;omega⟩ rfl ?_;intro a19 c19;refine Za rfl (Nl (Xb (Xn (Cr (Zm rfl (Zv (OV.bh (j:=1) rfl rfl (by omega)) (Za rfl (Nl ?_))))))));have el:l.length+(plc y.x).length=(l++plc y.x).length:=by simp
  have ef:l.flatMap tmC++(plc y.x).flatMap tmC=(l++plc y.x).flatMap tmC:=by simp
  rw [el,ef]
  exact WX.cg (i+1) a19 c19 (l++plc y.x) Y3 (fun w' hw=>⟨⟨by omega,by rw [hbt,hlv]⟩,by
   exact hw.pik [[rowT a19 c19 (l++plc y.x)],[rowT za zc (plc y.x)],[oQ b1 (cgC g) 30]] [0,2] 3⟩) (by show g.bd.length - (i+1)<g.bd.length - i;omega)
 refine Ce (Xe (Xe (Xh (Xn (Csr (Zm rfl (Za rfl (Nn (WC.ay ?_)))))))));rw [xK (by omega),← Jf0] at hlv;subst hlv;exact WX.ret1 rfl rfl rfl (fun w' hw=>⟨(la,lc),rfl,(hw.pik [[rowT la lc (Jbu g.cl)],[oQ b1 (cgC g) 30]] [0] 2).turned0⟩)
theorem testTerms_calls (g:CG)(hl:g.ts.length≤524288)(w:World)(hr:RC w g):Calls Tryz.prog 139 #[cgV g] w fun e w'=>∃ z:Option Addr × Nat,e=.returned (.slice z.1 (Jbx g.cl).length z.2)∧Turns [] [rowT z.1 z.2 (Jbx g.cl)] w w':=by
 refine Jbi (args:=[cgV g]) (fun _=>False) Tryz.func139 rfl Tryz.ntmps139 rfl rfl ?_;refine Csr (WL.box rfl rfl rfl ?_);intro b1;refine Za rfl (Nn (Csr (Za rfl (Nn (Cs (Csr (Za rfl (Nn (Cb (WC.weak (S':=Sat0 w (row 23 3 none 0 0 []::oQ b1 (cgC g) 30::[])) (fun w' hw=>hw.rowNil 23 3) ?_))))))))))
 refine WC.d8 (fun (i:Nat) (la:Option Addr) (lc:Nat) (l:List Tm)=>[(1,yX b1),(3,.slice la l.length lc),(4,.int .i64 (i:Int))])
   (fun i la lc l w'=>(i≤g.ts.length∧l=(g.ts.take i).flatMap plT∧l.length=2*i)∧Sat0 w (rowT la lc l::oQ b1 (cgC g) 30::[]) w')
   (fun i _ _ _=>g.ts.length - i) 0 none 0 [] Y3 (fun w' hw=>⟨⟨by omega,rfl,rfl⟩,hw⟩) ?_
 intro i la lc l;refine WC.pure (fun hi=>?_);obtain ⟨hi,hlv,hll⟩:=hi;refine Cs (Csr (Zm rfl (Zv (OV.f0 6 rfl T.u30 rfl) (Zv (OV.l1 (v:=.slice g.ta g.ts.length g.tc) rfl T.u28 rfl yG rfl) (Zv (OV.ad rfl T.u28) (Zv (OV.cu rfl rfl) (Nn ?_)))))));refine Cc rfl (fun c9=>?_) (fun c9=>?_)
 ·refine Ck (Xn (Cs (Cb (Hd (fun w'=>w'.heap[b1]?=some (.cells (cgC g).toArray 30 (0,0))∧Keeps w w') [] (fun _ hw=>⟨hw.it (oQ b1 (cgC g) 30) (by simp),hw.keeps⟩) (m:=16) rfl ?_))));refine Hf 0 rfl (OV.cj rfl) (Hf 1 rfl (OV.f0 6 rfl T.u30 rfl) (Ht 2 rfl (OV.ap (v:=.slice g.ta g.ts.length g.tc) rfl T.u28 rfl (fun _ hw=>(Jbn hw.1 (o:=6) rfl).1)) (Hf 3 rfl (OV.cj rfl) ?_)));obtain ⟨q1,t,hq,ht,htm,hc⟩:=hr.ts.get (i:=i) (by omega);refine Hf 4 rfl ((OV.ae (show _=some (Value.slice (some q1) g.ts.length g.tc) by rw [← hq];rfl) rfl T.u28 T.z85 (by omega)).cast (u:=.pointer (some (q1.add (i*7)))) (by rw [xN])) (Hf 5 rfl ((OV.fieldAddrA (off:=1) rfl T.u85 rfl).cast (u:=.pointer (some ((q1.add (i*7)).add 1))) (rfl)) (Ht 6 rfl (OV.am (cs:=tmC t.l) rfl T.u23 rfl T.z23 (fun _ hw j v hj=>hw.2 _ _ (el_part hc (o:=1) (cs':=tmC t.l) rfl j v hj))) (Hf 7 rfl (OV.f0 6 rfl T.u30 rfl) (Ht 8 rfl (OV.ap (v:=.slice g.ta g.ts.length g.tc) rfl T.u28 rfl (fun _ hw=>(Jbn hw.1 (o:=6) rfl).1)) (Hf 9 rfl (OV.cj rfl) (Hf 10 rfl ((OV.ae (show _=some (Value.slice (some q1) g.ts.length g.tc) by rw [← hq];rfl) rfl T.u28 T.z85 (by omega)).cast (u:=.pointer (some (q1.add (i*7)))) (by rw [xN])) (Hf 11 rfl ((OV.fieldAddrA (off:=4) rfl T.u85 rfl).cast (u:=.pointer (some ((q1.add (i*7)).add 4))) (rfl)) (Ht 12 rfl (OV.am (cs:=tmC t.r) rfl T.u23 rfl T.z23 (fun _ hw j v hj=>hw.2 _ _ (el_part hc (o:=4) (cs':=tmC t.r) rfl j v hj))) (Ho 13 rfl (fl':=false) rfl ?_)))))))));refine WL.buildSliceB (xs:=[.tmp 18,.tmp 24]) (css:=[tmC t.l,tmC t.r]) rfl T.u24 T.z23 T.zr23 rfl rfl (by simp [tmC]) (by decide) (by decide) rfl ?_;intro b25;refine Hc (fun _=>(fun _ hw=>⟨hw.it (oQ b1 (cgC g) 30) (by simp),hw.keeps⟩)) ?_;refine Ho 14 rfl (fl':=false) rfl ?_;refine WL.focus (ow':=rowT la lc l::own b25 (.cells [tmC t.l,tmC t.r].flatten.toArray 23 (0,0))::oQ b1 (cgC g) 30::[]) (pmP [_,_,_] [1,0,2]) ?_;refine WL.append (news:=[tmC t.l,tmC t.r].flatten) rfl rfl T.apT (fun _ _=>Jdx yG rfl) (by simp [tmC,Value.oneCell']) ⟨by omega,by unfold maxLen;omega⟩ rfl ?_;intro a26 c26;refine Hc (fun _=>(fun _ hw=>⟨hw.it (oQ b1 (cgC g) 30) (by simp),hw.keeps⟩)) ?_;refine Hf 15 rfl (OV.assign rfl) (He (Xb (Xn (Cr (Zm rfl (Zv (OV.bh (j:=1) rfl rfl (by omega)) (Za rfl (Nl ?_))))))));have el:l.length+2=(l++[t.l,t.r]).length:=by simp
  have ef:l.flatMap tmC++[tmC t.l,tmC t.r].flatten=(l++[t.l,t.r]).flatMap tmC:=by simp
  rw [el,ef]
  exact WX.cg (i+1) a26 c26 (l++[t.l,t.r]) Y3 (fun w' hw=>⟨⟨by omega,by rw [Jb1 ht,List.flatMap_append,← hlv];simp [plT],by simp;omega⟩,by
   exact hw.pik [[rowT a26 c26 (l++[t.l,t.r])],[own b25 (.cells [tmC t.l,tmC t.r].flatten.toArray 23 (0,0))],[oQ b1 (cgC g) 30]] [0,2] 3⟩) (by show g.ts.length - (i+1)<g.ts.length - i;omega)
 refine Ce (Xe (Xe (Xh (Xn (Csr (Zm rfl (Za rfl (Nn (WC.ay ?_)))))))));rw [xK (by omega),← Jgr] at hlv;subst hlv;exact WX.ret1 rfl rfl rfl (fun w' hw=>⟨(la,lc),rfl,(hw.pik [[rowT la lc (Jbx g.cl)],[oQ b1 (cgC g) 30]] [0] 2).turned0⟩)
theorem terms_calls (g:CG)(hm:(Jcb g.cl).length≤1048576)(hl:g.bd.length≤1048576)(w:World)(hr:RC w g):Calls Tryz.prog 123 #[cgV g] w fun e w'=>∃ z:Option Addr × Nat,e=.returned (.slice z.1 (Jcb g.cl).length z.2)∧Turns [] [rowT z.1 z.2 (Jcb g.cl)] w w':=by
 refine Jbi (args:=[cgV g]) (fun _=>False) Tryz.func123 rfl Tryz.ntmps123 rfl rfl ?_;refine Csr (WL.box rfl rfl rfl ?_);intro b1;refine Za rfl (Nn (Csr (Zv (OV.f0 0 rfl T.u30 rfl) ?_)))
 have htl:(plc g.hd.x).length+((Jbu g.cl).length+(Jbx g.cl).length)≤1048576:=by
  have e:(Jcb g.cl).length=(plc g.hd.x).length+((Jbu g.cl).length+(Jbx g.cl).length):=by unfold Jcb;rw [xL,xL];rfl
  omega
 have hpl:(plc g.hd.x).length=g.hd.x.args.length+1:=by simp [plc]
 have htt:(Jbx g.cl).length=2*g.ts.length:=by exact Jf6 g.cl
 refine Zv (OV.am (cs:=atC g.hd.x g.hd.a g.hd.c) rfl T.u26 rfl T.z26 (fun _ hw j v hj=>by rw [Jav];exact Jbk hw yF (o:=0) (cs':=atC g.hd.x g.hd.a g.hd.c) rfl j v hj)) (WL.cT (ι:=Option Addr × Nat) (vs:=[atV g.hd.x g.hd.a g.hd.c]) (vv:=fun z=>.slice z.1 (plc g.hd.x).length z.2) (pp:=fun _=>True) [] (AA:=fun z=>[rowT z.1 z.2 (plc g.hd.x)]) rfl (fun w' hw' _=>(Jd1 g.hd.x g.hd.a g.hd.c (by omega) w' (hr.hd.keeps hw'.keeps)).mono (fun en w'' ⟨z,h1,h2⟩=>⟨z,h1,trivial,h2⟩)) ?_);rintro ⟨ha,hc⟩ _;refine Za rfl (Nn (Csr (Zm rfl (Zv (OV.lN (cs:=cgC g) rfl T.u30 rfl T.z30 yG) (WL.dh (ι:=Option Addr × Nat) (vv:=fun z=>.slice z.1 (Jbu g.cl).length z.2) (pp:=fun _=>True) [] (AA:=fun z=>[rowT z.1 z.2 (Jbu g.cl)]) rfl (by kernel_rfl) rfl rfl (fun w' hw' _=>(bodyTerms_calls g (by omega) hl w' (hr.keeps hw'.keeps)).mono (fun en w'' ⟨z,h1,h2⟩=>⟨z,h1,trivial,h2⟩)) ?_)))));rintro ⟨ba,bc⟩ _;refine WL.focus (ow':=rowT ha hc (plc g.hd.x)::rowT ba bc (Jbu g.cl)::oQ b1 (cgC g) 30::[]) (pmP [_,_,_] [1,0,2]) ?_;refine WL.append (news:=(Jbu g.cl).flatMap tmC) rfl rfl T.apT (fun w hw=>Src.of_rowT hw yG) (Je9 _) ⟨by omega,by unfold maxLen;omega⟩ rfl ?_;intro a10 c10;refine Za rfl (Nn (Csr (Zm rfl (Zv (OV.lN (cs:=cgC g) rfl T.u30 rfl T.z30 yH) (WL.dh (ι:=Option Addr × Nat) (vv:=fun z=>.slice z.1 (Jbx g.cl).length z.2) (pp:=fun _=>True) [] (AA:=fun z=>[rowT z.1 z.2 (Jbx g.cl)]) rfl (by kernel_rfl) rfl rfl (fun w' hw' _=>(testTerms_calls g (by omega) w' (hr.keeps hw'.keeps)).mono (fun en w'' ⟨z,h1,h2⟩=>⟨z,h1,trivial,h2⟩)) ?_)))));rintro ⟨xa,xc⟩ _;refine WL.focus (ow':=row 23 3 a10 ((plc g.hd.x).length+(Jbu g.cl).length) c10 ((plc g.hd.x).flatMap tmC++(Jbu g.cl).flatMap tmC)::rowT xa xc (Jbx g.cl)::rowT ba bc (Jbu g.cl)::oQ b1 (cgC g) 30::[]) (pmP [_,_,_,_] [1,0,2,3]) ?_;refine WL.append (news:=(Jbx g.cl).flatMap tmC) rfl rfl T.apT (fun w hw=>Src.of_rowT hw yG) (Je9 _) ⟨by omega,by unfold maxLen;omega⟩ rfl ?_;intro a14 c14;refine Za rfl (Nn (WC.ay ?_));have el:(plc g.hd.x).length+(Jbu g.cl).length+(Jbx g.cl).length=(Jcb g.cl).length:=by unfold Jcb;rw [xL,xL,yC];rfl
 have ef:(plc g.hd.x).flatMap tmC++(Jbu g.cl).flatMap tmC++(Jbx g.cl).flatMap tmC=(Jcb g.cl).flatMap tmC:=by unfold Jcb;rw [List.flatMap_append,List.flatMap_append,xF];rfl
 rw [el,ef];exact WX.ret1 rfl rfl rfl (fun w' hw=>⟨(a14,c14),rfl,(hw.pik [[rowT a14 c14 (Jcb g.cl)],[rowT xa xc (Jbx g.cl)],[rowT ba bc (Jbu g.cl)],[oQ b1 (cgC g) 30]] [0] 4).turned0⟩)
end Go.Proofs.YtdgigbopibdflaaGreatDoor
set_option maxRecDepth 10000
namespace Go.Proofs.YtdgigbopibdflaaGreatDoor
open Go Go.Hw
set_option linter.unusedSimpArgs false
set_option linter.unusedVariables false
theorem Jf7 (c:Cl):(Jcb c).length=(plc c.hd).length+(Jbu c).length+2*c.ts.length:=by
 unfold Jcb;rw [xL,xL,Jf6];omega
theorem mapC_eq {f:Tm→Tm}{g:CG}{y:AG}{ba:Option Addr}{bc:Nat}{ys:List AG}{ta:Option Addr}{tc:Nat}{us:List Ts}(hy:y.x=mapA f g.hd.x)(hys:ys.map AG.x=g.bd.map fun y=>mapA f y.x)(hus:us=g.ts.map (mapT f)):(⟨y,ba,bc,ys,ta,tc,us⟩:CG).cl=mapC f g.cl:=by
 unfold CG.cl mapC;simp only [hy,hys,hus,List.map_map];rfl
theorem argsA_snoc (ys:List AG)(y:AG):argsA (ys++[y])=argsA ys++[argA y]:=by simp [argsA]
theorem flat_put (l:List Tm)(i:Nat)(t:Tm)(h:i<l.length):(l.flatMap tmC).take (i*3)++tmC t++(l.flatMap tmC).drop (i*3+(tmC t).length)=(l.set i t).flatMap tmC:=by
 induction l generalizing i with
 | nil=>simp at h
 | cons u l ih=>
  cases i with
  | zero=>simp [tmC]
  | succ i=>
   have e:=ih i (by simpa using h);have hf:∀ (v:Tm) (m:List Tm),(v::m).flatMap tmC=.int .i64 v.kind::.int .i64 v.n::.string v.s::m.flatMap tmC:=fun _ _=>rfl
   rw [show (i+1)*3=i*3+1+1+1 by omega,show i*3+1+1+1+(tmC t).length=i*3+(tmC t).length+1+1+1 by omega,List.set_cons_succ,hf,hf,← e];simp only [List.take_succ_cons,List.drop_succ_cons,List.cons_append]
def Str {α:Type}(f:α→α→Int)(L:List α):Prop:=L.Pairwise fun a b=>f a b<0
theorem Str.ext {α:Type}{f:α→α→Int}(hf:CmpOK f):∀ {L M:List α},Str f L→Str f M→(∀ x,x∈L↔x∈M)→L=M
 | [],[],_,_,_=>rfl
 | [],y::M,_,_,h=>by have:=(h y).2 (by simp);cases this
 | x::L,[],_,_,h=>by have:=(h x).1 (by simp);cases this
 | x::L,y::M,hl,hm,h=>by
  obtain ⟨h1,h2⟩:=List.pairwise_cons.1 hl;obtain ⟨m1,m2⟩:=List.pairwise_cons.1 hm
  have e:x=y:=by
   rcases List.mem_cons.1 ((h x).1 (by simp)) with hh | hh
   ·exact hh
   ·rcases List.mem_cons.1 ((h y).2 (by simp)) with kk | kk
    ·exact kk.symm
    ·have a:=m1 x hh;have b:=h1 y kk;have:=hf.anti x y;omega
  subst e;refine congrArg (x::·) (Str.ext hf h2 m2 fun z=>⟨fun hz=>?_,fun hz=>?_⟩)
  ·rcases List.mem_cons.1 ((h z).1 (by simp [hz])) with rfl | hh
   ·have:=h1 z hz;rw [hf.refl] at this;omega
   ·exact hh
  ·rcases List.mem_cons.1 ((h z).2 (by simp [hz])) with rfl | hh
   ·have:=m1 z hz;rw [hf.refl] at this;omega
   ·exact hh
theorem Sol.mono {F G:Nat→At→Prop}(h:∀ i x,F i x→G i x){c:Cl}{n:Nat}{r:List Tm}(k:Sol F c n r):Sol G c n r:=
 ⟨k.len,k.ts,fun i a hi=>⟨h _ _ (k.bd i a hi).1,(k.bd i a hi).2⟩⟩
theorem Sol.congr {F G:Nat→At→Prop}(h:∀ i x,F i x↔G i x){c:Cl}{n:Nat}{r:List Tm}:Sol F c n r↔Sol G c n r:=
 ⟨Sol.mono fun i x=>(h i x).1,Sol.mono fun i x=>(h i x).2⟩
structure Jn where
 a:Nat
 kn:List Nat
 ts:List Nat
def knB (V:List Int)(t:Tm):Bool:=!varB t || decide (t.n∈V)
def Jaq (V:List Int)(x:At):List Nat:=(List.range (plc x).length).filter fun i=>knB V ((plc x).getD i T0)
def btr (V:List Int)(x y:At):Bool:=
 if (Jaq V x).length≠(Jaq V y).length then decide ((Jaq V y).length<(Jaq V x).length) else decide (x.args.length+1 - (Jaq V x).length<y.args.length+1 - (Jaq V y).length)
def nxF (c:Cl)(jo:List Nat)(V:List Int)(b:Option Nat)(i:Nat):Option Nat:=
 if i∈jo then b else match b with
  | none=>some i
  | some y=>if btr V (clA c i) (clA c y)=true then some i else some y
def nextP (c:Cl)(jo:List Nat)(V:List Int):Option Nat:=(List.range c.bd.length).foldl (nxF c jo V) none
def Jf8 (V:List Int)(t:Ts):Bool:=knB V t.l && knB V t.r
def pick1 (c:Cl)(lead:Option Nat)(jo:List Nat)(V:List Int):Nat:=if jo=[]∧lead.isSome=true then lead.getD 0 else (nextP c jo V).getD 0
def Jb0 (c:Cl)(V:List Int)(A:List Nat):List Nat:=(List.range c.ts.length).filter fun i=>Jf8 V (clT c i) && decide (i∉A)
def mkR (c:Cl)(lead:Option Nat):Nat→List Nat→List Int→List Nat→List Jn
 | 0,_,_,_=>[]
 | n+1,jo,V,A=>
  ⟨pick1 c lead jo V,Jaq V (clA c (pick1 c lead jo V)),Jb0 c (V++Jah (clA c (pick1 c lead jo V))) A⟩ ::
   mkR c lead n (jo++[pick1 c lead jo V]) (V++Jah (clA c (pick1 c lead jo V))) (A++Jb0 c (V++Jah (clA c (pick1 c lead jo V))) A)
def Jbj (c:Cl):List Nat:=(List.range c.ts.length).filter fun i=>!varB (clT c i).l && !varB (clT c i).r
def makeP (c:Cl)(lead:Option Nat):List Jn:=mkR c lead c.bd.length [] [] (Jbj c)
theorem nx_fold (c:Cl)(jo:List Nat)(V:List Int):∀ (l:List Nat) (b:Option Nat),(∀ y,b=some y→y∉jo) →
  (∀ y,l.foldl (nxF c jo V) b=some y→y∉jo∧(b=some y∨y∈l))∧((∃ i∈l,i∉jo)∨b.isSome=true→(l.foldl (nxF c jo V) b).isSome=true)
 | [],b,hb=>⟨fun y hy=>⟨hb y hy,Or.inl hy⟩,fun h=>by
  rcases h with ⟨i,hi,_⟩ | h
  ·cases hi
  ·exact h⟩
 | i::l,b,hb=>by
  have hb2:∀ y,nxF c jo V b i=some y→y∉jo∧(b=some y∨y=i):=fun y hy=>by
   unfold nxF at hy
   split at hy
   ·exact ⟨hb y hy,Or.inl hy⟩
   ·rename_i hi;cases b with
    | none=>simp only [Option.some.injEq] at hy;subst hy;exact ⟨hi,Or.inr rfl⟩
    | some z=>
     simp only at hy
     split at hy
     ·simp only [Option.some.injEq] at hy;subst hy;exact ⟨hi,Or.inr rfl⟩
     ·exact ⟨hb y hy,Or.inl hy⟩
  obtain ⟨h1,h2⟩:=nx_fold c jo V l (nxF c jo V b i) (fun y hy=>(hb2 y hy).1);refine ⟨fun y hy=>?_,fun h=>?_⟩
  ·obtain ⟨k1,k2⟩:=h1 y hy;refine ⟨k1,?_⟩;rcases k2 with k2 | k2
   ·rcases (hb2 y k2).2 with h | rfl
    ·exact Or.inl h
    ·exact Or.inr (by simp)
   ·exact Or.inr (xZ _ k2)
  ·refine h2 ?_
   have hs:b.isSome=true→(nxF c jo V b i).isSome=true:=fun hh=>by
    obtain ⟨z,rfl⟩:=Option.isSome_iff_exists.1 hh;unfold nxF
    split
    ·rfl
    ·simp only
     split <;> rfl
   rcases h with ⟨j,hj,hn⟩ | h
   ·rcases List.mem_cons.1 hj with rfl | hj
    ·right
     by_cases hb0:b.isSome=true
     ·exact hs hb0
     ·have:b=none:=by simpa using hb0
      subst this;unfold nxF;rw [if_neg hn];rfl
    ·exact Or.inl ⟨j,hj,hn⟩
   ·exact Or.inr (hs h)
theorem next_ok {c:Cl}{jo:List Nat}{V:List Int}(hn:jo.Nodup)(hb:∀ i∈jo,i<c.bd.length)(hl:jo.length<c.bd.length):∃ y,nextP c jo V=some y∧y∉jo∧y<c.bd.length:=by
 obtain ⟨h1,h2⟩:=nx_fold c jo V (List.range c.bd.length) none (fun y hy=>by cases hy)
 have h3:∃ i∈List.range c.bd.length,i∉jo:=by
  refine Classical.byContradiction fun h=>?_
  have h4:∀ i,i<c.bd.length→i∈jo:=fun i hi=>Classical.byContradiction fun k=>h ⟨i,List.mem_range.2 hi,k⟩
  have h5:jo.Perm (List.range c.bd.length):=(List.perm_ext_iff_of_nodup hn List.nodup_range).2 fun i=>⟨fun hi=>List.mem_range.2 (hb i hi),fun hi=>h4 i (List.mem_range.1 hi)⟩
  have:=h5.length_eq;rw [List.length_range] at this;omega
 obtain ⟨y,hy⟩:=Option.isSome_iff_exists.1 (h2 (Or.inl h3));obtain ⟨k1,k2⟩:=h1 y hy;refine ⟨y,hy,k1,?_⟩;rcases k2 with h | h
 ·cases h
 ·exact List.mem_range.1 h
theorem knB_iff {V:List Int}{t:Tm}:knB V t=true↔(varB t=true→t.n∈V):=by
 unfold knB;cases varB t <;> simp
theorem ready_iff {V:List Int}{t:Ts}:Jf8 V t=true↔∀ v∈varsT t,v∈V:=by
 unfold Jf8;rw [xY,knB_iff,knB_iff];unfold varsT;constructor
 ·rintro ⟨h1,h2⟩ v hv;obtain ⟨x,hx,rfl⟩:=List.mem_map.1 hv;obtain ⟨hx1,hx2⟩:=List.mem_filter.1 hx;simp only [yE,List.not_mem_nil,or_false] at hx1;rcases hx1 with rfl | rfl
  ·exact h1 hx2
  ·exact h2 hx2
 ·intro h;exact ⟨fun hv=>h _ (List.mem_map.2 ⟨t.l,List.mem_filter.2 ⟨by simp,hv⟩,rfl⟩),fun hv=>h _ (List.mem_map.2 ⟨t.r,List.mem_filter.2 ⟨by simp,hv⟩,rfl⟩)⟩
end Go.Proofs.YtdgigbopibdflaaGreatDoor
