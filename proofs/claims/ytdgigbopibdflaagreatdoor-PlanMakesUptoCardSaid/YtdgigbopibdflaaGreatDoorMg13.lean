/- Contracts of functions of the program: what each returns and leaves in memory. Printed by gen.py and walk.py. The library's sorts of structs lie in the loaded program as on the kit's shelf. -/
import Derived.Test.YtdgigbopibdflaaGreatDoorMg12
import Derived.Test.YtdgigbopibdflaaGreatDoorHxA
import Derived.Test.YtdgigbopibdflaaGreatDoorProg
set_option maxRecDepth 10000
namespace Go.Proofs.YtdgigbopibdflaaGreatDoor
open Go Go.Hw
set_option linter.unusedSimpArgs false
set_option linter.unusedVariables false
abbrev SAYS:ByteArray:=⟨#[115,97,121,115]⟩
def letB (c:UInt8):Bool:=decide (((97:Int)≤c.toNat∧(c.toNat:Int)≤122)∨((65:Int)≤c.toNat∧(c.toNat:Int)≤90)∨((48:Int)≤c.toNat∧(c.toNat:Int)≤57)∨(c.toNat:Int)=95)
def bAt (s:ByteArray)(i:Nat):UInt8:=s.data.toList.getD i 0
def nameB (s:ByteArray):Bool:=decide (s≠E0∧s.size≤32∧s≠SAYS∧(97:Int)≤(bAt s 0).toNat∧((bAt s 0).toNat:Int)≤122∧∀ i,i<s.size→letB (bAt s i)=true)
def T0:Tm:=⟨0,0,E0⟩
def badB (t:Tm):Bool:=!Jcn t && !varB t
def chkA (x:At):Int:=if nameB x.name=false then 21 else if 8<x.args.length then 22 else if x.b≠T0∧prinB x.b=false∧varB x.b=false then 23 else if x.args.any badB then 24 else 0
def factB (x:At):Bool:=decide (chkA x=0) && !varB x.b && !x.args.any varB
theorem bget {s:ByteArray}{i:Nat}(h:i<s.size):s[i]?=some (bAt s i):=by
 have h2:i<s.data.toList.length:=by simpa using h
 unfold bAt;rw [yD,xD h2,Option.getD_some];rw [getElem?_pos s i h];rfl
theorem size_pos {s:ByteArray}(h:¬ s=E0):0<s.size:=by
 rcases Nat.eq_zero_or_pos s.size with h0 | h0
 ·exfalso;apply h;obtain ⟨⟨l⟩⟩:=s;have:l.length=0:=h0;rw [List.length_eq_zero_iff.1 this]
 ·exact h0
def Jdi (w:World):Prop:=∀ j v,(tmC T0)[j]?=some v→w.cell? ⟨1,j,none⟩=some v
theorem Jdi.keeps {w w':World}(h:Jdi w)(k:Keeps w w'):Jdi w':=fun j v hj=>k _ _ (h j v hj)
theorem Jeb {s:ByteArray}{i:Nat}(h:i<s.size)(hl:¬ letB (bAt s i)=true):nameB s=false:=by
 unfold nameB;rw [decide_eq_false_iff_not];exact fun hh=>hl (hh.2.2.2.2.2 i h)
theorem name_calls (s:ByteArray)(hs:s.size≤1099511627776)(w:World):Calls Tryz.prog 222 #[.string s] w fun e w'=>e=.returned (.bool (nameB s))∧Fr0 w w':=by
 refine Jbi (args:=[.string s]) (fun _=>False) Tryz.func222 rfl Tryz.ntmps222 rfl rfl ?_;refine Csr (Za rfl (Nn (Cs (Csr (Zm rfl (Zv (OV.gk rfl rfl) (Zm rfl ?_)))))));refine Zp (t:=7) rfl (fun g7=>?_) (fun g7=>?_)
 ·refine yV (yV (yV (Zv (OV.ak rfl rfl) (Zm rfl (yV (yV (Zv (OV.ak rfl rfl) (Zm rfl (yV (yV (yV (Zv (OV.ak rfl rfl) (Zm rfl (yV (yV (yV (Zv (OV.ak rfl rfl) (Nn (WC.cm rfl ?_)))))))))))))))))));refine Csr (Za rfl (Nn (WC.ay ?_)));refine Xr ?_;exact WX.ret1 rfl rfl rfl (fun w' hw=>⟨by clear hw;rw [show nameB s=false from by unfold nameB;rw [decide_eq_false_iff_not];rintro ⟨h1,h2,h3,h4,h5,h6⟩;first | exact h1 (by assumption) | exact h3 (by assumption) | omega],hw.fr⟩)
 refine yW (Zm rfl (yW (Zv (OV.bg rfl T.u9) (yW (Zv (OV.ia rfl rfl) (Zv (OV.ai rfl rfl) (Zm rfl ?_)))))));refine Zp (t:=12) rfl (fun g12=>?_) (fun g12=>?_)
 ·refine yV (yV (Zv (OV.ak rfl rfl) (Zm rfl (yV (yV (yV (Zv (OV.ak rfl rfl) (Zm rfl (yV (yV (yV (Zv (OV.ak rfl rfl) (Nn (WC.cm rfl ?_))))))))))))));refine Csr (Za rfl (Nn (WC.ay ?_)));refine Xr ?_;exact WX.ret1 rfl rfl rfl (fun w' hw=>⟨by clear hw;rw [show nameB s=false from by unfold nameB;rw [decide_eq_false_iff_not];rintro ⟨h1,h2,h3,h4,h5,h6⟩;first | exact h1 (by assumption) | exact h3 (by assumption) | omega],hw.fr⟩)
 refine yW (Zm rfl (yW (Zv (OV.gk rfl rfl) (Zv (OV.ai rfl rfl) (Zm rfl ?_)))));refine Zp (t:=16) rfl (fun g16=>?_) (fun g16=>?_)
 ·refine yV (yV (yV (Zv (OV.ak rfl rfl) (Zm rfl (yV (yV (yV (Zv (OV.ak rfl rfl) (Nn (WC.cm rfl ?_))))))))));refine Csr (Za rfl (Nn (WC.ay ?_)));refine Xr ?_;exact WX.ret1 rfl rfl rfl (fun w' hw=>⟨by clear hw;rw [show nameB s=false from by unfold nameB;rw [decide_eq_false_iff_not];rintro ⟨h1,h2,h3,h4,h5,h6⟩;first | exact h1 (by assumption) | exact h3 (by assumption) | omega],hw.fr⟩)
 refine yW (Zm rfl (yW ?_));have hsz:=size_pos g7;refine Zv (OV.d9 (r:=bAt s 0) rfl rfl T.u9 ⟨by omega,bget hsz⟩) (yW (Zv (OV.cu rfl rfl) (Zv (OV.ai rfl rfl) (Zm rfl ?_))));refine Zp (t:=21) rfl (fun g21=>?_) (fun g21=>?_)
 ·refine yV (yV (yV (Zv (OV.ak rfl rfl) (Nn (WC.cm rfl ?_)))));refine Csr (Za rfl (Nn (WC.ay ?_)));refine Xr ?_;exact WX.ret1 rfl rfl rfl (fun w' hw=>⟨by clear hw;rw [show nameB s=false from by unfold nameB;rw [decide_eq_false_iff_not];rintro ⟨h1,h2,h3,h4,h5,h6⟩;first | exact h1 (by assumption) | exact h3 (by assumption) | omega],hw.fr⟩)
 refine yW (Zm rfl (yW (Zv (OV.d9 (r:=bAt s 0) rfl rfl T.u9 ⟨by omega,bget hsz⟩) (yW (Zv (OV.ia rfl rfl) (Zv (OV.ai rfl rfl) (Nn ?_)))))));refine Cc rfl (fun c25=>?_) (fun c25=>?_)
 ·refine Csr (Za rfl (Nn (WC.ay ?_)));refine Xr ?_;exact WX.ret1 rfl rfl rfl (fun w' hw=>⟨by clear hw;rw [show nameB s=false from by unfold nameB;rw [decide_eq_false_iff_not];rintro ⟨h1,h2,h3,h4,h5,h6⟩;first | exact h1 (by assumption) | exact h3 (by assumption) | omega],hw.fr⟩)
 refine Ck (Xn (Cs (Csr (Zm rfl (Zv (OV.bg rfl T.u9) (Zm rfl (Nn (Cb ?_))))))))
 refine WC.bz (fun (i:Nat)=>[(0,.string s),(27,.int .i64 (s.size:Int)),(28,.int .i64 (i:Int))])
   (fun i w'=>(i≤s.size∧∀ j,j<i→letB (bAt s j)=true)∧Sat0 w ([]) w')
   (fun i=>s.size - i) 0 Y3 (fun w' hw=>⟨⟨by omega,by intro j hj;omega⟩,hw⟩) ?_
 intro i;refine WC.pure (fun hi=>?_);obtain ⟨hi,hz⟩:=hi;refine Csr (Zv (OV.cu rfl rfl) (Nn (Cs ?_)));refine Cc rfl (fun c29=>?_) (fun c29=>?_)
 ·refine Ck (Xn (Cs (Cb (Csr (Zm rfl (Za rfl (Nn (Csr (Zm rfl (Zm rfl ?_))))))))));obtain ⟨cb,hcb⟩:∃ cb,cb=bAt s i:=⟨_,rfl⟩
  refine Zv (OV.d9 (r:=cb) rfl rfl T.u9 ⟨by omega,by rw [hcb];exact bget (by omega)⟩) (Za rfl (Nn (Csr (Zm rfl (Zv (OV.fx rfl rfl) (Zm rfl ?_))))));refine Zp (t:=36) rfl (fun g36=>?_) (fun g36=>?_)
  ·refine yW (Zm rfl (yW (Zv (OV.ic rfl rfl) (Zv (OV.ak rfl rfl) (Zm rfl ?_)))));refine Zp (t:=40) rfl (fun g40=>?_) (fun g40=>?_)
   ·refine yV (yV (yV (Zu rfl rfl (Zu rfl rfl (yV (Zv (OV.ak rfl rfl) (Zm rfl (yV (yV (yV (Zu rfl rfl (Zu rfl rfl (yV (Zv (OV.ak rfl rfl) (Zm rfl (yV (yV (Zv (OV.ak rfl rfl) (Zv (OV.not rfl) (Nn (WC.ca rfl ?_)))))))))))))))))))));refine Ck (Xb (Xn (Cr (Zv (OV.bh (j:=1) rfl rfl (by omega)) (Zm rfl (Nl ?_))))));exact WX.au (i+1) Y3 (fun w' hw=>⟨⟨by omega,fun j hj=>by rcases Nat.lt_or_ge j i with h | h;exact hz j h;rw [show j=i by omega];rw [← hcb];unfold letB;rw [decide_eq_true_eq];omega⟩,hw⟩) (by show s.size - (i+1)<s.size - i;omega)
   refine yW (Zm rfl (yW (Zv (OV.fx rfl rfl) (yW (Zm rfl ?_)))));refine Zp (t:=43) rfl (fun g43=>?_) (fun g43=>?_)
   ·refine yW (Zm rfl (yW (Zv (OV.ic rfl rfl) (yW (Zv (OV.ak rfl rfl) (Zv (OV.ai rfl rfl) (Zm rfl ?_)))))));refine Zp (t:=48) rfl (fun g48=>?_) (fun g48=>?_)
    ·refine yV (yV (yV (Zu rfl rfl (Zu rfl rfl (yV (Zv (OV.ak rfl rfl) (Zm rfl (yV (yV (Zv (OV.ak rfl rfl) (Zv (OV.not rfl) (Nn (WC.ca rfl ?_)))))))))))));refine Ck (Xb (Xn (Cr (Zv (OV.bh (j:=1) rfl rfl (by omega)) (Zm rfl (Nl ?_))))));exact WX.au (i+1) Y3 (fun w' hw=>⟨⟨by omega,fun j hj=>by rcases Nat.lt_or_ge j i with h | h;exact hz j h;rw [show j=i by omega];rw [← hcb];unfold letB;rw [decide_eq_true_eq];omega⟩,hw⟩) (by show s.size - (i+1)<s.size - i;omega)
    refine yW (Zm rfl (yW (Zv (OV.fx rfl rfl) (yW (Zm rfl ?_)))));refine Zp (t:=51) rfl (fun g51=>?_) (fun g51=>?_)
    ·refine yW (Zm rfl (yW (Zv (OV.ic rfl rfl) (yW (Zv (OV.ak rfl rfl) (Zv (OV.ai rfl rfl) (Zm rfl ?_)))))));refine Zp (t:=56) rfl (fun g56=>?_) (fun g56=>?_)
     ·refine yV (yV (Zv (OV.ak rfl rfl) (Zv (OV.not rfl) (Nn (WC.ca rfl ?_)))));refine Ck (Xb (Xn (Cr (Zv (OV.bh (j:=1) rfl rfl (by omega)) (Zm rfl (Nl ?_))))));exact WX.au (i+1) Y3 (fun w' hw=>⟨⟨by omega,fun j hj=>by rcases Nat.lt_or_ge j i with h | h;exact hz j h;rw [show j=i by omega];rw [← hcb];unfold letB;rw [decide_eq_true_eq];omega⟩,hw⟩) (by show s.size - (i+1)<s.size - i;omega)
     refine yW (Zm rfl (yW (Zv (OV.dq rfl rfl) (Zv (OV.ai rfl rfl) (Zv (OV.not rfl) (Nn ?_))))));refine Cc rfl (fun c60=>?_) (fun c60=>?_)
     ·refine Csr (Za rfl (Nn (WC.ay ?_)));refine Xq (Xr (Xr (Xq (Xr ?_))));exact WX.ret1 rfl rfl rfl (fun w' hw=>⟨by clear hw;rw [Jeb (i:=i) (by omega) (by rw [← hcb];unfold letB;rw [decide_eq_true_eq];omega)],hw.fr⟩)
     refine Ck (Xb (Xn (Cr (Zv (OV.bh (j:=1) rfl rfl (by omega)) (Zm rfl (Nl ?_))))));exact WX.au (i+1) Y3 (fun w' hw=>⟨⟨by omega,fun j hj=>by rcases Nat.lt_or_ge j i with h | h;exact hz j h;rw [show j=i by omega];rw [← hcb];unfold letB;rw [decide_eq_true_eq];omega⟩,hw⟩) (by show s.size - (i+1)<s.size - i;omega)
    refine yV (yV (yW (Zv (OV.ai rfl rfl) (Zv (OV.ai rfl rfl) (Zm rfl (yW (Zm rfl (yW (Zv (OV.dq rfl rfl) (Zv (OV.ai rfl rfl) (Zv (OV.not rfl) (Nn ?_))))))))))));refine Cc rfl (fun c60=>?_) (fun c60=>?_)
    ·refine Csr (Za rfl (Nn (WC.ay ?_)));refine Xq (Xr (Xr (Xq (Xr ?_))));exact WX.ret1 rfl rfl rfl (fun w' hw=>⟨by clear hw;rw [Jeb (i:=i) (by omega) (by rw [← hcb];unfold letB;rw [decide_eq_true_eq];omega)],hw.fr⟩)
    refine Ck (Xb (Xn (Cr (Zv (OV.bh (j:=1) rfl rfl (by omega)) (Zm rfl (Nl ?_))))));exact WX.au (i+1) Y3 (fun w' hw=>⟨⟨by omega,fun j hj=>by rcases Nat.lt_or_ge j i with h | h;exact hz j h;rw [show j=i by omega];rw [← hcb];unfold letB;rw [decide_eq_true_eq];omega⟩,hw⟩) (by show s.size - (i+1)<s.size - i;omega)
   refine yV (yV (yW (Zv (OV.ai rfl rfl) (Zv (OV.ai rfl rfl) (Zm rfl (yW (Zm rfl (yW (Zv (OV.fx rfl rfl) (yW (Zm rfl ?_)))))))))));refine Zp (t:=51) rfl (fun g51=>?_) (fun g51=>?_)
   ·refine yW (Zm rfl (yW (Zv (OV.ic rfl rfl) (yW (Zv (OV.ak rfl rfl) (Zv (OV.ai rfl rfl) (Zm rfl ?_)))))));refine Zp (t:=56) rfl (fun g56=>?_) (fun g56=>?_)
    ·refine yV (yV (Zv (OV.ak rfl rfl) (Zv (OV.not rfl) (Nn (WC.ca rfl ?_)))));refine Ck (Xb (Xn (Cr (Zv (OV.bh (j:=1) rfl rfl (by omega)) (Zm rfl (Nl ?_))))));exact WX.au (i+1) Y3 (fun w' hw=>⟨⟨by omega,fun j hj=>by rcases Nat.lt_or_ge j i with h | h;exact hz j h;rw [show j=i by omega];rw [← hcb];unfold letB;rw [decide_eq_true_eq];omega⟩,hw⟩) (by show s.size - (i+1)<s.size - i;omega)
    refine yW (Zm rfl (yW (Zv (OV.dq rfl rfl) (Zv (OV.ai rfl rfl) (Zv (OV.not rfl) (Nn ?_))))));refine Cc rfl (fun c60=>?_) (fun c60=>?_)
    ·refine Csr (Za rfl (Nn (WC.ay ?_)));refine Xq (Xr (Xr (Xq (Xr ?_))));exact WX.ret1 rfl rfl rfl (fun w' hw=>⟨by clear hw;rw [Jeb (i:=i) (by omega) (by rw [← hcb];unfold letB;rw [decide_eq_true_eq];omega)],hw.fr⟩)
    refine Ck (Xb (Xn (Cr (Zv (OV.bh (j:=1) rfl rfl (by omega)) (Zm rfl (Nl ?_))))));exact WX.au (i+1) Y3 (fun w' hw=>⟨⟨by omega,fun j hj=>by rcases Nat.lt_or_ge j i with h | h;exact hz j h;rw [show j=i by omega];rw [← hcb];unfold letB;rw [decide_eq_true_eq];omega⟩,hw⟩) (by show s.size - (i+1)<s.size - i;omega)
   refine yV (yV (yW (Zv (OV.ai rfl rfl) (Zv (OV.ai rfl rfl) (Zm rfl (yW (Zm rfl (yW (Zv (OV.dq rfl rfl) (Zv (OV.ai rfl rfl) (Zv (OV.not rfl) (Nn ?_))))))))))));refine Cc rfl (fun c60=>?_) (fun c60=>?_)
   ·refine Csr (Za rfl (Nn (WC.ay ?_)));refine Xq (Xr (Xr (Xq (Xr ?_))));exact WX.ret1 rfl rfl rfl (fun w' hw=>⟨by clear hw;rw [Jeb (i:=i) (by omega) (by rw [← hcb];unfold letB;rw [decide_eq_true_eq];omega)],hw.fr⟩)
   refine Ck (Xb (Xn (Cr (Zv (OV.bh (j:=1) rfl rfl (by omega)) (Zm rfl (Nl ?_))))));exact WX.au (i+1) Y3 (fun w' hw=>⟨⟨by omega,fun j hj=>by rcases Nat.lt_or_ge j i with h | h;exact hz j h;rw [show j=i by omega];rw [← hcb];unfold letB;rw [decide_eq_true_eq];omega⟩,hw⟩) (by show s.size - (i+1)<s.size - i;omega)
  refine yV (yV (Zv (OV.ai rfl rfl) (Zm rfl (yW (Zm rfl (yW (Zv (OV.fx rfl rfl) (yW (Zm rfl ?_)))))))));refine Zp (t:=43) rfl (fun g43=>?_) (fun g43=>?_)
  ·refine yW (Zm rfl (yW (Zv (OV.ic rfl rfl) (yW (Zv (OV.ak rfl rfl) (Zv (OV.ai rfl rfl) (Zm rfl ?_)))))));refine Zp (t:=48) rfl (fun g48=>?_) (fun g48=>?_)
   ·refine yV (yV (yV (Zu rfl rfl (Zu rfl rfl (yV (Zv (OV.ak rfl rfl) (Zm rfl (yV (yV (Zv (OV.ak rfl rfl) (Zv (OV.not rfl) (Nn (WC.ca rfl ?_)))))))))))));refine Ck (Xb (Xn (Cr (Zv (OV.bh (j:=1) rfl rfl (by omega)) (Zm rfl (Nl ?_))))));exact WX.au (i+1) Y3 (fun w' hw=>⟨⟨by omega,fun j hj=>by rcases Nat.lt_or_ge j i with h | h;exact hz j h;rw [show j=i by omega];rw [← hcb];unfold letB;rw [decide_eq_true_eq];omega⟩,hw⟩) (by show s.size - (i+1)<s.size - i;omega)
   refine yW (Zm rfl (yW (Zv (OV.fx rfl rfl) (yW (Zm rfl ?_)))));refine Zp (t:=51) rfl (fun g51=>?_) (fun g51=>?_)
   ·refine yW (Zm rfl (yW (Zv (OV.ic rfl rfl) (yW (Zv (OV.ak rfl rfl) (Zv (OV.ai rfl rfl) (Zm rfl ?_)))))));refine Zp (t:=56) rfl (fun g56=>?_) (fun g56=>?_)
    ·refine yV (yV (Zv (OV.ak rfl rfl) (Zv (OV.not rfl) (Nn (WC.ca rfl ?_)))));refine Ck (Xb (Xn (Cr (Zv (OV.bh (j:=1) rfl rfl (by omega)) (Zm rfl (Nl ?_))))));exact WX.au (i+1) Y3 (fun w' hw=>⟨⟨by omega,fun j hj=>by rcases Nat.lt_or_ge j i with h | h;exact hz j h;rw [show j=i by omega];rw [← hcb];unfold letB;rw [decide_eq_true_eq];omega⟩,hw⟩) (by show s.size - (i+1)<s.size - i;omega)
    refine yW (Zm rfl (yW (Zv (OV.dq rfl rfl) (Zv (OV.ai rfl rfl) (Zv (OV.not rfl) (Nn ?_))))));refine Cc rfl (fun c60=>?_) (fun c60=>?_)
    ·refine Csr (Za rfl (Nn (WC.ay ?_)));refine Xq (Xr (Xr (Xq (Xr ?_))));exact WX.ret1 rfl rfl rfl (fun w' hw=>⟨by clear hw;rw [Jeb (i:=i) (by omega) (by rw [← hcb];unfold letB;rw [decide_eq_true_eq];omega)],hw.fr⟩)
    refine Ck (Xb (Xn (Cr (Zv (OV.bh (j:=1) rfl rfl (by omega)) (Zm rfl (Nl ?_))))));exact WX.au (i+1) Y3 (fun w' hw=>⟨⟨by omega,fun j hj=>by rcases Nat.lt_or_ge j i with h | h;exact hz j h;rw [show j=i by omega];rw [← hcb];unfold letB;rw [decide_eq_true_eq];omega⟩,hw⟩) (by show s.size - (i+1)<s.size - i;omega)
   refine yV (yV (yW (Zv (OV.ai rfl rfl) (Zv (OV.ai rfl rfl) (Zm rfl (yW (Zm rfl (yW (Zv (OV.dq rfl rfl) (Zv (OV.ai rfl rfl) (Zv (OV.not rfl) (Nn ?_))))))))))));refine Cc rfl (fun c60=>?_) (fun c60=>?_)
   ·refine Csr (Za rfl (Nn (WC.ay ?_)));refine Xq (Xr (Xr (Xq (Xr ?_))));exact WX.ret1 rfl rfl rfl (fun w' hw=>⟨by clear hw;rw [Jeb (i:=i) (by omega) (by rw [← hcb];unfold letB;rw [decide_eq_true_eq];omega)],hw.fr⟩)
   refine Ck (Xb (Xn (Cr (Zv (OV.bh (j:=1) rfl rfl (by omega)) (Zm rfl (Nl ?_))))));exact WX.au (i+1) Y3 (fun w' hw=>⟨⟨by omega,fun j hj=>by rcases Nat.lt_or_ge j i with h | h;exact hz j h;rw [show j=i by omega];rw [← hcb];unfold letB;rw [decide_eq_true_eq];omega⟩,hw⟩) (by show s.size - (i+1)<s.size - i;omega)
  refine yV (yV (yW (Zv (OV.ai rfl rfl) (Zv (OV.ai rfl rfl) (Zm rfl (yW (Zm rfl (yW (Zv (OV.fx rfl rfl) (yW (Zm rfl ?_)))))))))));refine Zp (t:=51) rfl (fun g51=>?_) (fun g51=>?_)
  ·refine yW (Zm rfl (yW (Zv (OV.ic rfl rfl) (yW (Zv (OV.ak rfl rfl) (Zv (OV.ai rfl rfl) (Zm rfl ?_)))))));refine Zp (t:=56) rfl (fun g56=>?_) (fun g56=>?_)
   ·refine yV (yV (Zv (OV.ak rfl rfl) (Zv (OV.not rfl) (Nn (WC.ca rfl ?_)))));refine Ck (Xb (Xn (Cr (Zv (OV.bh (j:=1) rfl rfl (by omega)) (Zm rfl (Nl ?_))))));exact WX.au (i+1) Y3 (fun w' hw=>⟨⟨by omega,fun j hj=>by rcases Nat.lt_or_ge j i with h | h;exact hz j h;rw [show j=i by omega];rw [← hcb];unfold letB;rw [decide_eq_true_eq];omega⟩,hw⟩) (by show s.size - (i+1)<s.size - i;omega)
   refine yW (Zm rfl (yW (Zv (OV.dq rfl rfl) (Zv (OV.ai rfl rfl) (Zv (OV.not rfl) (Nn ?_))))));refine Cc rfl (fun c60=>?_) (fun c60=>?_)
   ·refine Csr (Za rfl (Nn (WC.ay ?_)));refine Xq (Xr (Xr (Xq (Xr ?_))));exact WX.ret1 rfl rfl rfl (fun w' hw=>⟨by clear hw;rw [Jeb (i:=i) (by omega) (by rw [← hcb];unfold letB;rw [decide_eq_true_eq];omega)],hw.fr⟩)
   refine Ck (Xb (Xn (Cr (Zv (OV.bh (j:=1) rfl rfl (by omega)) (Zm rfl (Nl ?_))))));exact WX.au (i+1) Y3 (fun w' hw=>⟨⟨by omega,fun j hj=>by rcases Nat.lt_or_ge j i with h | h;exact hz j h;rw [show j=i by omega];rw [← hcb];unfold letB;rw [decide_eq_true_eq];omega⟩,hw⟩) (by show s.size - (i+1)<s.size - i;omega)
  refine yV (yV (yW (Zv (OV.ai rfl rfl) (Zv (OV.ai rfl rfl) (Zm rfl (yW (Zm rfl (yW (Zv (OV.dq rfl rfl) (Zv (OV.ai rfl rfl) (Zv (OV.not rfl) (Nn ?_))))))))))));refine Cc rfl (fun c60=>?_) (fun c60=>?_)
  ·refine Csr (Za rfl (Nn (WC.ay ?_)));refine Xq (Xr (Xr (Xq (Xr ?_))));exact WX.ret1 rfl rfl rfl (fun w' hw=>⟨by clear hw;rw [Jeb (i:=i) (by omega) (by rw [← hcb];unfold letB;rw [decide_eq_true_eq];omega)],hw.fr⟩)
  refine Ck (Xb (Xn (Cr (Zv (OV.bh (j:=1) rfl rfl (by omega)) (Zm rfl (Nl ?_))))));exact WX.au (i+1) Y3 (fun w' hw=>⟨⟨by omega,fun j hj=>by rcases Nat.lt_or_ge j i with h | h;exact hz j h;rw [show j=i by omega];rw [← hcb];unfold letB;rw [decide_eq_true_eq];omega⟩,hw⟩) (by show s.size - (i+1)<s.size - i;omega)
 refine Ce (Xe (Xe (Xh (Xn (Csr (Za rfl (Nn (WC.ay ?_))))))));exact WX.ret1 rfl rfl rfl (fun w' hw=>⟨by clear hw;rw [show nameB s=true from by unfold nameB;rw [decide_eq_true_eq];exact ⟨by assumption,by omega,by assumption,by omega,by omega,fun j hj=>hz j (by omega)⟩],hw.fr⟩)
theorem Jg2 (t:Tm)(w:World):Calls Tryz.prog 224 #[tmV t] w fun e w'=>e=.returned (.bool (badB t))∧Fr0 w w':=by
 refine Jbi (args:=[tmV t]) (fun _=>False) Tryz.func224 rfl Tryz.ntmps224 rfl rfl ?_;refine Csr (WL.box rfl rfl rfl ?_);intro b1;refine Za rfl (Nn (Csr (Zv (OV.lN (cs:=tmC t) rfl T.u23 rfl T.z23 yF) (WL.aw (v:=.bool (Jcn t)) (by kernel_rfl) rfl rfl (fun w' hw'=>Jdn t w') ?_))));refine Zv (OV.not rfl) (Zm rfl ?_);refine Zp (t:=6) rfl (fun g6=>?_) (fun g6=>?_)
 ·refine yW (Zv (OV.lN (cs:=tmC t) rfl T.u23 rfl T.z23 yF) (yW (WL.aw (v:=.bool (varB t)) (by kernel_rfl) rfl rfl (fun w' hw'=>Jcr t w') ?_)));refine yW (Zv (OV.not rfl) (Zv (OV.ak rfl rfl) (Za rfl (Nn (WC.ay ?_)))));exact WX.ret1 rfl rfl rfl (fun w' hw=>⟨by clear hw;simp_all [badB],hw.fr⟩)
 refine yV (yV (yV (Zv (OV.ai rfl rfl) (Za rfl (Nn (WC.ay ?_))))));exact WX.ret1 rfl rfl rfl (fun w' hw=>⟨by clear hw;simp_all [badB],hw.fr⟩)
theorem indexF_calls (p:Tm→Bool)(g:Nat)(hg:bodied Tryz.prog g=true)(ts:List Tm)(a:Option Addr)(c:Nat)(hl:ts.length≤1099511627776)(w:World)(hr:RT w a ts)(hp:∀ t w',Keeps w w'→Calls Tryz.prog g #[tmV t] w' fun e w''=>e=.returned (.bool (p t))∧Fr0 w' w''):Calls Tryz.prog 225 #[.slice a ts.length c,.func (.func g) #[] #[]] w fun e w'=>∃ k:Int,e=.returned (.int .i64 k)∧(0≤k↔ts.any p=true)∧Fr0 w w':=by
 refine Jbi (args:=[.slice a ts.length c,.func (.func g) #[] #[]]) (fun _=>False) Tryz.func225 rfl Tryz.ntmps225 rfl rfl ?_;refine Csr (Za rfl (Nn (Cs (Csr (Zm rfl (Zv (OV.ad rfl T.u24) (Zm rfl (Nn (Cb ?_)))))))))
 refine WC.bz (fun (i:Nat)=>[(0,.slice a ts.length c),(1,.func (.func g) #[] #[]),(7,.int .i64 (ts.length:Int)),(8,.int .i64 (i:Int))])
   (fun i w'=>(i≤ts.length∧∀ (j:Nat) u,j<i→ts[j]?=some u→p u=false)∧Sat0 w ([]) w')
   (fun i=>ts.length - i) 0 Y4 (fun w' hw=>⟨⟨by omega,by intro j u hj;omega⟩,hw⟩) ?_
 intro i;refine WC.pure (fun hi=>?_);obtain ⟨hi,hz⟩:=hi;refine Csr (Zv (OV.cu rfl rfl) (Nn (Cs ?_)));refine Cc rfl (fun c9=>?_) (fun c9=>?_)
 ·refine Ck (Xn (Cs (Cb (Csr (Zm rfl (Za rfl (Nn (Csr (Zm rfl (Zm rfl (Zm rfl ?_)))))))))));obtain ⟨q1,t,rfl,ht,htm,htd,hcell⟩:=hr.get (i:=i) (by omega);refine Zv ((OV.ae rfl rfl T.u24 T.z23 (by omega)).cast (u:=.pointer (some (q1.add (i*3)))) (by rw [xN])) (Zv (OV.am (cs:=tmC t) rfl T.u23 rfl T.z23 (fun _ hw j v hj=>hw.keeps _ _ (hcell j v hj))) (WL.ew (ι:=Unit) (f:=g) (caps:=[]) (vs:=[tmV t]) (vv:=fun _=>.bool (p t)) (SS:=fun _=>Sat0 w ([])) hg rfl rfl rfl (fun w' hw'=>(hp t w' hw'.keeps).mono (fun en w'' ⟨h1,h2⟩=>⟨(),h1,hw'.keep h2⟩)) ?_));intro _;refine Nn ?_;refine Cc rfl (fun c16=>?_) (fun c16=>?_)
  ·refine Csr (Zm rfl (Za rfl (Nn (WC.ay ?_))));refine Xq (Xr (Xr (Xq (Xr ?_))));exact WX.ret1 rfl rfl rfl (fun w' hw=>⟨(i:Int),rfl,⟨fun _=>List.any_eq_true.2 ⟨t,htm,c16⟩,fun _=>by omega⟩,hw.fr⟩)
  refine Ck (Xb (Xn (Cr (Zv (OV.bh (j:=1) rfl rfl (by omega)) (Zm rfl (Nl ?_))))))
  exact WX.au (i+1) Y4 (fun w' hw=>⟨⟨by omega,fun j u hj hu=>by
   rcases Nat.lt_or_ge j i with h | h
   ·exact hz j u h hu
   ·rw [show j=i by omega] at hu;rw [← xH (ht.symm.trans hu)]
    simpa using c16⟩,hw⟩) (by show ts.length - (i+1)<ts.length - i;omega)
 refine Ce (Xe (Xe (Xh (Xn (Csr (Za rfl (Nn (WC.ay ?_))))))))
 exact WX.ret1 rfl rfl rfl (fun w' hw=>⟨-1,rfl,⟨fun h=>absurd h (by omega),fun h=>by
  obtain ⟨u,hu,hpu⟩:=List.any_eq_true.1 h;obtain ⟨j,hj⟩:=List.mem_iff_getElem?.1 hu;rw [hz j u (by have:=(List.getElem?_eq_some_iff.1 hj).1;omega) hj] at hpu;cases hpu⟩,hw.fr⟩)
theorem Jfn (p:Tm→Bool)(g:Nat)(hg:bodied Tryz.prog g=true)(ts:List Tm)(a:Option Addr)(c:Nat)(hl:ts.length≤1099511627776)(w:World)(hr:RT w a ts)(hp:∀ t w',Keeps w w'→Calls Tryz.prog g #[tmV t] w' fun e w''=>e=.returned (.bool (p t))∧Fr0 w' w''):Calls Tryz.prog 196 #[.slice a ts.length c,.func (.func g) #[] #[]] w fun e w'=>e=.returned (.bool (ts.any p))∧Fr0 w w':=by
 refine Jbi (args:=[.slice a ts.length c,.func (.func g) #[] #[]]) (fun _=>False) Tryz.func196 rfl Tryz.ntmps196 rfl rfl ?_;refine Csr (Za rfl (Nn (Csr (Zm rfl (Zm rfl (WL.i5 (ι:=Int) (vs:=[.slice a ts.length c,.func (.func g) #[] #[]]) (vv:=fun k=>.int .i64 k) (SS:=fun k w'=>(0≤k↔ts.any p=true)∧Sat0 w ([]) w') (by kernel_rfl) rfl rfl (fun w' hw'=>(indexF_calls p g hg ts a c hl w' (hr.keeps hw'.keeps) (fun t w'' hk=>hp t w'' (hw'.keeps.trans hk))).mono (fun en w'' ⟨k,h1,h2,h3⟩=>⟨k,h1,h2,hw'.keep h3⟩)) ?_))))));intro k;refine WL.pure (fun hk=>?_);refine Zv (OV.fx rfl rfl) (Za rfl (Nn (WC.ay ?_)));exact WX.ret1 rfl rfl rfl (fun w' hw=>⟨by congr 2;rw [Bool.eq_iff_iff,decide_eq_true_eq];exact hk,hw.fr⟩)
theorem chkA_calls (x:At)(a:Option Addr)(c:Nat)(hl:x.args.length≤1099511627776)(hs:x.name.size≤1099511627776)(w:World)(hN:Jdi w)(hr:RT w a x.args):Calls Tryz.prog 195 #[atV x a c] w fun e w'=>e=.returned (.int .i64 (chkA x))∧Fr0 w w':=by
 refine Jbi (args:=[atV x a c]) (fun _=>False) Tryz.func195 rfl Tryz.ntmps195 rfl rfl ?_;refine Csr (WL.box rfl rfl rfl ?_);intro b1;refine Za rfl (Nn (Cs (Cb (Csr (Zv (OV.f0 3 rfl T.u26 rfl) (Zv (OV.ap rfl T.u9 rfl (fun _ hw=>Jbp hw yF rfl)) (WL.aw (v:=.bool (nameB x.name)) (by kernel_rfl) rfl rfl (fun w' hw'=>name_calls x.name hs w') ?_)))))));refine Zv (OV.not rfl) (Za rfl (Nn ?_));refine Cc rfl (fun c3=>?_) (fun c3=>?_)
 ·refine Csr (Za rfl (Nn (WC.ay ?_)));refine Xq (Xr ?_);exact WX.ret1 rfl rfl rfl (fun w' hw=>⟨by clear hw;congr 2;simp_all [chkA] <;> (repeat' split) <;> first | omega | (exfalso;omega) | (rename_i hh;obtain ⟨y,h1,h2⟩:=hh;rw [c30 y h1] at h2;cases h2) | simp_all,hw.fr⟩)
 refine Csr (Zv (OV.f0 4 rfl T.u26 rfl) (Zv (OV.ap rfl T.u24 rfl (fun _ hw=>Jbp hw yF rfl)) (Zv (OV.ad rfl T.u24) (Zv (OV.ia rfl rfl) (Za rfl (Nn ?_))))));refine Cc rfl (fun c8=>?_) (fun c8=>?_)
 ·refine Csr (Za rfl (Nn (WC.ay ?_)));refine Xq (Xr ?_);exact WX.ret1 rfl rfl rfl (fun w' hw=>⟨by clear hw;congr 2;simp_all [chkA] <;> (repeat' split) <;> first | omega | (exfalso;omega) | (rename_i hh;obtain ⟨y,h1,h2⟩:=hh;rw [c30 y h1] at h2;cases h2) | simp_all,hw.fr⟩)
 refine Csr (Zv (OV.f0 0 rfl T.u26 rfl) (Zv (OV.am (cs:=tmC x.b) rfl T.u23 rfl T.z23 (fun _ hw j v hj=>by rw [Jav];exact Jbk hw yF (o:=0) (cs':=tmC x.b) rfl j v hj)) (Zv (OV.am (cs:=tmC T0) rfl T.u23 rfl T.z23 (fun _ hw j v hj=>by rw [Jav,xM];exact hw.keeps _ _ (hN j v hj))) (Zv (OV.i7 (a:=x.b) (b:=T0) rfl rfl) (Zm rfl ?_)))));refine Zp (t:=18) rfl (fun g18=>?_) (fun g18=>?_)
 ·refine yW (Zv (OV.f0 0 rfl T.u26 rfl) (yW (Zv (OV.am (cs:=tmC x.b) rfl T.u23 rfl T.z23 (fun _ hw j v hj=>by rw [Jav];exact Jbk hw yF (o:=0) (cs':=tmC x.b) rfl j v hj)) (yW (WL.aw (v:=.bool (prinB x.b)) (by kernel_rfl) rfl rfl (fun w' hw'=>prin_calls x.b w') ?_)))));refine yW (Zv (OV.not rfl) (Zv (OV.ak rfl rfl) (Zm rfl ?_)));refine Zp (t:=24) rfl (fun g24=>?_) (fun g24=>?_)
  ·refine yW (Zv (OV.f0 0 rfl T.u26 rfl) (yW (Zv (OV.am (cs:=tmC x.b) rfl T.u23 rfl T.z23 (fun _ hw j v hj=>by rw [Jav];exact Jbk hw yF (o:=0) (cs':=tmC x.b) rfl j v hj)) (yW (WL.aw (v:=.bool (varB x.b)) (by kernel_rfl) rfl rfl (fun w' hw'=>Jcr x.b w') ?_)))));refine yW (Zv (OV.not rfl) (Zv (OV.ak rfl rfl) (Za rfl (Nn ?_))));refine Cc rfl (fun c13=>?_) (fun c13=>?_)
   ·refine Csr (Za rfl (Nn (WC.ay ?_)));refine Xq (Xr ?_);exact WX.ret1 rfl rfl rfl (fun w' hw=>⟨by clear hw;congr 2;simp_all [chkA] <;> (repeat' split) <;> first | omega | (exfalso;omega) | (rename_i hh;obtain ⟨y,h1,h2⟩:=hh;rw [c30 y h1] at h2;cases h2) | simp_all,hw.fr⟩)
   refine Csr (Zv (OV.f0 4 rfl T.u26 rfl) (Zv (OV.ap rfl T.u24 rfl (fun _ hw=>Jbp hw yF rfl)) (WL.c0 (v:=.bool (x.args.any badB)) (vs:=[.slice a x.args.length c,.func (.func 224) #[] #[]]) (fun w' hw'=>Jfn badB 224 (by kernel_rfl) x.args a c hl w' (hr.keeps hw'.keeps) (fun t w'' _=>Jg2 t w'')) ?_)));refine Za rfl (Nn ?_);refine Cc rfl (fun c30=>?_) (fun c30=>?_)
   ·refine Csr (Za rfl (Nn (WC.ay ?_)));refine Xq (Xr ?_);exact WX.ret1 rfl rfl rfl (fun w' hw=>⟨by clear hw;congr 2;simp_all [chkA] <;> (repeat' split) <;> first | omega | (exfalso;omega) | (rename_i hh;obtain ⟨y,h1,h2⟩:=hh;rw [c30 y h1] at h2;cases h2) | simp_all,hw.fr⟩)
   refine Ck (Xb (Xn (Csr (Za rfl (Nn (WC.ay ?_))))));exact WX.ret1 rfl rfl rfl (fun w' hw=>⟨by clear hw;congr 2;simp_all [chkA] <;> (repeat' split) <;> first | omega | (exfalso;omega) | (rename_i hh;obtain ⟨y,h1,h2⟩:=hh;rw [c30 y h1] at h2;cases h2) | simp_all,hw.fr⟩)
  refine yV (yV (yV (yV (Zv (OV.ai rfl rfl) (Za rfl (Nn (WC.ca rfl ?_)))))));refine Csr (Zv (OV.f0 4 rfl T.u26 rfl) (Zv (OV.ap rfl T.u24 rfl (fun _ hw=>Jbp hw yF rfl)) (WL.c0 (v:=.bool (x.args.any badB)) (vs:=[.slice a x.args.length c,.func (.func 224) #[] #[]]) (fun w' hw'=>Jfn badB 224 (by kernel_rfl) x.args a c hl w' (hr.keeps hw'.keeps) (fun t w'' _=>Jg2 t w'')) ?_)));refine Za rfl (Nn ?_);refine Cc rfl (fun c30=>?_) (fun c30=>?_)
  ·refine Csr (Za rfl (Nn (WC.ay ?_)));refine Xq (Xr ?_);exact WX.ret1 rfl rfl rfl (fun w' hw=>⟨by clear hw;congr 2;simp_all [chkA] <;> (repeat' split) <;> first | omega | (exfalso;omega) | (rename_i hh;obtain ⟨y,h1,h2⟩:=hh;rw [c30 y h1] at h2;cases h2) | simp_all,hw.fr⟩)
  refine Ck (Xb (Xn (Csr (Za rfl (Nn (WC.ay ?_))))));exact WX.ret1 rfl rfl rfl (fun w' hw=>⟨by clear hw;congr 2;simp_all [chkA] <;> (repeat' split) <;> first | omega | (exfalso;omega) | (rename_i hh;obtain ⟨y,h1,h2⟩:=hh;rw [c30 y h1] at h2;cases h2) | simp_all,hw.fr⟩)
 refine yV (yV (yV (yV (Zv (OV.ai rfl rfl) (Zm rfl (yV (yV (yV (yV (Zv (OV.ai rfl rfl) (Za rfl (Nn (WC.ca rfl ?_)))))))))))));refine Csr (Zv (OV.f0 4 rfl T.u26 rfl) (Zv (OV.ap rfl T.u24 rfl (fun _ hw=>Jbp hw yF rfl)) (WL.c0 (v:=.bool (x.args.any badB)) (vs:=[.slice a x.args.length c,.func (.func 224) #[] #[]]) (fun w' hw'=>Jfn badB 224 (by kernel_rfl) x.args a c hl w' (hr.keeps hw'.keeps) (fun t w'' _=>Jg2 t w'')) ?_)));refine Za rfl (Nn ?_);refine Cc rfl (fun c30=>?_) (fun c30=>?_)
 ·refine Csr (Za rfl (Nn (WC.ay ?_)));refine Xq (Xr ?_);exact WX.ret1 rfl rfl rfl (fun w' hw=>⟨by clear hw;congr 2;simp_all [chkA] <;> (repeat' split) <;> first | omega | (exfalso;omega) | (rename_i hh;obtain ⟨y,h1,h2⟩:=hh;rw [c30 y h1] at h2;cases h2) | simp_all,hw.fr⟩)
 refine Ck (Xb (Xn (Csr (Za rfl (Nn (WC.ay ?_))))));exact WX.ret1 rfl rfl rfl (fun w' hw=>⟨by clear hw;congr 2;simp_all [chkA] <;> (repeat' split) <;> first | omega | (exfalso;omega) | (rename_i hh;obtain ⟨y,h1,h2⟩:=hh;rw [c30 y h1] at h2;cases h2) | simp_all,hw.fr⟩)
structure CmpOK {α:Type} (f:α→α→Int):Prop where
 refl:∀ a,f a a=0
 anti:∀ a b,f b a=- f a b
 tr:∀ a b c,f a b<0→f b c<0→f a c<0
 eq:∀ a b,f a b=0→a=b
theorem cmpN_ok:CmpOK cmpN where
 refl a:=by unfold cmpN;omega
 anti a b:=by unfold cmpN;split <;> split <;> omega
 tr a b c:=by unfold cmpN;intro h1 h2;split at h1 <;> split at h2 <;> (try split) <;> (try split at h1) <;> (try split at h2) <;> (try split) <;> omega
 eq a b:=by unfold cmpN;intro h;split at h <;> (try split at h) <;> omega
theorem CmpOK.lex {α β:Type}{f:α→α→Int}{g:β→β→Int}(hf:CmpOK f)(hg:CmpOK g):CmpOK (fun a b:α × β=>if f a.1 b.1≠0 then f a.1 b.1 else g a.2 b.2) where
 refl a:=by simp [hf.refl,hg.refl]
 anti a b:=by
  (try simp only)
  by_cases h:f a.1 b.1=0
  ·rw [if_neg (by rw [hf.anti,h];simp),if_neg (by simp [h]),hg.anti]
  ·rw [if_pos (by rw [hf.anti];omega),if_pos h,hf.anti]
 tr a b c:=by
  (try simp only)
  intro h1 h2
  by_cases e1:f a.1 b.1=0
  ·rw [if_neg (by simp [e1])] at h1;have:=hf.eq _ _ e1;rw [this]
   by_cases e2:f b.1 c.1=0
   ·rw [if_neg (by simp [e2])] at h2 ⊢;exact hg.tr _ _ _ h1 h2
   ·rw [if_pos e2] at h2 ⊢;exact h2
  ·rw [if_pos e1] at h1
   by_cases e2:f b.1 c.1=0
   ·have:=hf.eq _ _ e2;rw [← this,if_pos e1];exact h1
   ·rw [if_pos e2] at h2;have h3:=hf.tr _ _ _ h1 h2;rw [if_pos (by omega)];exact h3
 eq a b:=by
  (try simp only)
  intro h
  by_cases e1:f a.1 b.1=0
  ·rw [if_neg (by simp [e1])] at h;exact Prod.ext (hf.eq _ _ e1) (hg.eq _ _ h)
  ·rw [if_pos e1] at h;exact absurd h e1
theorem CmpOK.pull {α β:Type}{f:β→β→Int}(hf:CmpOK f)(m:α→β)(hm:∀ a b,m a=m b→a=b):CmpOK (fun a b=>f (m a) (m b)):=
 ⟨fun a=>hf.refl _,fun a b=>hf.anti _ _,fun a b c h1 h2=>hf.tr _ _ _ h1 h2,fun a b h=>hm _ _ (hf.eq _ _ h)⟩
theorem CmpOK.swo {α:Type}{f:α→α→Int}(hf:CmpOK f):Go.Sort.SWO (Go.Proofs.ltOf f) where
 irrefl a:=by simp [Go.Proofs.ltOf,hf.refl]
 trans a b c h1 h2:=by simp only [Go.Proofs.ltOf,decide_eq_true_eq] at *;exact hf.tr _ _ _ h1 h2
 ntrans a b c h1 h2:=by
  simp only [Go.Proofs.ltOf,decide_eq_false_iff_not] at *;intro h;have e1:=hf.anti a c;rcases Int.lt_trichotomy (f a b) 0 with h3 | h3 | h3
  ·exact h1 h3
  ·have:=hf.eq _ _ h3;rw [this] at h;exact h2 h
  ·have h4:f b a<0:=by rw [hf.anti];omega
   have h5:=hf.tr _ _ _ h4 h;exact h2 h5
def Jbs {α:Type}(f:α→α→Int):List α→List α→Int
 | [],[]=>0
 | [],_::_=>-1
 | _::_,[]=>1
 | a::ls,b::ms=>if f a b≠0 then f a b else Jbs f ls ms
theorem cmpList_refl {α:Type}{f:α→α→Int}(hf:CmpOK f):∀ a,Jbs f a a=0
 | []=>rfl
 | a::ls=>by rw [Jbs,hf.refl];simpa using cmpList_refl hf ls
theorem cmpList_anti {α:Type}{f:α→α→Int}(hf:CmpOK f):∀ a b,Jbs f b a=- Jbs f a b
 | [],[]=>rfl
 | [],_::_=>rfl
 | _::_,[]=>rfl
 | a::ls,b::ms=>by
  rw [Jbs,Jbs,hf.anti a b]
  by_cases h:f a b=0
  ·rw [if_neg (by simp [h]),if_neg (by simp [h])];exact cmpList_anti hf ls ms
  ·rw [if_pos (by omega),if_pos h]
theorem cmpList_eq {α:Type}{f:α→α→Int}(hf:CmpOK f):∀ a b,Jbs f a b=0→a=b
 | [],[],_=>rfl
 | [],_::_,h=>by simp [Jbs] at h
 | _::_,[],h=>by simp [Jbs] at h
 | a::ls,b::ms,h=>by
  rw [Jbs] at h
  by_cases h1:f a b=0
  ·rw [if_neg (by simp [h1])] at h;rw [hf.eq _ _ h1,cmpList_eq hf ls ms h]
  ·rw [if_pos h1] at h;exact absurd h h1
theorem cmpList_tr {α:Type}{f:α→α→Int}(hf:CmpOK f):∀ a b c,Jbs f a b<0→Jbs f b c<0→Jbs f a c<0
 | [],[],_,h,_=>by simp [Jbs] at h
 | [],_::_,[],_,h=>by simp [Jbs] at h
 | [],_::_,_::_,_,_=>by simp [Jbs]
 | _::_,[],_,h,_=>by simp [Jbs] at h
 | _::_,_::_,[],_,h=>by simp [Jbs] at h
 | a::ls,b::ms,c::ns,h1,h2=>by
  rw [Jbs] at *
  by_cases e1:f a b=0
  ·rw [if_neg (by simp [e1])] at h1;have:=hf.eq _ _ e1;subst this
   by_cases e2:f a c=0
   ·rw [if_neg (by simp [e2])] at h2 ⊢;exact cmpList_tr hf ls ms ns h1 h2
   ·rw [if_pos e2] at h2 ⊢;exact h2
  ·rw [if_pos e1] at h1
   by_cases e2:f b c=0
   ·have:=hf.eq _ _ e2;subst this;rw [if_pos e1];exact h1
   ·rw [if_pos e2] at h2;have h3:=hf.tr _ _ _ h1 h2;rw [if_pos (by omega)];exact h3
theorem Jfh {α:Type}{f:α→α→Int}(hf:CmpOK f):CmpOK (Jbs f):=⟨cmpList_refl hf,cmpList_anti hf,cmpList_tr hf,cmpList_eq hf⟩
theorem u8_ok:CmpOK (fun a b:UInt8=>cmpN a.toNat b.toNat):=cmpN_ok.pull (fun a:UInt8=>(a.toNat:Int)) (fun a b h=>UInt8.toNat_inj.1 (Int.ofNat.inj h))
theorem cmp_step (m n:Nat)(c d:Int)(h:c=d):(if m<n then (-1:Int) else if n<m then 1 else c)=if cmpN m n≠0 then cmpN m n else d:=by
 subst h;unfold cmpN
 by_cases h1:m<n
 ·have h1':(m:Int)<n:=by omega
  simp [h1,h1']
 ·have h1':¬ (m:Int)<n:=by omega
  by_cases h2:n<m
  ·have h2':(n:Int)<m:=by omega
   simp [h1,h2,h1',h2']
  ·have h2':¬ (n:Int)<m:=by omega
   simp [h1,h2,h1',h2']
theorem compareBytes_eq:∀ a b:List UInt8,Lib.compareBytes a b=Jbs (fun a b:UInt8=>cmpN a.toNat b.toNat) a b
 | [],[]=>rfl
 | [],_::_=>rfl
 | _::_,[]=>rfl
 | a::l,b::m=>by
  rw [Lib.compareBytes,Jbs];exact cmp_step a.toNat b.toNat _ _ (compareBytes_eq l m)
theorem ba_ext {a b:ByteArray}(h:a.data.toList=b.data.toList):a=b:=by
 obtain ⟨⟨a⟩⟩:=a;obtain ⟨⟨b⟩⟩:=b;simp at h;rw [h]
theorem cmpS_ok:CmpOK cmpS:=by
 have h:=(Jfh u8_ok).pull (fun s:ByteArray=>s.data.toList) (fun a b h=>ba_ext h)
 have e:cmpS=fun a b:ByteArray=>Jbs (fun a b:UInt8=>cmpN a.toNat b.toNat) a.data.toList b.data.toList:=by
  funext a b;exact compareBytes_eq _ _
 rw [e];exact h
theorem Jiy:CmpOK cmpT:=by
 have h:=(cmpN_ok.lex (cmpN_ok.lex cmpS_ok)).pull (fun t:Tm=>(t.kind,t.n,t.s)) (fun a b h=>by cases a;cases b;simp at h;simp [h])
 have e:cmpT=fun a b:Tm=>if cmpN a.kind b.kind≠0 then cmpN a.kind b.kind else if cmpN a.n b.n≠0 then cmpN a.n b.n else cmpS a.s b.s:=by
  funext a b;simp only [cmpT,orL];split <;> (try rfl);split <;> (try rfl);split <;> omega
 rw [e];exact h
def cmpA (x y:At):Int:=if orL [cmpS x.name y.name,cmpN x.args.length y.args.length,cmpT x.b y.b]≠0 then orL [cmpS x.name y.name,cmpN x.args.length y.args.length,cmpT x.b y.b] else Jbs cmpT x.args y.args
theorem or3 (a b c d:Int):(if orL [a,b,c]≠0 then orL [a,b,c] else d)=if a≠0 then a else if b≠0 then b else if c≠0 then c else d:=by
 simp only [orL]
 by_cases h1:a=0
 ·by_cases h2:b=0
  ·by_cases h3:c=0 <;> simp [h1,h2,h3]
  ·simp [h1,h2]
 ·simp [h1]
theorem cmpA_eq (x y:At):cmpA x y=if cmpS x.name y.name≠0 then cmpS x.name y.name else if cmpN x.args.length y.args.length≠0 then cmpN x.args.length y.args.length else if cmpT x.b y.b≠0 then cmpT x.b y.b else Jbs cmpT x.args y.args:=or3 _ _ _ _
theorem cmpA_ok:CmpOK cmpA:=by
 have hl:CmpOK (fun a b:List Tm=>if cmpN a.length b.length≠0 then cmpN a.length b.length else Jbs cmpT a b):=by
  have hh:=Jfh Jiy;refine ⟨fun a=>by simp [cmpN_ok.refl,hh.refl],fun a b=>?_,fun a b c h1 h2=>?_,fun a b h=>?_⟩
  ·(try simp only)
   by_cases h:cmpN (a.length:Int) b.length=0
   ·rw [if_neg (by rw [cmpN_ok.anti,h];simp),if_neg (by simp [h]),hh.anti]
   ·rw [if_pos (by rw [cmpN_ok.anti];omega),if_pos h,cmpN_ok.anti]
  ·(try simp only at *)
   by_cases e1:cmpN (a.length:Int) b.length=0
   ·rw [if_neg (by simp [e1])] at h1;have hl:=cmpN_ok.eq _ _ e1;rw [hl]
    by_cases e2:cmpN (b.length:Int) c.length=0
    ·rw [if_neg (by simp [e2])] at h2 ⊢;exact hh.tr _ _ _ h1 h2
    ·rw [if_pos e2] at h2 ⊢;exact h2
   ·rw [if_pos e1] at h1
    by_cases e2:cmpN (b.length:Int) c.length=0
    ·have hl:=cmpN_ok.eq _ _ e2;rw [← hl,if_pos e1];exact h1
    ·rw [if_pos e2] at h2;have h3:=cmpN_ok.tr _ _ _ h1 h2;rw [if_pos (by omega)];exact h3
  ·(try simp only at h)
   by_cases e1:cmpN (a.length:Int) b.length=0
   ·rw [if_neg (by simp [e1])] at h;exact hh.eq _ _ h
   ·rw [if_pos e1] at h;exact absurd h e1
 have hb:=cmpN_ok.lex (Jiy.lex (Jfh Jiy));have h:=(cmpS_ok.lex hb).pull (fun x:At=>(x.name,(x.args.length:Int),x.b,x.args)) (fun a b h=>by cases a;cases b;simp at h;simp [h])
 have e:cmpA=fun x y:At=>if cmpS x.name y.name≠0 then cmpS x.name y.name else if cmpN x.args.length y.args.length≠0 then cmpN x.args.length y.args.length else if cmpT x.b y.b≠0 then cmpT x.b y.b else Jbs cmpT x.args y.args:=by
  funext x y;exact cmpA_eq x y
 rw [e];exact h
theorem cmpList_drop {l m:List Tm}{i:Nat}{x y:Tm}(hx:l[i]?=some x)(hy:m[i]?=some y)(h:cmpT x y=0):Jbs cmpT (l.drop i) (m.drop i)=Jbs cmpT (l.drop (i+1)) (m.drop (i+1)):=by
 obtain ⟨h1,rfl⟩:=List.getElem?_eq_some_iff.1 hx;obtain ⟨h2,rfl⟩:=List.getElem?_eq_some_iff.1 hy;rw [List.drop_eq_getElem_cons h1,List.drop_eq_getElem_cons h2,Jbs,if_neg (by simp [h])]
theorem cmpList_hit {l m:List Tm}{i:Nat}{x y:Tm}(hx:l[i]?=some x)(hy:m[i]?=some y)(h:cmpT x y≠0):Jbs cmpT (l.drop i) (m.drop i)=cmpT x y:=by
 obtain ⟨h1,rfl⟩:=List.getElem?_eq_some_iff.1 hx;obtain ⟨h2,rfl⟩:=List.getElem?_eq_some_iff.1 hy;rw [List.drop_eq_getElem_cons h1,List.drop_eq_getElem_cons h2,Jbs,if_pos h]
theorem cmpF_calls (ls ms:List Tm)(a1 a2:Option Addr)(c1 c2:Nat)(h1:ls.length≤1099511627776)(h2:ms.length≤1099511627776)(w:World)(hr1:RT w a1 ls)(hr2:RT w a2 ms):Calls Tryz.prog 113 #[.slice a1 ls.length c1,.slice a2 ms.length c2,.func (.func 114) #[] #[]] w fun e w'=>e=.returned (.int .i64 (Jbs cmpT ls ms))∧Fr0 w w':=by
 refine Jbi (args:=[.slice a1 ls.length c1,.slice a2 ms.length c2,.func (.func 114) #[] #[]]) (fun _=>False) Tryz.func113 rfl Tryz.ntmps113 rfl rfl ?_;refine Csr (Za rfl (Nn (Cs (Csr (Zm rfl (Zv (OV.ad rfl T.u24) (Zm rfl (Nn (Cb ?_)))))))))
 refine WC.bz (fun (i:Nat)=>[(0,.slice a1 ls.length c1),(1,.slice a2 ms.length c2),(2,.func (.func 114) #[] #[]),(11,.slice a1 ls.length c1),(12,.int .i64 (ls.length:Int)),(13,.int .i64 (i:Int))])
   (fun i w'=>(i≤ls.length∧Jbs cmpT ls ms=Jbs cmpT (ls.drop i) (ms.drop i))∧Sat0 w ([]) w')
   (fun i=>ls.length - i) 0 Y6 (fun w' hw=>⟨⟨by omega,rfl⟩,hw⟩) ?_
 intro i;refine WC.pure (fun hi=>?_);obtain ⟨hi,hz⟩:=hi;refine Csr (Zv (OV.cu rfl rfl) (Nn (Cs ?_)));refine Cc rfl (fun c14=>?_) (fun c14=>?_)
 ·refine Ck (Xn (Cs (Cb (Csr (Zm rfl ?_)))));obtain ⟨q1,t1,rfl,ht1,_,_,hc1⟩:=hr1.get (i:=i) (by omega);refine Zv ((OV.ae rfl rfl T.u24 T.z23 (by omega)).cast (u:=.pointer (some (q1.add (i*3)))) (by rw [xN])) (Zv (OV.am (cs:=tmC t1) rfl T.u23 rfl T.z23 (fun _ hw j v hj=>hw.keeps _ _ (hc1 j v hj))) (WL.alloc T.zr23 rfl ?_));intro bb8;refine Za rfl (WL.aj (vs:=tmC t1) rfl rfl rfl T.z23 rfl ?_);refine Nn (Cs (Csr (Zm rfl (Zm rfl (Zv (OV.ad rfl T.u24) (Zv (OV.fx rfl rfl) (Nn ?_)))))));refine Cc rfl (fun c21=>?_) (fun c21=>?_)
  ·refine Csr (Za rfl (Nn (WC.ay ?_)));refine Xr (Xq (Xr (Xr (Xq (Xr ?_)))));exact WX.ret1 rfl rfl rfl (fun w' hw=>⟨by congr 2;rw [hz,(show ms.drop i=[] from xV (by omega)),List.drop_eq_getElem_cons (by omega:i<ls.length)];rfl,hw.fr⟩)
  refine Ck (Xn (Csr (Zm rfl (Zm rfl ?_))));obtain ⟨q2,t2,rfl,ht2,_,_,hc2⟩:=hr2.get (i:=i) (by omega);refine Zv ((OV.ae rfl rfl T.u24 T.z23 (by omega)).cast (u:=.pointer (some (q2.add (i*3)))) (by rw [xN])) (Zv (OV.am (cs:=tmC t2) rfl T.u23 rfl T.z23 (fun _ hw j v hj=>hw.keeps _ _ (hc2 j v hj))) (WL.alloc T.zr23 rfl ?_));intro b9;refine WL.aj (vs:=tmC t2) rfl rfl rfl T.z23 rfl ?_;refine Nn (Csr (Zm rfl (Zv (OV.lN (cs:=tmC t1) rfl T.u23 rfl T.z23 yG) (Zv (OV.lN (cs:=tmC t2) rfl T.u23 rfl T.z23 yF) (WL.ew (ι:=Unit) (f:=114) (caps:=[]) (vs:=[tmV t1,tmV t2]) (vv:=fun _=>.int .i64 (cmpT t1 t2)) (SS:=fun _=>Sat0 w (oQ b9 (tmC t2) 23::oQ bb8 (tmC t1) 23::[])) (by kernel_rfl) rfl rfl rfl (fun w' hw'=>(Jgg t1 t2 w').mono (fun en w'' ⟨h1,h2⟩=>⟨(),h1,hw'.keep h2⟩)) ?_)))));intro _;refine Za rfl (Nn (Csr (Zm rfl (Zv (OV.fb rfl rfl) (Nn ?_)))));refine Cc rfl (fun c31=>?_) (fun c31=>?_)
  ·refine Csr (Zm rfl (Za rfl (Nn (WC.ay ?_))));refine Xq (Xr (Xr (Xq (Xr ?_))));exact WX.ret1 rfl rfl rfl (fun w' hw=>⟨by congr 2;rw [hz,cmpList_hit ht1 ht2 (by simpa using c31)],hw.fr⟩)
  refine Ck (Xb (Xn (Cr (Zv (OV.bh (j:=1) rfl rfl (by omega)) (Zm rfl (Nl ?_))))));have h0:cmpT t1 t2=0:=by simpa using c31
  exact WX.au (i+1) Y6 (fun w' hw=>⟨⟨by omega,by rw [hz,cmpList_drop ht1 ht2 h0]⟩,hw.drop.drop⟩) (by show ls.length - (i+1)<ls.length - i;omega)
 refine Ce (Xe (Xe (Xh (Xn (Cs (Csr (Zm rfl (Zv (OV.ad rfl T.u24) (Zm rfl (Zv (OV.ad rfl T.u24) (Zv (OV.cu rfl rfl) (Nn ?_))))))))))));refine Cc rfl (fun c38=>?_) (fun c38=>?_)
 ·refine Csr (Za rfl (Nn (WC.ay ?_)));refine Xr ?_;exact WX.ret1 rfl rfl rfl (fun w' hw=>⟨by congr 2;rw [hz,(show ls.drop i=[] from xV (by omega)),List.drop_eq_getElem_cons (by omega:i<ms.length)];rfl,hw.fr⟩)
 refine Ck (Xn (Csr (Za rfl (Nn (WC.ay ?_)))));exact WX.ret1 rfl rfl rfl (fun w' hw=>⟨by congr 2;rw [hz,(show ls.drop i=[] from xV (by omega)),(show ms.drop i=[] from xV (by omega))];rfl,hw.fr⟩)
theorem cmpA_calls (x y:At)(a1 a2:Option Addr)(c1 c2:Nat)(h1:x.args.length≤1099511627776)(h2:y.args.length≤1099511627776)(w:World)(hr1:RT w a1 x.args)(hr2:RT w a2 y.args):Calls Tryz.prog 59 #[atV x a1 c1,atV y a2 c2] w fun e w'=>e=.returned (.int .i64 (cmpA x y))∧Fr0 w w':=by
 refine Jbi (args:=[atV x a1 c1,atV y a2 c2]) (fun _=>False) Tryz.func59 rfl Tryz.ntmps59 rfl rfl ?_;refine Csr (WL.box rfl rfl rfl ?_);intro b2;refine WL.box rfl rfl rfl ?_;intro b3;refine Za rfl (Nn (Cs (Cs (Hd (fun w'=>w'.heap[b2]?=some (.cells (atC x a1 c1).toArray 26 (0,0))∧w'.heap[b3]?=some (.cells (atC y a2 c2).toArray 26 (0,0))) [] (fun _ hw=>⟨hw.it (oQ b2 (atC x a1 c1) 26) (by simp),hw.it (oQ b3 (atC y a2 c2) 26) (by simp)⟩) (m:=20) rfl ?_))));refine Hf 0 rfl (OV.f0 3 rfl T.u26 rfl) (Ht 1 rfl (OV.ap (v:=.string x.name) rfl T.u9 rfl (fun _ hw=>(Jbn hw.1 (o:=3) rfl).1)) (Hf 2 rfl (OV.f0 3 rfl T.u26 rfl) (Ht 3 rfl (OV.ap (v:=.string y.name) rfl T.u9 rfl (fun _ hw=>(Jbn hw.2 (o:=3) rfl).1)) (Hf 5 rfl (OV.f0 4 rfl T.u26 rfl) (Ht 6 rfl (OV.ap (v:=.slice a1 x.args.length c1) rfl T.u24 rfl (fun _ hw=>(Jbn hw.1 (o:=4) rfl).1)) (Hf 7 rfl (OV.ad rfl T.u24) (Hf 8 rfl (OV.f0 4 rfl T.u26 rfl) (Ht 9 rfl (OV.ap (v:=.slice a2 y.args.length c2) rfl T.u24 rfl (fun _ hw=>(Jbn hw.2 (o:=4) rfl).1)) (Hf 10 rfl (OV.ad rfl T.u24) (Hf 12 rfl (OV.f0 0 rfl T.u26 rfl) (Ht 13 rfl (OV.am (cs:=tmC x.b) rfl T.u23 rfl T.z23 (fun _ hw j v hj=>by rw [Jav];exact Jcz hw.1 (o:=0) (cs':=tmC x.b) rfl j v hj)) (Hf 14 rfl (OV.f0 0 rfl T.u26 rfl) (Ht 15 rfl (OV.am (cs:=tmC y.b) rfl T.u23 rfl T.z23 (fun _ hw j v hj=>by rw [Jav];exact Jcz hw.2 (o:=0) (cs':=tmC y.b) rfl j v hj)) (Ho 4 rfl (fl':=false) rfl ?_))))))))))))));refine WL.aw (v:=.int .i64 (cmpS x.name y.name)) (by kernel_rfl) rfl rfl (fun w' hw'=>scmp_calls _ _ w') ?_;refine Hc (fun _=>(fun _ hw=>⟨hw.it (oQ b2 (atC x a1 c1) 26) (by simp),hw.it (oQ b3 (atC y a2 c2) 26) (by simp)⟩)) ?_;refine Ho 11 rfl (fl':=false) rfl ?_;refine WL.aw (v:=.int .i64 (cmpN x.args.length y.args.length)) (by kernel_rfl) rfl rfl (fun w' hw'=>Jeq _ _ w') ?_;refine Hc (fun _=>(fun _ hw=>⟨hw.it (oQ b2 (atC x a1 c1) 26) (by simp),hw.it (oQ b3 (atC y a2 c2) 26) (by simp)⟩)) ?_;refine Ho 16 rfl (fl':=false) rfl ?_;refine WL.aw (v:=.int .i64 (cmpT x.b y.b)) (by kernel_rfl) rfl rfl (fun w' hw'=>Jgg _ _ w') ?_;refine Hc (fun _=>(fun _ hw=>⟨hw.it (oQ b2 (atC x a1 c1) 26) (by simp),hw.it (oQ b3 (atC y a2 c2) 26) (by simp)⟩)) ?_;refine Ho 17 rfl (fl':=false) rfl ?_;refine WL.ey (xs:=[.tmp 10,.tmp 17,.tmp 22]) (vs:=ints [cmpS x.name y.name,cmpN x.args.length y.args.length,cmpT x.b y.b]) rfl T.u32 T.z3 T.zr3 rfl rfl rfl (by decide) rfl ?_;intro b23;refine Hc (fun _=>(fun _ hw=>⟨hw.it (oQ b2 (atC x a1 c1) 26) (by simp),hw.it (oQ b3 (atC y a2 c2) 26) (by simp)⟩)) ?_;refine Ho 18 rfl (fl':=false) rfl ?_;refine WL.aw (v:=.int .i64 (orL [cmpS x.name y.name,cmpN x.args.length y.args.length,cmpT x.b y.b])) (by kernel_rfl) rfl rfl (fun w' hw'=>Jih [cmpS x.name y.name,cmpN x.args.length y.args.length,cmpT x.b y.b] b23 (by simp) w' (hw'.it _ yF)) ?_;refine Hc (fun _=>(fun _ hw=>⟨hw.it (oQ b2 (atC x a1 c1) 26) (by simp),hw.it (oQ b3 (atC y a2 c2) 26) (by simp)⟩)) ?_;refine Hf 19 rfl (OV.assign rfl) (He (Xn (Csr (Zm rfl (Zv (OV.fb rfl rfl) (Nn ?_))))));refine Cc rfl (fun c26=>?_) (fun c26=>?_)
 ·refine Csr (Zm rfl (Za rfl (Nn (WC.ay ?_))));refine Xr ?_;exact WX.ret1 rfl rfl rfl (fun w' hw=>⟨by congr 2;unfold cmpA;rw [if_pos (by simpa using c26)],hw.fr⟩)
 refine Ck (Xn (Csr (Zv (OV.f0 4 rfl T.u26 rfl) (Zv (OV.ap rfl T.u24 rfl (fun _ hw=>Jbp hw yH rfl)) (Zv (OV.f0 4 rfl T.u26 rfl) (Zv (OV.ap rfl T.u24 rfl (fun _ hw=>Jbp hw yG rfl)) (WL.c0 (v:=.int .i64 (Jbs cmpT x.args y.args)) (vs:=[.slice a1 x.args.length c1,.slice a2 y.args.length c2,.func (.func 114) #[] #[]]) (fun w' hw'=>cmpF_calls x.args y.args a1 a2 c1 c2 h1 h2 w' (hr1.keeps hw'.keeps) (hr2.keeps hw'.keeps)) ?_)))))));refine Za rfl (Nn (WC.ay ?_));exact WX.ret1 rfl rfl rfl (fun w' hw=>⟨by congr 2;unfold cmpA;rw [if_neg (by simpa using c26)],hw.fr⟩)
structure BaseG where
 p:Nat
 nb:Option Nat
 va:Option Addr
 vc:Nat
 vs:List Tm
 rb:Nat
 rs:List (Pd × RelG)
def baseC (g:BaseG):List Value:=[.map g.nb,.slice g.va g.vs.length g.vc,.map (some g.rb)]
def numKV (vs:List Tm):List (Tm × Value):=vs.zipIdx.map fun q=>(q.1,.int .i64 (q.2:Int))
def relKV (rs:List (Pd × RelG)):List (Pd × Value):=rs.map fun q=>(q.1,ptr q.2.r)
def nbA (g:BaseG):List Hw.Item:=match g.nb with | none=>[] | some b=>[own b (mapK tmV (numKV g.vs))]
abbrev hdB (g:BaseG):Hw.Item:=oQ g.p (baseC g) 134
abbrev rowT (a:Option Addr)(c:Nat)(ts:List Tm):Hw.Item:=row 23 3 a ts.length c (ts.flatMap tmC)
def tabA (g:BaseG):List Hw.Item:=hdB g::rowT g.va g.vc g.vs::nbA g
def relsA (rs:List (Pd × RelG)):List Hw.Item:=rs.flatMap fun q=>relA q.2
abbrev rbA (g:BaseG):Hw.Item:=own g.rb (mapK pdV (relKV g.rs))
def baseA (g:BaseG):List Hw.Item:=tabA g++(rbA g::relsA g.rs)
structure BaseOK (g:BaseG):Prop where
 nb:g.nb=none→g.vs=[]
 vn:g.vs.Nodup
 rn:(g.rs.map (·.1)).Nodup
 ok:∀ x∈g.rs,RelOK x.2
 wd:∀ x∈g.rs,x.2.width=x.1.ar+1
 ar:∀ x∈g.rs,x.1.ar≤8
 inr:∀ x∈g.rs,∀ r∈(rp x.2).map (·.1),∀ k:Int,k∈r→0≤k∧k<(g.vs.length:Int)
 vl:g.vs.length≤1099511627776
 rl:g.rs.length≤1099511627776
 fl:(g.rs.map fun x=>x.2.es.length).sum≤1099511627776
theorem bnew_calls (w:World):Calls Tryz.prog 46 #[] w fun e w'=>∃ p rb,e=.returned (ptr p)∧Turns [] (baseA ⟨p,none,none,0,[],rb,[]⟩) w w':=by
 refine Jbi (args:=[]) (fun _=>False) Tryz.func46 rfl Tryz.ntmps46 rfl rfl ?_;refine Csr (Za rfl (Nn (Csr (WL.makeMap (pdV) rfl ?_))));intro m1;refine Zv (OV.bf (xs:=[(1,.tmp 1)]) (pl:=[(0,2),(2,1)]) (cs:=[.map none,.slice none 0 0,.map (some m1)]) T.u134 T.zr134 (by kernel_rfl) rfl (Jax (us:=[_]) rfl rfl (by first | decide | simp) rfl)) (WL.box rfl rfl rfl ?_);intro b3;refine Za rfl (Nn (WC.ay ?_));refine WX.ret1 rfl rfl rfl (fun w' hw=>⟨b3,m1,rfl,?_⟩);exact ((hw.rowNil 23 3).perm (pmP [_,_,_] [1,0,2])).turned0
theorem _root_.Go.Hw.Sat.asRow {w0 ws w:World}{M I:Nat→Prop}{ow:List Hw.Item}{b:Nat}{cs:List Value}{T:TypeId}{k m:Nat}(h:Sat w0 M I ws (oQ b cs T::ow) w)(hl:cs.length=m*k)(hm:m≤maxLen):Sat w0 M I ws (row T k (some ⟨b,0,none⟩) m m cs::ow) w:=by
 refine h.turn (Fr.refl _ w) ?_ ?_
 ·refine ⟨hl,.inr ⟨b,m,cs.toArray,rfl,Nat.zero_le _,h.it _ yF,Nat.le_refl _,hm,by simp [hl],?_⟩⟩;show cs.toArray.toList.take (m*k)=cs;rw [List.toList_toArray,← hl,List.take_length]
 ·rintro i ⟨q,hq,rfl⟩;simp only [Option.some.injEq] at hq;subst hq;exact .inl rfl
theorem T.apT:appB Tryz.prog 24 23 3 32=true:=by kernel_rfl
theorem Jfd {w:World}{T c m s:Nat}{a:Option Addr}{xs:List Value}(h:(row T s a m c xs).φ w)(hm:0<m):∃ b,a=some ⟨b,0,none⟩:=by
 have h1:w.ownsRow 0 T s (.slice a m c) m xs:=h;rcases h1.2 with ⟨hv,h0⟩ | ⟨g,cc,cur,hv,_⟩
 ·omega
 ·simp only [Value.slice.injEq] at hv;exact ⟨g,hv.1⟩
def cut (a:Option Addr)(c k:Nat):Option Addr:=if c=k then a else a.map (·.add (k*1))
def valAt (vs:List Tm)(k:Int):Tm:=vs.getD k.toNat default
def atomOf (vs:List Tm)(p:Pd)(l:List Int):At:=⟨valAt vs (l.getD 0 0),p.name,(l.drop 1).map (valAt vs)⟩
def Jis (g:BaseG):List (At × Nat):=g.rs.flatMap fun x=>(rp x.2).map fun q=>(atomOf g.vs x.1 q.1,q.2)
def addF (F:List (At × Nat))(x:At):List (At × Nat):=if factB x=true∧x∉F.map (·.1) then F++[(x,4)] else F
theorem RT.lt {w:World}{a:Option Addr}{ts:List Tm}(h:RT w a ts){q:Addr}(hq:a=some q)(hl:0<ts.length):q.block<w.heap.size:=by
 have h1:=h.at_ q hq 0 _ (xD hl) 0 _ rfl;have h2:=World.block_lt_of_cell? w _ h1;rwa [Jdr,Jdr] at h2
def visL {α:Type}(rs:List α)(vis:List Nat):List α:=vis.filterMap fun i=>rs[i]?
theorem range_get {α:Type}:∀ rs:List α,(List.range rs.length).filterMap (fun i=>rs[i]?)=rs
 | []=>rfl
 | x::t=>by
  rw [List.length_cons,List.range_succ_eq_map,List.filterMap_cons];simp only [List.getElem?_cons_zero,List.filterMap_map,Function.comp_def,List.getElem?_cons_succ];rw [range_get t]
theorem visL_all {α:Type}{rs:List α}{vis:List Nat}(hn:vis.Nodup)(hl:∀ i∈vis,i<rs.length)(ha:∀ i,i<rs.length→i∈vis):(visL rs vis).Perm rs:=by
 have h1:vis.Perm (List.range rs.length):=(List.perm_ext_iff_of_nodup hn List.nodup_range).2 fun i=>⟨fun h=>List.mem_range.2 (hl i h),fun h=>ha i (List.mem_range.1 h)⟩
 have h2:=h1.filterMap fun i=>rs[i]?
 exact h2.trans (List.Perm.of_eq (range_get rs))
structure Vs {α:Type} (rs:List α) (vis:List Nat):Prop where
 nd:vis.Nodup
 lt:∀ i∈vis,i<rs.length
theorem Vs.start {α:Type}(rs:List α):Vs rs []:=⟨.nil,fun i hi=>by cases hi⟩
theorem Vs.step {α:Type}{rs:List α}{vis:List Nat}(h:Vs rs vis){i:Nat}(hi:i<rs.length)(hv:i∉vis):Vs rs (vis++[i]):=by
 refine ⟨?_,fun j hj=>?_⟩
 ·rw [List.nodup_append];exact ⟨h.nd,by simp,fun a ha b hb=>by simp only [xI] at hb;subst hb;exact fun e=>hv (e ▸ ha)⟩
 ·rcases List.mem_append.1 hj with h1 | h1
  ·exact h.lt j h1
  ·simp only [xI] at h1;subst h1;exact hi
theorem Vs.all {α:Type}{rs:List α}{vis:List Nat}(h:Vs rs vis)(ha:∀ i,i<rs.length→i∈vis):(visL rs vis).Perm rs:=visL_all h.nd h.lt ha
end Go.Proofs.YtdgigbopibdflaaGreatDoor
set_option maxRecDepth 10000
namespace Go.Proofs.YtdgigbopibdflaaGreatDoor
open Go Go.Hw
set_option linter.unusedSimpArgs false
set_option linter.unusedVariables false
def turnF (F:List (At × Nat)):List (At × Nat):=F.map fun q=>(q.1,if q.2=4 then 2 else 1)
theorem rp_turnG (g:RelG):rp (turnG g)=(rp g).map fun p=>(p.1,if p.2=4 then 2 else 1):=by
 simp [rp,turnG,turnE]
abbrev turnB (g:BaseG):BaseG:={ g with rs:=g.rs.map fun x=>(x.1,turnG x.2) }
theorem factsB_turn (g:BaseG):Jis (turnB g)=turnF (Jis g):=by
 unfold Jis turnF;show (g.rs.map _).flatMap _=_;rw [List.flatMap_map,List.map_flatMap];congr 1;funext x;rw [rp_turnG,List.map_map,List.map_map];rfl
theorem turnB_ok {g:BaseG}(ok:BaseOK g):BaseOK (turnB g) where
 nb:=ok.nb
 vn:=ok.vn
 rn:=by
  show ((g.rs.map fun x=>(x.1,turnG x.2)).map (·.1)).Nodup;rw [List.map_map];exact ok.rn
 ok x hx:=by obtain ⟨y,hy,rfl⟩:=List.mem_map.1 hx;exact turnG_ok (ok.ok y hy)
 wd x hx:=by obtain ⟨y,hy,rfl⟩:=List.mem_map.1 hx;exact ok.wd y hy
 ar x hx:=by obtain ⟨y,hy,rfl⟩:=List.mem_map.1 hx;exact ok.ar y hy
 inr x hx r hr:=by
  obtain ⟨y,hy,rfl⟩:=List.mem_map.1 hx;rw [rp_turnG,List.map_map] at hr;exact ok.inr y hy r hr
 vl:=ok.vl
 rl:=by show (g.rs.map _).length≤_;rw [xE];exact ok.rl
 fl:=by
  show ((g.rs.map _).map _).sum≤_;rw [List.map_map];have e:((fun x:Pd × RelG=>x.2.es.length) ∘ fun x:Pd × RelG=>(x.1,turnG x.2))=fun x:Pd × RelG=>x.2.es.length:=by funext x;simp [turnG]
  rw [e];exact ok.fl
structure SameB (g g1:BaseG):Prop where
 p:g1.p=g.p
 nb:g1.nb=g.nb
 va:g1.va=g.va
 vc:g1.vc=g.vc
 vs:g1.vs=g.vs
 rb:g1.rb=g.rb
 len:g1.rs.length=g.rs.length
 at_:∀ (i:Nat) (x:Pd × RelG),g.rs[i]?=some x→∃ x':Pd × RelG,g1.rs[i]?=some x'∧x'.1=x.1∧x'.2.es=x.2.es∧x'.2.r=x.2.r∧x'.2.width=x.2.width∧RelOK x'.2
theorem SameB.refl {g:BaseG}(ok:BaseOK g):SameB g g:=⟨rfl,rfl,rfl,rfl,rfl,rfl,rfl,fun i x hx=>⟨x,hx,rfl,rfl,rfl,rfl,ok.ok x (xC hx)⟩⟩
theorem SameB.map {g g1:BaseG}(h:SameB g g1){β:Type}(f:Pd × RelG→β)(hf:∀ x x':Pd × RelG,x'.1=x.1→x'.2.es=x.2.es→x'.2.r=x.2.r→x'.2.width=x.2.width→f x'=f x):g1.rs.map f=g.rs.map f:=by
 apply List.ext_getElem?;intro i;rw [xG,xG];cases hx:g.rs[i]? with
 | none=>
  have h1:=List.getElem?_eq_none_iff.1 hx;rw [xU (by rw [h.len];exact h1)]
 | some x=>
  obtain ⟨x',h1,h2,h3,h4,h5,_⟩:=h.at_ i x hx;rw [h1,Option.map_some,Option.map_some,hf x x' h2 h3 h4 h5]
theorem SameB.kv {g g1:BaseG}(h:SameB g g1):relKV g1.rs=relKV g.rs:=h.map _ fun x x' h1 _ h3 _=>by rw [h1,h3]
theorem SameB.back {g g1:BaseG}(h:SameB g g1){i:Nat}{x':Pd × RelG}(hx:g1.rs[i]?=some x'):∃ x,g.rs[i]?=some x∧x'.1=x.1∧x'.2.es=x.2.es∧x'.2.r=x.2.r∧x'.2.width=x.2.width∧RelOK x'.2:=by
 have hi:i<g.rs.length:=by rw [← h.len];exact (List.getElem?_eq_some_iff.1 hx).1
 obtain ⟨y,h1,h2⟩:=h.at_ i _ (xD hi);rw [hx] at h1;cases h1;exact ⟨_,xD hi,h2⟩
theorem SameB.ok {g g1:BaseG}(h:SameB g g1)(ok:BaseOK g):BaseOK g1:=by
 have hb:∀ {C:Pd × RelG→Prop},(∀ x x':Pd × RelG,x∈g.rs→x'.1=x.1→x'.2.es=x.2.es→x'.2.width=x.2.width→RelOK x'.2→C x')→∀ x∈g1.rs,C x:=by
  intro C hc x hx;obtain ⟨i,hi⟩:=List.mem_iff_getElem?.1 hx;obtain ⟨y,h1,h2,h3,_,h5,h6⟩:=h.back hi;exact hc y x (xC h1) h2 h3 h5 h6
 refine ⟨by rw [h.nb,h.vs];exact ok.nb,by rw [h.vs];exact ok.vn,by rw [h.map (·.1) (fun x x' h1 _ _ _=>h1)];exact ok.rn,hb fun x x' _ _ _ _ h=>h,hb fun x x' hx h1 _ h3 _=>by rw [h3,h1];exact ok.wd x hx,hb fun x x' hx h1 _ _ _=>by rw [h1];exact ok.ar x hx,hb fun x x' hx _ h2 _ _ r hr k hk=>by
  rw [rp,h2] at hr;rw [h.vs];exact ok.inr x hx r hr k hk,by rw [h.vs];exact ok.vl,by rw [h.len];exact ok.rl,by rw [h.map (fun x=>x.2.es.length) (fun x x' _ h2 _ _=>by rw [h2])];exact ok.fl⟩
theorem SameB.trans {g g1 g2:BaseG}(h:SameB g g1)(k:SameB g1 g2):SameB g g2:=
 ⟨k.p.trans h.p,k.nb.trans h.nb,k.va.trans h.va,k.vc.trans h.vc,k.vs.trans h.vs,k.rb.trans h.rb,k.len.trans h.len,fun i x hx=>by
  obtain ⟨x1,h1,h2,h3,h4,h5,_⟩:=h.at_ i x hx;obtain ⟨x2,k1,k2,k3,k4,k5,k6⟩:=k.at_ i x1 h1;exact ⟨x2,k1,k2.trans h2,k3.trans h3,k4.trans h4,k5.trans h5,k6⟩⟩
end Go.Proofs.YtdgigbopibdflaaGreatDoor
namespace Go.Proofs
set_option linter.unusedSimpArgs false
set_option linter.unusedVariables false
open Go Go.Shelf
set_option maxRecDepth 100000
def Tryz.sortA_ren:Go.Shelf.Ren:=⟨fun | 6=>58 | 15=>112 | 14=>117 | 28=>163 | 29=>164 | 20=>166 | 21=>167 | 22=>168 | 23=>169 | 24=>170 | 25=>171 | 26=>172 | 27=>173 | 46=>213 | 47=>209 | 48=>210 | 49=>214 | 50=>215 | 57=>231 | n=>n,fun | 22=>27 | 24=>26 | 25=>119 | 3=>3 | 39=>184 | 0=>0 | 53=>228 | 55=>230 | 4=>4 | 46=>221 | 45=>220 | 50=>225 | 5=>5 | 9=>9 | 66=>277 | 70=>281 | 76=>292 | 77=>293 | n=>n,fun | n=>n⟩
theorem Tryz.sortA:Go.Proofs.SlLaysF0.n6 Tryz.prog Tryz.sortA_ren:={
 mixed:=by kernel_rfl
 f6:=⟨Tryz.f58.name,by decide,Tryz.func58.trans (congrArg some (by kernel_rfl))⟩
 f14:=⟨Tryz.f117.name,by decide,Tryz.func117.trans (congrArg some (by kernel_rfl))⟩
 f15:=Tryz.func112.trans (congrArg some (by kernel_rfl))
 f20:=⟨Tryz.f166.name,by decide,Tryz.func166.trans (congrArg some (by kernel_rfl))⟩
 f21:=⟨Tryz.f167.name,by decide,Tryz.func167.trans (congrArg some (by kernel_rfl))⟩
 f22:=⟨Tryz.f168.name,by decide,Tryz.func168.trans (congrArg some (by kernel_rfl))⟩
 f23:=⟨Tryz.f169.name,by decide,Tryz.func169.trans (congrArg some (by kernel_rfl))⟩
 f24:=⟨Tryz.f170.name,by decide,Tryz.func170.trans (congrArg some (by kernel_rfl))⟩
 f25:=⟨Tryz.f171.name,by decide,Tryz.func171.trans (congrArg some (by kernel_rfl))⟩
 f26:=⟨Tryz.f172.name,by decide,Tryz.func172.trans (congrArg some (by kernel_rfl))⟩
 f27:=⟨Tryz.f173.name,by decide,Tryz.func173.trans (congrArg some (by kernel_rfl))⟩
 f28:=Tryz.func163.trans (congrArg some (by kernel_rfl))
 f29:=Tryz.func164.trans (congrArg some (by kernel_rfl))
 f46:=⟨Tryz.f213.name,by decide,Tryz.func213.trans (congrArg some (by kernel_rfl))⟩
 f47:=Tryz.func209.trans (congrArg some (by kernel_rfl))
 f48:=Tryz.func210.trans (congrArg some (by kernel_rfl))
 f49:=⟨Tryz.f214.name,by decide,Tryz.func214.trans (congrArg some (by kernel_rfl))⟩
 f50:=⟨Tryz.f215.name,by decide,Tryz.func215.trans (congrArg some (by kernel_rfl))⟩
 f57:=⟨Tryz.f231.name,by decide,Tryz.func231.trans (congrArg some (by kernel_rfl))⟩
 t0:=Tryz.underlying0
 a0:=Tryz.isAgg0
 z0:=Tryz.sizeOf0
 v0:=Tryz.zeroValue0
 t3:=Tryz.underlying3
 a3:=Tryz.isAgg3
 z3:=Tryz.sizeOf3
 v3:=Tryz.zeroValue3
 t4:=Tryz.underlying4
 a4:=Tryz.isAgg4
 z4:=Tryz.sizeOf4
 v4:=Tryz.zeroValue4
 t5:=Tryz.underlying5
 a5:=Tryz.isAgg5
 z5:=Tryz.sizeOf5
 v5:=Tryz.zeroValue5
 t9:=Tryz.underlying9
 a9:=Tryz.isAgg9
 z9:=Tryz.sizeOf9
 v9:=Tryz.zeroValue9
 t22:=Tryz.underlying27
 a22:=Tryz.isAgg27
 z22:=Tryz.sizeOf27
 v22:=Tryz.zeroValue27
 t25:=Tryz.underlying119
 a25:=Tryz.isAgg119
 z25:=Tryz.sizeOf119
 v25:=Tryz.zeroValue119
 t39:=Tryz.underlying184
 a39:=Tryz.isAgg184
 z39:=Tryz.sizeOf184
 v39:=Tryz.zeroValue184
 t45:=Tryz.underlying220
 a45:=Tryz.isAgg220
 z45:=Tryz.sizeOf220
 v45:=Tryz.zeroValue220
 t46:=Tryz.underlying221
 a46:=Tryz.isAgg221
 z46:=Tryz.sizeOf221
 v46:=Tryz.zeroValue221
 t50:=Tryz.underlying225
 a50:=Tryz.isAgg225
 z50:=Tryz.sizeOf225
 v50:=Tryz.zeroValue225
 t53:=Tryz.underlying228
 a53:=Tryz.isAgg228
 z53:=Tryz.sizeOf228
 v53:=Tryz.zeroValue228
 t55:=Tryz.underlying230
 a55:=Tryz.isAgg230
 z55:=Tryz.sizeOf230
 v55:=Tryz.zeroValue230
 t66:=Tryz.underlying277
 a66:=Tryz.isAgg277
 z66:=Tryz.sizeOf277
 v66:=Tryz.zeroValue277
 t70:=Tryz.underlying281
 a70:=Tryz.isAgg281
 z70:=Tryz.sizeOf281
 v70:=Tryz.zeroValue281
 t76:=Tryz.underlying292
 a76:=Tryz.isAgg292
 z76:=Tryz.sizeOf292
 v76:=Tryz.zeroValue292
 t77:=Tryz.underlying293
 a77:=Tryz.isAgg293
 z77:=Tryz.sizeOf293
 v77:=Tryz.zeroValue293 }
end Go.Proofs
set_option maxRecDepth 10000
namespace Go.Proofs.YtdgigbopibdflaaGreatDoor
open Go Go.Hw
set_option linter.unusedSimpArgs false
set_option linter.unusedVariables false
structure AG where
 x:At
 a:Option Addr
 c:Nat
def agC (y:AG):List Value:=atC y.x y.a y.c
theorem Jgj (y:AG):(agC y).length=5:=rfl
theorem Jgm (y:AG):∀ v∈agC y,v.oneCell'=true:=by simp [agC,atC,Value.oneCell']
theorem ags_one (ys:List AG):∀ u∈ys.flatMap agC,u.oneCell'=true:=by
 intro u hu;obtain ⟨t,_,h⟩:=List.mem_flatMap.1 hu;exact Jgm t u h
abbrev argA (y:AG):Hw.Item:=rowT y.a y.c y.x.args
abbrev argsA (ys:List AG):List Hw.Item:=ys.map argA
abbrev rowAt (la:Option Addr)(lc:Nat)(ys:List AG):Hw.Item:=row 26 5 la ys.length lc (ys.flatMap agC)
def atsA (la:Option Addr)(lc:Nat)(ys:List AG):List Hw.Item:=rowAt la lc ys::argsA ys
def sortA (l:List At):List At:=l.mergeSort fun a b=>!decide (cmpA b a<0)
theorem T.apA:appB Tryz.prog 27 26 5 72=true:=by kernel_rfl
theorem RT.fr {w w':World}{M:Nat→Prop}{a:Option Addr}{ts:List Tm}(h:RT w a ts)(hne:∀ q,a=some q→0<ts.length→¬ M q.block)(hf:Fr M w w'):RT w' a ts:=by
 refine ⟨h.nil,fun q hq i t ht j v hv=>?_⟩;have hl:0<ts.length:=by have:=(List.getElem?_eq_some_iff.1 ht).1;omega
 have h1:=h.at_ q hq i t ht j v hv;have h2:=hf.keep q.block (h.lt hq hl) (hne q hq hl);unfold World.cell? at h1 ⊢;rw [Jdr,Jdr] at h1 ⊢;rw [h2];exact h1
theorem CmpOK.pull_swo {α β:Type}{f:β→β→Int}(hf:CmpOK f)(m:α→β):Go.Sort.SWO (Go.Proofs.ltOf fun a b=>f (m a) (m b)):=
 ⟨fun a=>hf.swo.irrefl (m a),fun a b c=>hf.swo.trans (m a) (m b) (m c),fun a b c=>hf.swo.ntrans (m a) (m b) (m c)⟩
theorem Je1 {w:World}{T:TypeId}{size:Nat}{a:Option Addr}{q:Addr}{m cap:Nat}{xs:List Value}(hq:a=some q)(h:(row T size a m cap xs).φ w):∀ j u,xs[j]?=some u→w.cell? (q.add j)=some u:=by
 subst hq;intro j u hj;have h1:w.ownsRow 0 T size (.slice (some q) m cap) m xs:=h;have h2:=h1.cells (g:=q.block) rfl j u hj;rcases h1.2 with ⟨hv,_⟩ | ⟨g,c,cur,hv,_⟩
 ·cases hv
 ·simp only [Value.slice.injEq,Option.some.injEq] at hv;rw [hv.1] at h2 ⊢;exact h2
theorem Jem {w0 ws w:World}{M I:Nat→Prop}{ow:List Hw.Item}(h:Sat w0 M I ws ow w){T:TypeId}{size:Nat}{a:Option Addr}{q:Addr}{m cap:Nat}{xs:List Value}(hq:a=some q)(hm:row T size a m cap xs∈ow):∀ j u,xs[j]?=some u→w.cell? (q.add j)=some u:=
 Je1 hq (h.it _ hm)
abbrev rowPd (la:Option Addr)(lc:Nat)(ys:List Pd):Hw.Item:=row 136 2 la ys.length lc (ys.flatMap pdC)
theorem take_extA {α:Type}{l m:List α}{i:Nat}(h1:l.length=m.length)(h:l.take i=m.take i)(hi:l.length≤i):l=m:=by
 rwa [xK hi,xK (by omega)] at h
structure RA (w:World) (a:Option Addr) (ys:List AG):Prop where
 nil:a=none→ys.length=0
 at_:∀ q,a=some q→∀ i y,ys[i]?=some y→∀ j v,(agC y)[j]?=some v→w.cell? ((q.add (i*5)).add j)=some v
 args:∀ y∈ys,RT w y.a y.x.args
theorem RA.keeps {w w':World}{a:Option Addr}{ys:List AG}(h:RA w a ys)(k:Keeps w w'):RA w' a ys:=⟨h.nil,fun q hq i t ht j v hv=>k _ _ (h.at_ q hq i t ht j v hv),fun y hy=>(h.args y hy).keeps k⟩
theorem RA.get {w:World}{a:Option Addr}{ys:List AG}(h:RA w a ys){i:Nat}(hi:i<ys.length):∃ q y,a=some q∧ys[i]?=some y∧y∈ys∧RT w y.a y.x.args∧∀ j v,(agC y)[j]?=some v→w.cell? ((q.add (i*5)).add j)=some v:=by
 cases a with
 | none=>have:=h.nil rfl;omega
 | some q=>exact ⟨q,ys[i],rfl,xD hi,List.getElem_mem hi,h.args _ (List.getElem_mem hi),h.at_ q rfl i _ (xD hi)⟩
theorem RA.of_row {w0 ws w:World}{M I:Nat→Prop}{ow:List Hw.Item}{a:Option Addr}{c:Nat}{ys:List AG}(hw:Sat w0 M I ws ow w)(hm:∀ i∈atsA a c ys,i∈ow):RA w a ys:=by
 have hr:rowAt a c ys∈ow:=hm _ yF;refine ⟨fun ha=>?_,fun q hq i t ht j v hv=>?_,fun y hy=>RT.of_row (c:=y.c) rfl hw (hm _ (yT (List.mem_map.2 ⟨y,hy,rfl⟩)))⟩
 ·rcases (Jdl hw hr).2 with ⟨_,h,_⟩ | ⟨b,hb,_⟩
  ·exact h
  ·rw [ha] at hb;cases hb
 ·subst hq;have hj:j<5:=(List.getElem?_eq_some_iff.1 hv).1;have h1:=Jdu hw hr (i*5+j) v (by rw [Jcq Jgj ys i j t ht hj];exact hv);rwa [Jdz] at h1
structure RP (w:World) (a:Option Addr) (ys:List Pd):Prop where
 nil:a=none→ys.length=0
 at_:∀ q,a=some q→∀ i y,ys[i]?=some y→∀ j v,(pdC y)[j]?=some v→w.cell? ((q.add (i*2)).add j)=some v
theorem RP.get {w:World}{a:Option Addr}{ys:List Pd}(h:RP w a ys){i:Nat}(hi:i<ys.length):∃ q y,a=some q∧ys[i]?=some y∧y∈ys∧∀ j v,(pdC y)[j]?=some v→w.cell? ((q.add (i*2)).add j)=some v:=by
 cases a with
 | none=>have:=h.nil rfl;omega
 | some q=>exact ⟨q,ys[i],rfl,xD hi,List.getElem_mem hi,h.at_ q rfl i _ (xD hi)⟩
theorem pdC_len':∀ y:Pd,(pdC y).length=2:=fun _=>rfl
theorem RP.of_row {w0 ws w:World}{M I:Nat→Prop}{ow:List Hw.Item}{a:Option Addr}{c:Nat}{ys:List Pd}(hw:Sat w0 M I ws ow w)(hr:rowPd a c ys∈ow):RP w a ys:=by
 refine ⟨fun ha=>?_,fun q hq i t ht j v hv=>?_⟩
 ·rcases (Jdl hw hr).2 with ⟨_,h,_⟩ | ⟨b,hb,_⟩
  ·exact h
  ·rw [ha] at hb;cases hb
 ·subst hq;have hj:j<2:=(List.getElem?_eq_some_iff.1 hv).1;have h1:=Jdu hw hr (i*2+j) v (by rw [Jcq pdC_len' ys i j t ht hj];exact hv);rwa [Jdz] at h1
theorem sameTerms_calls (ls ms:List Tm)(a1 a2:Option Addr)(c1 c2:Nat)(h1:ls.length≤1099511627776)(h2:ms.length≤1099511627776)(w:World)(hr1:RT w a1 ls)(hr2:RT w a2 ms):Calls Tryz.prog 66 #[.slice a1 ls.length c1,.slice a2 ms.length c2] w fun e w'=>e=.returned (.bool (decide (ls=ms)))∧Fr0 w w':=by
 refine Jbi (args:=[.slice a1 ls.length c1,.slice a2 ms.length c2]) (fun _=>False) Tryz.func66 rfl Tryz.ntmps66 rfl rfl ?_;refine Csr (Za rfl (Nn (Cs (Csr (Zm rfl (Zv (OV.ad rfl T.u24) (Zm rfl (Zv (OV.ad rfl T.u24) (Zv (OV.fb rfl rfl) (Nn ?_))))))))));refine Cc rfl (fun c10=>?_) (fun c10=>?_)
 ·refine Csr (Za rfl (Nn (WC.ay ?_)));refine Xr ?_;exact WX.ret1 rfl rfl rfl (fun w' hw=>⟨by rw [xP (fun h=>c10 (by have h9:=congrArg List.length h;(try simp only [xE] at h9);omega))],hw.fr⟩)
 refine Ck (Xn (Cs (Csr (Za rfl (Nn (Cb ?_))))))
 refine WC.bz (fun (i:Nat)=>[(0,.slice a1 ls.length c1),(1,.slice a2 ms.length c2),(5,.int .i64 (i:Int))])
   (fun i w'=>(i≤ls.length∧ls.take i=ms.take i)∧Sat w (fun _=>False) (fun b=>b<w.heap.size) w [] w')
   (fun i=>ls.length - i) 0 Y3 (fun w' hw=>⟨⟨by omega,by simp⟩,hw⟩) ?_
 intro i;refine WC.pure (fun hi=>?_);obtain ⟨hi,heq⟩:=hi;refine Cs (Csr (Zm rfl (Zm rfl (Zv (OV.ad rfl T.u24) (Zv (OV.cu rfl rfl) (Nn ?_))))));refine Cc rfl (fun c14=>?_) (fun c14=>?_)
 ·refine Ck (Xn (Cs (Cb (Cs (Hq [] (m:=9) rfl ?_)))));refine Hf 0 rfl (OV.cj rfl) (Hf 1 rfl (OV.cj rfl) ?_);obtain ⟨q1,t1,rfl,ht1,hm1,_,hc1⟩:=hr1.get (i:=i) (by omega);obtain ⟨q2,t2,rfl,ht2,hm2,_,hc2⟩:=hr2.get (i:=i) (by omega);refine Hf 2 rfl ((OV.ae rfl rfl T.u24 T.z23 (by omega)).cast (u:=.pointer (some (q1.add (i*3)))) (by rw [xN])) (Ht 3 rfl (OV.am (cs:=tmC t1) rfl T.u23 rfl T.z23 (fun _ hw j v hj=>hw.keeps _ _ (hc1 j v hj))) (Hf 4 rfl (OV.cj rfl) (Hf 5 rfl (OV.cj rfl) (Hf 6 rfl ((OV.ae rfl rfl T.u24 T.z23 (by omega)).cast (u:=.pointer (some (q2.add (i*3)))) (by rw [xN])) (Ht 7 rfl (OV.am (cs:=tmC t2) rfl T.u23 rfl T.z23 (fun _ hw j v hj=>hw.keeps _ _ (hc2 j v hj))) (Hf 8 rfl (OV.i7 (a:=t1) (b:=t2) rfl rfl) (He (Xn ?_))))))));refine Cc rfl (fun c25=>?_) (fun c25=>?_)
  ·refine Csr (Za rfl (Nn (WC.ay ?_)));refine Xq (Xr (Xr (Xq (Xr ?_))));exact WX.ret1 rfl rfl rfl (fun w' hw=>⟨by rw [xP (fun h=>c25 (by rw [h] at ht1;exact xH (ht1.symm.trans ht2)))],hw.fr⟩)
  refine Ck (Xb (Xn (Cr (Zm rfl (Zv (OV.bh (j:=1) rfl rfl (by omega)) (Za rfl (Nl ?_)))))));have hg:t1=t2:=by simpa using c25
  exact WX.au (i+1) Y3 (fun w' hw=>⟨⟨by omega,take_ext_step heq ht1 (by rw [hg];exact ht2)⟩,hw⟩) (by show ls.length - (i+1)<ls.length - i;omega)
 refine Ce (Xe (Xe (Xh (Xn (Csr (Za rfl (Nn (WC.ay ?_))))))));exact WX.ret1 rfl rfl rfl (fun w' hw=>⟨by rw [xO (take_extA (by (try simp only [xE]);omega) heq (by (try simp only [xE]);omega))],hw.fr⟩)
structure BS (g:BaseG) (k:Nat) (F:List (At × Nat)):Prop where
 ok:BaseOK g
 fs:(Jis g).Perm F
 vk:g.vs.length≤9*k
 rk:g.rs.length≤k
 fk:F.length≤k
theorem addF_perm {F G:List (At × Nat)}(h:F.Perm G)(x:At):(addF F x).Perm (addF G x):=by
 unfold addF;have h1:(x∉F.map (·.1))↔(x∉G.map (·.1)):=by rw [(h.map (·.1)).mem_iff]
 by_cases hc:factB x=true∧x∉F.map (·.1)
 ·rw [if_pos hc,if_pos ⟨hc.1,h1.1 hc.2⟩];exact h.append_right _
 ·rw [if_neg hc,if_neg (fun k=>hc ⟨k.1,h1.2 k.2⟩)];exact h
theorem addF_len (F:List (At × Nat))(x:At):(addF F x).length≤F.length+1:=by
 unfold addF;split <;> simp
theorem BS.add {g g':BaseG}{k:Nat}{F:List (At × Nat)}(b:BS g k F){x:At}(ok:BaseOK g')(h:(Jis g').Perm (addF (Jis g) x))(h1:g'.vs.length≤g.vs.length+9)(h2:g'.rs.length≤g.rs.length+1):BS g' (k+1) (addF F x):=
 ⟨ok,h.trans (addF_perm b.fs x),by have:=b.vk;omega,by have:=b.rk;omega,by have:=b.fk;have:=addF_len F x;omega⟩
theorem BS.turn {g:BaseG}{k:Nat}{F:List (At × Nat)}(b:BS g k F):BS (turnB g) k (turnF F):=
 ⟨turnB_ok b.ok,by rw [factsB_turn];exact b.fs.map _,b.vk,by simpa [turnB] using b.rk,by simpa [turnF] using b.fk⟩
end Go.Proofs.YtdgigbopibdflaaGreatDoor
set_option maxRecDepth 10000
namespace Go.Proofs.YtdgigbopibdflaaGreatDoor
open Go Go.Hw
set_option linter.unusedSimpArgs false
set_option linter.unusedVariables false
theorem Jdi.lt {w:World}(h:Jdi w):1<w.heap.size:=World.block_lt_of_cell? w ⟨1,0,none⟩ (h 0 _ rfl)
structure RG where
 ys:List AG
 a:Option Addr
 c:Nat
structure RR (w:World) (a:Option Addr) (rs:List RG):Prop where
 nil:a=none→rs.length=0
 at_:∀ q,a=some q→∀ i r,rs[i]?=some r→w.cell? (q.add i)=some (.slice r.a r.ys.length r.c)
 each:∀ r∈rs,RA w r.a r.ys
theorem RR.get {w:World}{a:Option Addr}{rs:List RG}(h:RR w a rs){i:Nat}(hi:i<rs.length):∃ q r,a=some q∧rs[i]?=some r∧r∈rs∧RA w r.a r.ys∧w.cell? (q.add i)=some (.slice r.a r.ys.length r.c):=by
 cases a with
 | none=>have:=h.nil rfl;omega
 | some q=>exact ⟨q,rs[i],rfl,xD hi,List.getElem_mem hi,h.each _ (List.getElem_mem hi),h.at_ q rfl i _ (xD hi)⟩
theorem BS.mono {g:BaseG}{k m:Nat}{F:List (At × Nat)}(b:BS g k F)(h:k≤m):BS g m F:=⟨b.ok,b.fs,by have:=b.vk;omega,by have:=b.rk;omega,by have:=b.fk;omega⟩
end Go.Proofs.YtdgigbopibdflaaGreatDoor
namespace Go.Hw
open Go Go.RowKit Go.Proofs Go.Shelf
section
variable {P:Program} {ρ:Ren} {w:World} {T:TypeId} {b c:Nat}
end
end Go.Hw
namespace Go.Proofs.YtdgigbopibdflaaGreatDoor
open Go Go.Hw
structure Bd where
 v:Int
 t:Tm
instance:Inhabited Bd:=⟨⟨0,T0⟩⟩
def bdC (x:Bd):List Value:=.int .i64 x.v::tmC x.t
theorem bdC_len (x:Bd):(bdC x).length=4:=rfl
abbrev rowB (a:Option Addr)(c:Nat)(ys:List Bd):Hw.Item:=row 181 4 a ys.length c (ys.flatMap bdC)
theorem Fr0.of_eq {w w':World}(h:w'=w):Fr0 w w':=by subst h;exact Fr.refl _ _
theorem _root_.Go.Hw.OV.fieldAddrA {P:Program}{n:Nat}{ds:DS}{e:Env}{S:World→Prop}{dst:Option Tmp}{t lt:TypeId}{p:String}{af:Array Edge}{x:Operand}{a:Addr}{f off s:Nat}{fs:Array Field}{g:Option (Nat × Bool)}(hx:ev e x=some (.pointer (some a)))(hu:P.underlying lt=some (.struct fs))(hf:(fs[f]?).map (fun q=>(q.offset,P.sz q.type))=some (off,some (s+1))):
  OV P n ds e S ⟨dst,.fieldAddr lt x f,t,p,af,g⟩ (.pointer (some (a.add off))):=fun _ w ha _=>by
 obtain ⟨q,hq,h⟩:=Option.map_eq_some_iff.1 hf;simp only [Prod.mk.injEq] at h;simp [execOp,ha.eval hx,Instr.fieldAt,run_underlying hu,Instr.sureAddr,hq,fieldPlace,Hw.run_sizeOf h.2 w,h.1]
end Go.Proofs.YtdgigbopibdflaaGreatDoor
namespace Go.Hw
open Go Go.RowKit Go.Proofs
section
variable {P:Program} {w0 ws:World} {M I:Nat→Prop} {ow:List Item} {ops:Array Oper} {Q:Post} {n:Nat} {ds:DS} {e:Env} {rest:List Oper}
end
end Go.Hw
namespace Go.Proofs.YtdgigbopibdflaaGreatDoor
open Go Go.Hw
def sb (ys:List Bd):List (Int × Tm):=ys.map fun b=>(b.v,b.t)
abbrev iV (k:Int):Value:=.int .i64 k
theorem Vs.count {α:Type}{rs:List α}{vis:List Nat}(h:Vs rs vis):vis.length≤rs.length:=by
 have h2:vis.Perm ((List.range rs.length).filter fun i=>decide (i∈vis)):=(List.perm_ext_iff_of_nodup h.nd (List.nodup_range.filter _)).2 fun i=>by
  simp only [List.mem_filter,List.mem_range,decide_eq_true_eq];exact ⟨fun hi=>⟨h.lt i hi,hi⟩,fun hi=>hi.2⟩
 rw [h2.length_eq];exact Nat.le_trans (List.length_filter_le _ _) (by simp)
def gotT:List (Int × Tm)→Int→Option Tm
 | [],_=>none
 | q::l,a=>if a=q.1 then some q.2 else gotT l a
def upsT:List (Int × Tm)→Int→Tm→List (Int × Tm)
 | [],a,t=>[(a,t)]
 | q::l,a,t=>if a=q.1 then (a,t)::l else q::upsT l a t
def plc (x:At):List Tm:=x.b::x.args
theorem Jir:KeyLaw Tryz.prog 3 iV:=KeyLaw.int T.u3
theorem places_calls (x:At)(a:Option Addr)(c:Nat)(hl:x.args.length≤1048576)(w:World)(hr:RT w a x.args):Calls Tryz.prog 94 #[atV x a c] w fun e w'=>∃ b lc,e=.returned (.slice (some ⟨b,0,none⟩) (plc x).length lc)∧Turns [] [rowT (some ⟨b,0,none⟩) lc (plc x)] w w':=by
 refine Jbi (args:=[atV x a c]) (fun _=>False) Tryz.func94 rfl Tryz.ntmps94 rfl rfl ?_;refine Csr (WL.box rfl rfl rfl ?_);intro b1;refine Za rfl (Nn (Csr (Zv (OV.f0 0 rfl T.u26 rfl) (Zv (OV.am (cs:=tmC x.b) rfl T.u23 rfl T.z23 (fun _ hw j v hj=>by rw [Jav];exact Jbk hw yF (o:=0) (cs':=tmC x.b) rfl j v hj)) (WL.bo (cs:=tmC x.b) T.u24 T.z23 T.zr23 rfl rfl (by omega) (by omega) rfl ?_)))));intro b5;refine WL.weak (S':=Sat0 w (row 23 3 (some ⟨b5,0,none⟩) 1 1 (tmC x.b)::oQ b1 (atC x a c) 26::[])) (fun w' hw=>hw.asRow (m:=1) rfl (by decide)) ?_;refine Zv (OV.f0 4 rfl T.u26 rfl) (Zv (OV.l1 (v:=.slice a x.args.length c) rfl T.u24 rfl yG rfl) (WL.append (news:=x.args.flatMap tmC) rfl rfl T.apT (fun _ _=>Src.of_rt hr.nil (fun _ hw=>hr.keeps hw.keeps)) (Je9 _) ⟨by omega,by unfold maxLen;omega⟩ rfl ?_));intro a8 c8;refine Za rfl (Nn (WC.ay ?_));have el:1+x.args.length=(plc x).length:=by simp [plc];omega
 have ef:tmC x.b++x.args.flatMap tmC=(plc x).flatMap tmC:=rfl;rw [el,ef];refine WX.jk (fun w' hw=>(show ∃ b,a8=some ⟨b,0,none⟩ from Jfd (hw.it (rowT a8 c8 (plc x)) yF) (by simp [plc]))) (fun hq=>?_);obtain ⟨bq,rfl⟩:=hq;exact WX.ret1 rfl rfl rfl (fun w' hw=>⟨bq,c8,rfl,(hw.pik [[rowT (some ⟨bq,0,none⟩) c8 (plc x)],[oQ b1 (atC x a c) 26]] [0] 2).turned0⟩)
structure RBd (w:World) (a:Option Addr) (ys:List Bd):Prop where
 nil:a=none→ys.length=0
 at_:∀ q,a=some q→∀ i y,ys[i]?=some y→∀ j v,(bdC y)[j]?=some v→w.cell? ((q.add (i*4)).add j)=some v
theorem RBd.keeps {w w':World}{a:Option Addr}{ys:List Bd}(h:RBd w a ys)(k:Keeps w w'):RBd w' a ys:=⟨h.nil,fun q hq i t ht j v hv=>k _ _ (h.at_ q hq i t ht j v hv)⟩
theorem RBd.nil0 (w:World):RBd w none []:=⟨fun _=>rfl,fun q hq=>by cases hq⟩
theorem RBd.get {w:World}{a:Option Addr}{ys:List Bd}(h:RBd w a ys){i:Nat}(hi:i<ys.length):∃ q y,a=some q∧ys[i]?=some y∧y∈ys∧∀ j v,(bdC y)[j]?=some v→w.cell? ((q.add (i*4)).add j)=some v:=by
 cases a with
 | none=>have:=h.nil rfl;omega
 | some q=>exact ⟨q,ys[i],rfl,xD hi,List.getElem_mem hi,h.at_ q rfl i _ (xD hi)⟩
theorem RBd.of_row {w0 ws w:World}{M I:Nat→Prop}{ow:List Hw.Item}{a:Option Addr}{c:Nat}{ys:List Bd}(hw:Sat w0 M I ws ow w)(hm:rowB a c ys∈ow):RBd w a ys:=by
 refine ⟨fun ha=>?_,fun q hq i t ht j v hv=>?_⟩
 ·rcases (Jdl hw hm).2 with ⟨_,h,_⟩ | ⟨b,hb,_⟩
  ·exact h
  ·rw [ha] at hb;cases hb
 ·subst hq;have hj:j<4:=(List.getElem?_eq_some_iff.1 hv).1;have h1:=Jdu hw hm (i*4+j) v (by rw [Jcq bdC_len ys i j t ht hj];exact hv);rwa [Jdz] at h1
theorem gotT_at {v:Int}:∀ {ys:List Bd} {i:Nat} {y:Bd},ys[i]?=some y→y.v=v→(∀ (j:Nat) (z:Bd),j<i→ys[j]?=some z→z.v≠v)→gotT (sb ys) v=some y.t
 | [],i,y,h,_,_=>by simp at h
 | x::ys,i,y,h,hv,hn=>by
  show (if v=x.v then some x.t else gotT (sb ys) v)=some y.t;cases i with
  | zero=>simp only [List.getElem?_cons_zero,Option.some.injEq] at h;subst h;rw [if_pos hv.symm]
  | succ i=>
   rw [if_neg (fun e=>hn 0 x (by omega) rfl e.symm)];exact gotT_at (i:=i) (by simpa using h) hv (fun j z hj hz=>hn (j+1) z (by omega) (by simpa using hz))
theorem gotT_no {v:Int}:∀ {ys:List Bd},(∀ (j:Nat) (z:Bd),ys[j]?=some z→z.v≠v)→gotT (sb ys) v=none
 | [],_=>rfl
 | x::ys,hn=>by
  show (if v=x.v then some x.t else gotT (sb ys) v)=none;rw [if_neg (fun e=>hn 0 x rfl e.symm)];exact gotT_no (fun j z hz=>hn (j+1) z (by simpa using hz))
def becD (s:List (Int × Tm))(t:Tm):Tm:=if varB t=true then (gotT s t.n).getD t else t
def appD (s:List (Int × Tm))(x:At):At:=⟨becD s x.b,x.name,x.args.map (becD s)⟩
theorem Jgd (k:Int)(u:Tm)(v:Int):∀ m:List (Int × Tm),gotT (upsT m k u) v=if v=k then some u else gotT m v
 | []=>by simp [gotT,upsT]
 | q::m=>by
  unfold upsT
  by_cases h:k=q.1
  ·rw [if_pos h];show (if v=k then some u else gotT m v)=if v=k then some u else if v=q.1 then some q.2 else gotT m v
   by_cases h2:v=k
   ·rw [if_pos h2,if_pos h2]
   ·rw [if_neg h2,if_neg h2,if_neg (fun e=>h2 (e.trans h.symm))]
  ·rw [if_neg h];show (if v=q.1 then some q.2 else gotT (upsT m k u) v)=if v=k then some u else if v=q.1 then some q.2 else gotT m v
   rw [Jgd k u v m]
   by_cases h2:v=q.1
   ·rw [if_pos h2,if_neg (fun e=>h (e.symm.trans h2)),if_pos h2]
   ·rw [if_neg h2,if_neg h2]
abbrev Bn:=List (Int × Tm)
def SB (s:Bn):Prop:=s.Pairwise fun p q=>p.1<q.1
theorem Jge {v:Int}:∀ {s:Bn},(∀ q∈s,v<q.1)→gotT s v=none
 | [],_=>rfl
 | q::s,h=>by
  unfold gotT;rw [if_neg (by have:=h q (by simp);omega)];exact Jge fun r hr=>h r (xZ _ hr)
theorem SB.ext:∀ {s t:Bn},SB s→SB t→(∀ v,gotT s v=gotT t v)→s=t
 | [],[],_,_,_=>rfl
 | [],q::t,_,_,h=>by have:=h q.1;simp [gotT] at this
 | p::s,[],_,_,h=>by have:=h p.1;simp [gotT] at this
 | p::s,q::t,hs,ht,h=>by
  obtain ⟨hs1,hs2⟩:=List.pairwise_cons.1 hs;obtain ⟨ht1,ht2⟩:=List.pairwise_cons.1 ht
  have e:p.1=q.1:=by
   rcases Int.lt_trichotomy p.1 q.1 with hl | hl | hl
   ·have h1:=h p.1
    rw [Jge (s:=q::t) (fun r hr=>by
     rcases List.mem_cons.1 hr with rfl | hr
     ·exact hl
     ·have:=ht1 r hr;omega)] at h1
    simp [gotT] at h1
   ·exact hl
   ·have h1:=h q.1
    rw [Jge (s:=p::s) (fun r hr=>by
     rcases List.mem_cons.1 hr with rfl | hr
     ·exact hl
     ·have:=hs1 r hr;omega)] at h1
    simp [gotT] at h1
  have e2:p.2=q.2:=by have h1:=h p.1;simpa [gotT,e] using h1
  have e3:s=t:=SB.ext hs2 ht2 fun v=>by
   by_cases hv:v=p.1
   ·rw [Jge (fun r hr=>by rw [hv];exact hs1 r hr),Jge (fun r hr=>by rw [hv,e];exact ht1 r hr)]
   ·have h1:=h v;unfold gotT at h1;rwa [if_neg hv,if_neg (by rw [← e];exact hv)] at h1
  rw [e3,show p=q from Prod.ext e e2]
def NK (s:Bn):Prop:=(s.map (·.1)).Nodup
theorem SB.nk {s:Bn}(h:SB s):NK s:=by
 unfold NK List.Nodup;rw [List.pairwise_map];exact List.Pairwise.imp (fun {p q} hpq e=>by omega) h
theorem Jfm {v:Int}{z:Tm}:∀ {s:Bn},NK s→(gotT s v=some z↔(v,z)∈s)
 | [],_=>by simp [gotT]
 | q::s,h=>by
  obtain ⟨h1,h2⟩:=List.nodup_cons.1 h;unfold gotT
  by_cases e:v=q.1
  ·rw [if_pos e];constructor
   ·intro hh;simp only [Option.some.injEq] at hh;rw [e,← hh];exact List.mem_cons_self
   ·intro hh;rcases List.mem_cons.1 hh with rfl | hh
    ·rfl
    ·exact absurd (List.mem_map.2 ⟨_,hh,e⟩) h1
  ·rw [if_neg e,Jfm h2];constructor
   ·exact xZ _
   ·intro hh;rcases List.mem_cons.1 hh with rfl | hh
    ·exact absurd rfl e
    ·exact hh
theorem gotT_perm {s t:Bn}(hs:NK s)(h:s.Perm t)(v:Int):gotT s v=gotT t v:=by
 have ht:NK t:=by unfold NK at hs ⊢;exact (List.Perm.nodup_iff (h.map (·.1))).1 hs
 cases hg:gotT t v with
 | some z=>exact (Jfm hs).2 (h.mem_iff.2 ((Jfm ht).1 hg))
 | none=>
  cases hg2:gotT s v with
  | none=>rfl
  | some z=>rw [(Jfm ht).2 (h.mem_iff.1 ((Jfm hs).1 hg2))] at hg;cases hg
def insB (q:Int × Tm):Bn→Bn
 | []=>[q]
 | r::l=>if q.1<r.1 then q::r::l else r::insB q l
def srtB (l:Bn):Bn:=l.foldr insB []
theorem Jgy (q:Int × Tm):∀ l:Bn,(insB q l).Perm (q::l)
 | []=>.refl _
 | r::l=>by
  unfold insB
  split
  ·exact .refl _
  ·exact ((Jgy q l).cons r).trans (List.Perm.swap q r l)
theorem Jgs:∀ l:Bn,(srtB l).Perm l
 | []=>.refl _
 | q::l=>(Jgy q (srtB l)).trans ((Jgs l).cons q)
theorem insB_sb {q:Int × Tm}:∀ {l:Bn},SB l→(∀ r∈l,r.1≠q.1)→SB (insB q l)
 | [],_,_=>List.pairwise_singleton _ _
 | r::l,h,hn=>by
  obtain ⟨h1,h2⟩:=List.pairwise_cons.1 h;unfold insB
  split
  ·rename_i hl;refine List.pairwise_cons.2 ⟨fun x hx=>?_,h⟩;rcases List.mem_cons.1 hx with rfl | hx
   ·exact hl
   ·have:=h1 x hx;omega
  ·rename_i hl;refine List.pairwise_cons.2 ⟨fun x hx=>?_,insB_sb h2 fun y hy=>hn y (xZ _ hy)⟩;rcases List.mem_cons.1 ((Jgy q l).mem_iff.1 hx) with rfl | hx
   ·have:=hn r (by simp);omega
   ·exact h1 x hx
theorem Jiv:∀ {l:Bn},NK l→SB (srtB l)
 | [],_=>List.Pairwise.nil
 | q::l,h=>by
  obtain ⟨h1,h2⟩:=List.nodup_cons.1 h;refine insB_sb (Jiv h2) fun r hr e=>h1 ?_
  exact List.mem_map.2 ⟨r,(Jgs l).mem_iff.1 hr,e⟩
theorem Jgz {l:Bn}(h:NK l)(v:Int):gotT (srtB l) v=gotT l v:=(gotT_perm h (Jgs l).symm v).symm
theorem upsT_keys (a:Int)(t:Tm):∀ l:Bn,(upsT l a t).map (·.1)=if (gotT l a).isSome=true then l.map (·.1) else l.map (·.1)++[a]
 | []=>by simp [upsT,gotT]
 | q::l=>by
  unfold upsT gotT
  by_cases h:a=q.1
  ·rw [if_pos h,if_pos h];simp [h]
  ·rw [if_neg h,if_neg h,yA,upsT_keys a t l]
   split <;> simp
theorem NK.ups {l:Bn}(h:NK l)(a:Int)(t:Tm):NK (upsT l a t):=by
 unfold NK;rw [upsT_keys]
 split
 ·exact h
 ·rename_i hg;refine List.nodup_append.2 ⟨h,by simp,fun x hx y hy=>?_⟩;simp only [xI] at hy;subst hy;rintro rfl;obtain ⟨⟨k,z⟩,hq,rfl⟩:=List.mem_map.1 hx;exact hg (by rw [(Jfm h).2 hq];rfl)
def goM:Bn→List Tm→List Tm→Option Bn
 | m,[],_=>some m
 | m,_::_,[]=>some m
 | m,t::ts,u::us=>if varB t=false then (if t=u then goM m ts us else none) else if (gotT m t.n).isSome∧(gotT m t.n).getD T0≠u then none else goM (upsT m t.n u) ts us
abbrev fitB (p x:At):Prop:=p.name=x.name∧p.args.length=x.args.length∧¬ (varB p.b=true∧x.b.kind=0)
def Jjf (p x:At)(s:Bn):Option Bn:=if fitB p x then (goM s (plc p) (plc x)).map srtB else none
theorem Jin:∀ {ts us:List Tm} {m m':Bn},NK m→ts.length=us.length→goM m ts us=some m' →
  NK m'∧(∀ v z,gotT m v=some z→gotT m' v=some z)∧(∀ v,(gotT m' v).isSome=true↔(gotT m v).isSome=true∨∃ t∈ts,varB t=true∧t.n=v)∧ts.map (becD m')=us
 | [],[],m,m',hk,_,h=>by
  simp only [goM,Option.some.injEq] at h;subst h;exact ⟨hk,fun _ _ h=>h,fun v=>by simp,rfl⟩
 | [],_::_,_,_,_,hl,_=>by simp at hl
 | _::_,[],_,_,_,hl,_=>by simp at hl
 | t::ts,u::us,m,m',hk,hl,h=>by
  have hl2:ts.length=us.length:=by simpa using hl
  rw [goM] at h
  by_cases hv:varB t=true
  ·rw [if_neg (by rw [hv];simp)] at h
   split at h
   ·cases h
   ·rename_i hc;obtain ⟨h1,h2,h3,h4⟩:=Jin (hk.ups _ _) hl2 h;have hu:gotT m' t.n=some u:=h2 _ _ (by rw [Jgd,if_pos rfl]);refine ⟨h1,fun v z hz=>h2 v z ?_,fun v=>?_,?_⟩
    ·rw [Jgd]
     by_cases e:v=t.n
     ·rw [if_pos e];rw [e] at hz;have:¬ (z≠u):=fun hne=>hc ⟨by rw [hz];rfl,by rw [hz];exact hne⟩
      rw [Classical.not_not.1 this]
     ·rw [if_neg e];exact hz
    ·rw [h3,Jgd]
     by_cases e:v=t.n
     ·rw [if_pos e];exact ⟨fun _=>Or.inr ⟨t,by simp,hv,e.symm⟩,fun _=>Or.inl rfl⟩
     ·rw [if_neg e];constructor
      ·rintro (hh | ⟨x,hx,hh⟩)
       ·exact Or.inl hh
       ·exact Or.inr ⟨x,xZ _ hx,hh⟩
      ·rintro (hh | ⟨x,hx,hh,he⟩)
       ·exact Or.inl hh
       ·rcases List.mem_cons.1 hx with rfl | hx
        ·exact absurd he.symm e
        ·exact Or.inr ⟨x,hx,hh,he⟩
    ·rw [yA,h4,List.cons.injEq];refine ⟨?_,rfl⟩;unfold becD;rw [if_pos hv,hu];rfl
  ·have hv2:varB t=false:=by simpa using hv
   rw [if_pos hv2] at h
   split at h
   ·rename_i htu;obtain ⟨h1,h2,h3,h4⟩:=Jin hk hl2 h;refine ⟨h1,h2,fun v=>?_,?_⟩
    ·rw [h3];constructor
     ·rintro (hh | ⟨x,hx,hh⟩)
      ·exact Or.inl hh
      ·exact Or.inr ⟨x,xZ _ hx,hh⟩
     ·rintro (hh | ⟨x,hx,hh,he⟩)
      ·exact Or.inl hh
      ·rcases List.mem_cons.1 hx with rfl | hx
       ·exact absurd hh hv
       ·exact Or.inr ⟨x,hx,hh,he⟩
    ·rw [yA,h4,List.cons.injEq];refine ⟨?_,rfl⟩;unfold becD;rw [if_neg hv,htu]
   ·cases h
theorem Jji:∀ {ts us:List Tm} {m s:Bn},ts.length=us.length→(∀ v z,gotT m v=some z→gotT s v=some z)→(∀ t∈ts,varB t=true→(gotT s t.n).isSome=true)→ts.map (becD s)=us→∃ m',goM m ts us=some m'
 | [],_,m,s,_,_,_,_=>⟨m,rfl⟩
 | _::_,[],_,_,hl,_,_,_=>by simp at hl
 | t::ts,u::us,m,s,hl,hm,hd,h=>by
  have hl2:ts.length=us.length:=by simpa using hl
  rw [yA,List.cons.injEq] at h;have hd2:∀ t∈ts,varB t=true→(gotT s t.n).isSome=true:=fun x hx=>hd x (xZ _ hx)
  rw [goM]
  by_cases hv:varB t=true
  ·obtain ⟨z,hz⟩:=Option.isSome_iff_exists.1 (hd t (by simp) hv);have hzu:z=u:=by have:=h.1;unfold becD at this;rwa [if_pos hv,hz] at this
   rw [if_neg (by rw [hv];simp),if_neg (by
    rintro ⟨h1,h2⟩;obtain ⟨y,hy⟩:=Option.isSome_iff_exists.1 h1;have:=hm _ _ hy;rw [hz] at this;simp only [Option.some.injEq] at this;rw [hy] at h2;exact h2 (by rw [← this];exact hzu))]
   refine Jji hl2 (fun v y hy=>?_) hd2 h.2;rw [Jgd] at hy
   split at hy
   ·rename_i e;rw [e,hz,hzu];exact hy
   ·exact hm v y hy
  ·have hv2:varB t=false:=by simpa using hv
   have:=h.1;unfold becD at this;rw [if_neg hv] at this;rw [if_pos hv2,if_pos this];exact Jji hl2 hm hd2 h.2
def Jah (x:At):List Int:=((plc x).filter varB).map (·.n)
theorem mem_varsOf {x:At}{v:Int}:v∈Jah x↔∃ t∈plc x,varB t=true∧t.n=v:=by
 unfold Jah;simp only [xR,List.mem_filter];exact ⟨fun ⟨t,⟨h1,h2⟩,h3⟩=>⟨t,h1,h2,h3⟩,fun ⟨t,h1,h2,h3⟩=>⟨t,⟨h1,h2⟩,h3⟩⟩
theorem becD_congr {s s':Bn}{t:Tm}(h:varB t=true→gotT s t.n=gotT s' t.n):becD s t=becD s' t:=by
 unfold becD
 split
 ·rename_i hv;rw [h hv]
 ·rfl
theorem Jft {s:Bn}{p x:At}(hn:p.name=x.name):appD s p=x↔(plc p).map (becD s)=plc x:=by
 obtain ⟨b,n,vs⟩:=p;obtain ⟨b2,n2,vs2⟩:=x;simp only at hn;subst hn;simp [appD,plc]
theorem matchS_iff {p x:At}{s s':Bn}(hs:SB s):Jjf p x s=some s'↔SB s'∧fitB p x∧(∀ v z,gotT s v=some z→gotT s' v=some z)∧(∀ v,(gotT s' v).isSome=true↔(gotT s v).isSome=true∨v∈Jah p)∧appD s' p=x:=by
 have hl:fitB p x→(plc p).length=(plc x).length:=fun h=>by simp [plc,h.2.1]
 unfold Jjf;constructor
 ·intro h
  split at h
  ·rename_i hf;obtain ⟨m',hm,rfl⟩:=Option.map_eq_some_iff.1 h;obtain ⟨h1,h2,h3,h4⟩:=Jin hs.nk (hl hf) hm;refine ⟨Jiv h1,hf,fun v z hz=>by rw [Jgz h1];exact h2 v z hz,fun v=>by rw [Jgz h1,h3,mem_varsOf],?_⟩;rw [Jft hf.1,← h4];exact List.map_congr_left fun t _=>becD_congr fun _=>Jgz h1 _
  ·cases h
 ·rintro ⟨h0,hf,h1,h2,h3⟩;rw [if_pos hf];rw [Jft hf.1] at h3;obtain ⟨m',hm⟩:=Jji (hl hf) h1 (fun t ht hv=>(h2 _).2 (Or.inr (mem_varsOf.2 ⟨t,ht,hv,rfl⟩))) h3;obtain ⟨k1,k2,k3,k4⟩:=Jin hs.nk (hl hf) hm;rw [hm,Option.map_some,Option.some.injEq];refine SB.ext (Jiv k1) h0 fun v=>?_
  rw [Jgz k1]
  by_cases hv:(gotT s' v).isSome=true
  ·obtain ⟨z,hz⟩:=Option.isSome_iff_exists.1 hv;rw [hz];rcases (h2 v).1 hv with hh | hh
   ·obtain ⟨y,hy⟩:=Option.isSome_iff_exists.1 hh;rw [k2 _ _ hy,← hz,h1 _ _ hy]
   ·obtain ⟨t,ht,hvt,rfl⟩:=mem_varsOf.1 hh;obtain ⟨y,hy⟩:=Option.isSome_iff_exists.1 ((k3 t.n).2 (Or.inr ⟨t,ht,hvt,rfl⟩))
    have e:becD m' t=becD s' t:=by
     have e1:(plc p).map (becD m')=(plc p).map (becD s'):=by rw [k4,h3]
     exact (List.map_inj_left.1 e1) t ht
    unfold becD at e;rw [if_pos hvt,if_pos hvt,hy,hz] at e;rw [hy];exact congrArg some e
  ·have hn:gotT s' v=none:=by simpa using hv
   rw [hn];have:¬ (gotT m' v).isSome=true:=fun hh=>hv ((h2 v).2 (by rw [mem_varsOf];exact (k3 v).1 hh))
   simpa using this
end Go.Proofs.YtdgigbopibdflaaGreatDoor
set_option maxRecDepth 10000
namespace Go.Proofs.YtdgigbopibdflaaGreatDoor
open Go Go.Hw
set_option linter.unusedSimpArgs false
set_option linter.unusedVariables false
end Go.Proofs.YtdgigbopibdflaaGreatDoor
set_option maxRecDepth 10000
namespace Go.Proofs.YtdgigbopibdflaaGreatDoor
open Go Go.Hw
set_option linter.unusedSimpArgs false
set_option linter.unusedVariables false
structure FD where
 b1:Nat
 b2:Nat
 b3:Nat
 a:Option Addr
 c:Nat
def FD.caps (f:FD):List Value:=[ptr f.b1,ptr f.b2,ptr f.b3]
def TB:Tm:=⟨901,902,⟨#[98,101,104,105,110,100]⟩⟩
def Jdj (w:World):Prop:=∀ j v,(tmC TB)[j]?=some v→w.cell? ⟨2,j,none⟩=some v
theorem Jdj.keeps {w w':World}(h:Jdj w)(k:Keeps w w'):Jdj w':=fun j v hj=>k _ _ (h j v hj)
abbrev rowL2 (a:Option Addr)(c:Nat)(ts:List Tm):Hw.Item:=row 23 3 a (ts.length+1) c ((ts++[TB]).flatMap tmC)
theorem Jgt {w:World}{T c m s:Nat}{a:Option Addr}{xs:List Value}(h:(row T s a m c xs).φ w):m≤c:=by
 have h1:w.ownsRow 0 T s (.slice a m c) m xs:=h;rcases h1.2 with ⟨hv,h0⟩ | ⟨g,cc,cur,hv,_,_,hmc,_⟩
 ·omega
 ·simp only [Value.slice.injEq] at hv;omega
theorem lendTerms_calls (ts:List Tm)(a:Option Addr)(c:Nat)(hm:ts.length≤1048576)(w:World)(hB:Jdj w)(hr:RT w a ts):Calls Tryz.prog 86 #[.slice a ts.length c] w fun e w'=>∃ a' c',e=.returned (.slice a' ts.length c')∧ts.length+1≤c'∧Turns [] [rowL2 a' c' ts] w w':=by
 refine Jbi (args:=[.slice a ts.length c]) (fun _=>False) Tryz.func86 rfl Tryz.ntmps86 rfl rfl ?_;refine Csr (Za rfl (Nn (Csr (Za rfl (Nn (Csr (Zm rfl (Zm rfl (WL.weak (S':=Sat0 w (row 23 3 none 0 0 []::[])) (fun w' hw=>hw.rowNil 23 3) ?_)))))))));refine WL.append (news:=ts.flatMap tmC) rfl rfl T.apT (fun _ _=>Src.of_rt hr.nil (fun _ hw=>hr.keeps hw.keeps)) (Je9 _) ⟨by omega,by unfold maxLen;omega⟩ rfl ?_;intro a6 c6;simp only [xM,xW];refine Za rfl (Nn (Csr (Zm rfl (Zv (OV.am (cs:=tmC TB) rfl T.u23 rfl T.z23 (fun _ hw j v hj=>by rw [Jav,xM];exact hw.keeps _ _ (hB j v hj))) (WL.bo (cs:=tmC TB) T.u24 T.z23 T.zr23 rfl rfl (by omega) (by omega) rfl ?_)))));intro b9;refine WL.focus perm1 (WL.append (news:=tmC TB) rfl rfl T.apT (fun _ _=>Jdx yG rfl) (Jiu _) ⟨by omega,by unfold maxLen;omega⟩ rfl ?_);intro a10 c10;refine Za rfl (Nn (Cs ?_));have ef:ts.flatMap tmC++tmC TB=(ts++[TB]).flatMap tmC:=by simp
 rw [ef];refine WC.jl (fun w' hw=>Jgt (hw.it (rowL2 a10 c10 ts) yF)) (fun hcap=>?_);refine Cr (Zm rfl (Zm rfl (Zv (OV.ad rfl T.u24) (Zv (OV.e7 (h:=ts.length) rfl T.u24 T.z23 rfl (by omega)) (Za rfl (Nn (WC.ay ?_)))))));exact WX.ret1 rfl rfl rfl (fun w' hw=>⟨a10,c10,rfl,hcap,(hw.pik [[rowL2 a10 c10 ts],[oQ b9 (tmC TB) 23]] [0] 2).turned0⟩)
theorem Jed (x:At)(a:Option Addr)(c:Nat)(hm:x.args.length≤1048576)(w:World)(hB:Jdj w)(hr:RT w a x.args):Calls Tryz.prog 28 #[atV x a c] w fun e w'=>∃ z:Option Addr × Nat,e=.returned (atV x z.1 z.2)∧x.args.length+1≤z.2∧Turns [] [rowL2 z.1 z.2 x.args] w w':=by
 refine Jbi (args:=[atV x a c]) (fun _=>False) Tryz.func28 rfl Tryz.ntmps28 rfl rfl ?_;refine Csr (WL.box rfl rfl rfl ?_);intro b1;refine WL.alloc T.zr26 rfl ?_;intro b2;refine Nn (Cs (Hd (fun w'=>w'.heap[b1]?=some (.cells (atC x a c).toArray 26 (0,0))) [] (fun _ hw=>hw.it (own b1 _) (by simp)) (m:=9) rfl ?_));refine Hf 0 rfl (OV.f0 0 rfl T.u26 rfl) (Ht 1 rfl (OV.am (cs:=tmC x.b) rfl T.u23 rfl T.z23 (fun _ hw j v hj=>by rw [Jav];exact Jcz hw (o:=0) (cs':=tmC x.b) rfl j v hj)) (Hf 2 rfl (OV.f0 3 rfl T.u26 rfl) (Ht 3 rfl (OV.ap (v:=.string x.name) rfl T.u9 rfl (fun _ hw=>(Jbn hw (o:=3) rfl).1)) (Hf 4 rfl (OV.f0 4 rfl T.u26 rfl) (Ht 5 rfl (OV.ap (v:=.slice a x.args.length c) rfl T.u24 rfl (fun _ hw=>(Jbn hw (o:=4) rfl).1)) (Ho 6 rfl (fl':=false) rfl ?_))))));refine WL.focus (ow':=[]++(oQ b2 (atC ⟨T0,E0,[]⟩ none 0) 26::oQ b1 (atC x a c) 26::[])) (List.Perm.refl _) ?_;refine WL.cT (ι:=Option Addr × Nat) (vs:=[.slice a x.args.length c]) (vv:=fun q=>.slice q.1 x.args.length q.2) (pp:=fun q=>x.args.length+1≤q.2) [] (AA:=fun q=>[rowL2 q.1 q.2 x.args]) rfl (fun w' hw' _=>(lendTerms_calls x.args a c hm w' (hB.keeps hw'.keeps) (hr.keeps hw'.keeps)).mono (fun en w'' ⟨la,lc,h1,h2,h3⟩=>⟨(la,lc),h1,h2,h3⟩)) ?_;rintro ⟨la,lc⟩ hlc;refine Hc (fun _=>(fun _ hw=>hw.it (own b1 _) (by simp))) ?_;refine Hf 7 rfl (OV.bf (xs:=[(0,.tmp 4),(1,.tmp 6),(2,.tmp 9)]) (pl:=[(0,3),(3,1),(4,1)]) (cs:=atC x la lc) T.u26 T.zr26 (by kernel_rfl) rfl (Jax (us:=tmC x.b) rfl rfl yU (Jax (us:=[_]) rfl rfl yU (Jax (us:=[_]) rfl rfl yU rfl)))) (Ho 8 rfl (fl':=false) rfl ?_);refine WL.focus perm1 (WL.aj (vs:=atC x la lc) rfl rfl rfl T.z26 rfl ?_);refine Hc (fun _=>(fun _ hw=>hw.it (own b1 _) (by simp))) ?_;refine He (Xn (WC.ay ?_));refine WX.retC (cs:=atC x la lc) rfl rfl rfl T.u26 rfl T.z26 (fun w' hw j v hj=>Jbt hw yF j v hj) (fun w' hw=>⟨(la,lc),rfl,hlc,?_⟩);exact (hw.pik [[oQ b2 (atC x la lc) 26],[rowL2 la lc x.args],[oQ b1 (atC x a c) 26]] [1] 3).turned0
end Go.Proofs.YtdgigbopibdflaaGreatDoor
