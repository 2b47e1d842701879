/- Contracts of functions of the program: what each returns and leaves in memory. Printed by gen.py and walk.py. -/
import Derived.Test.YtgebaodagaecmaaGreatDoorMg19
import Derived.Test.YtgebaodagaecmaaGreatDoorHxA
set_option maxRecDepth 10000
namespace Go.Proofs.YtgebaodagaecmaaGreatDoor
open Go Go.Hw
set_option linter.unusedSimpArgs false
set_option linter.unusedVariables false
theorem Src.of_rowI {w0 ws w:World}{M I:Nat→Prop}{ow:List Hw.Item}{a:Option Addr}{c:Nat}{l:List Int}(hw:Sat w0 M I ws ow w)(hm:rowI a c l∈ow):Src (Sat w0 M I ws ow) a l.length 1 (ints l):=by
 refine ⟨by rw [Jds,Nat.mul_one],(RI.of_row (c:=c) hw hm).2.1,fun w2 hw2 b hb j u hj=>?_⟩
 have h1:∃ n,l[j]?=some n∧u=.int .i64 n:=by
  unfold ints at hj;rw [xG] at hj;obtain ⟨n,h2,h3⟩:=Option.map_eq_some_iff.1 hj;exact ⟨n,h2,h3.symm⟩
 obtain ⟨n,h2,rfl⟩:=h1;exact (RI.of_row (c:=c) hw2 hm).2.2 b hb j n h2
def uns (l:List Int)(pre:List Tm):Bool:=pre.any fun t=>varB t && !decide (t.n∈l)
theorem Jm4 (l:List Int)(pre:List Tm)(t:Tm):uns l (pre++[t])=(uns l pre || (varB t && !decide (t.n∈l))):=by
 unfold uns;rw [List.any_append];simp
def stU (nb bb:Nat)(la:Option Addr)(lc:Nat)(l:List Int)(pre:List Tm):List Hw.Item:=[oQ nb [Value.bool (uns l pre)] 4,oQ bb [Value.slice la l.length lc] 51,rowI la lc l]
def stM (nb nn:Nat)(pre:List Tm):List Hw.Item:=[oQ nb [Value.bool (misF pre).2] 4,oQ nn [Value.int .i64 (misF pre).1] 3]
def stV (nm m:Nat)(pre:List Tm):List Hw.Item:=[oQ nm [Value.map (some m)] 81,own m (mapK iV (cntM (vnums pre)))]
def bodyI (c:Cl):List Int:=c.bd.flatMap fun x=>dedI (Jaq x)
def err0 (c:Cl):Int:=if 8<c.bd.length∨8<c.ts.length then 31 else 0
def err1 (c:Cl):Int:=(((c.hd::c.bd).map chkA).find? fun e=>e != 0).getD 0
def err2 (c:Cl):Int:=if c.ts.all tstB=true then 0 else 32
def err3 (c:Cl):Int:=if varB c.hd.b=true then 33 else 0
def err4 (c:Cl):Int:=if uns (bodyI c) (plc c.hd++Jd3 c)=true then 34 else 0
def err5 (c:Cl):Int:=if (misF (Jbi c)).2=true then 35 else 0
def errL (c:Cl):List Int:=[err0 c,err1 c,err2 c,err3 c,err4 c,err5 c]
def fstE (l:List Int):Int:=(l.find? fun e=>e != 0).getD 0
def chkC (c:Cl):Int:=fstE (errL c)
theorem Jn0:∀ {l:List Int} {i:Nat} {e:Int},l[i]?=some e→e≠0→(∀ u∈l.take i,u=0)→fstE l=e
 | u::l,0,e,h,he,_=>by
  simp only [List.getElem?_cons_zero,Option.some.injEq] at h;subst h;unfold fstE;rw [List.find?_cons_of_pos (by simpa using he)];rfl
 | u::l,i+1,e,h,he,hn=>by
  have hu:u=0:=hn u (by simp);have:=Jn0 (l:=l) (i:=i) (by simpa using h) he (fun v hv=>hn v (by simp [hv]));unfold fstE at this ⊢;rw [List.find?_cons_of_neg (by simp [hu])];exact this
theorem Jmc {l:List Int}(hn:∀ u∈l,u=0):fstE l=0:=by
 unfold fstE;rw [List.find?_eq_none.2 (fun u hu=>by simp [hn u hu])];rfl
theorem zero_step {l:List Int}{i:Nat}{e:Int}(hn:∀ u∈l.take i,u=0)(h:l[i]?=some e)(he:e=0):∀ u∈l.take (i+1),u=0:=fun v hv=>by
 rw [Jb3 h] at hv;rcases List.mem_append.1 hv with h1 | h1
 ·exact hn v h1
 ·simp only [xI] at h1;rw [h1];exact he
theorem mem_bodyI {c:Cl}{v:Int}:v∈bodyI c↔v∈vnums (Jck c):=by
 unfold bodyI Jck;rw [List.mem_flatMap,mem_vnums];constructor
 ·rintro ⟨x,hx,hv⟩;obtain ⟨t,h1,h2,h3⟩:=mem_vnums.1 ((Jku _ _).1 hv);exact ⟨t,List.mem_flatMap.2 ⟨x,hx,h1⟩,h2,h3⟩
 ·rintro ⟨t,h1,h2,h3⟩;obtain ⟨x,hx,h4⟩:=List.mem_flatMap.1 h1;exact ⟨x,hx,(Jku _ _).2 (mem_vnums.2 ⟨t,h4,h2,h3⟩)⟩
theorem VC.errs {c:Cl}(h:VC c):∀ u∈errL c,u=0:=by
 have h0:err0 c=0:=by unfold err0;rw [if_neg (by have:=h.bl;have:=h.tl;omega)]
 have h1:err1 c=0:=by
  unfold err1
  rw [List.find?_eq_none.2 (fun u hu=>by
   obtain ⟨x,hx,rfl⟩:=List.mem_map.1 hu;rcases List.mem_cons.1 hx with rfl | hx
   ·simp [h.hd]
   ·simp [h.bd x hx])]
  rfl
 have h2:err2 c=0:=by unfold err2;rw [if_pos (List.all_eq_true.2 h.ts)]
 have h3:err3 c=0:=by unfold err3;rw [if_neg (by rw [h.hb];simp)]
 have h4:err4 c=0:=by
  unfold err4 uns;rw [if_neg];rw [Bool.not_eq_true,List.any_eq_false];intro t ht hh;rw [yA] at hh;have h5:=h.safe t ht hh.1;have h6:t.n∈bodyI c:=mem_bodyI.2 (mem_vnums.2 ⟨t,h5,hh.1,rfl⟩);rw [xO h6] at hh;exact absurd hh.2 (by simp)
 have h5:err5 c=0:=by unfold err5;rw [misF_ok _ h.num];rfl
 intro u hu;simp only [errL,yG,List.not_mem_nil,or_false] at hu;rcases hu with rfl | rfl | rfl | rfl | rfl | rfl <;> assumption
theorem VC.chk {c:Cl}(h:VC c):chkC c=0:=Jmc h.errs
def chkL:List Value:=[.func (.func 258) #[] #[],.func (.func 259) #[] #[],.func (.func 260) #[] #[],.func (.func 261) #[] #[],.func (.func 262) #[] #[],.func (.func 263) #[] #[]]
def Jjz (w:World):Prop:=∀ j v,chkL[j]?=some v→w.cell? ⟨2,j,none⟩=some v
theorem Jjz.keeps {w w':World}(h:Jjz w)(k:Keeps w w'):Jjz w':=fun j v hj=>k _ _ (h j v hj)
structure CS (g:CG):Prop where
 at_:∀ y,y=g.hd∨y∈g.bd→y.x.args.length≤1048575∧y.x.name.size≤1099511627776
 bl:g.bd.length≤1048576
 tl:g.ts.length≤1048576
 tt:(Jbi g.cl).length≤1048576
theorem Jki (nb bb:Nat)(la:Option Addr)(lc:Nat)(l:List Int)(hl:l.length≤1099511627776)(pre:List Tm)(t:Tm)(w:World)(hA:Holds (stU nb bb la lc l pre) w):Calls Tryz.prog 265 #[tmV t,ptr nb,ptr bb] w fun e w'=>e=.returned (.tuple #[])∧Turns (stU nb bb la lc l pre) (stU nb bb la lc l (pre++[t])) w w':=by
 refine Jdt hA (args:=[tmV t,ptr nb,ptr bb]) Tryz.func265 rfl Tryz.ntmps265 rfl rfl ?_;refine Csr (WL.box rfl rfl rfl ?_);intro b3;refine Nn (Cr (Zv (OV.l1 (v:=.bool (uns l pre)) rfl T.u4 rfl yI rfl) (Zm rfl ?_)));refine Zp (t:=5) rfl (fun g5=>?_) (fun g5=>?_)
 ·refine yX (yX (yX (Zu rfl rfl (Zu rfl rfl (Zu rfl rfl (Zu rfl rfl (Zu rfl rfl (yX (Zv (OV.am rfl rfl) ?_)))))))));refine WL.focus perm1 (WL.bw (o:=0) rfl rfl rfl T.z4 Nat.zero_lt_one ?_);refine Nl ?_;have em:uns l (pre++[t])=true:=by rw [Jm4];rw [g5];rfl
  exact WX.ret0 rfl rfl (fun w' hw=>⟨rfl,by
   unfold stU;rw [em];exact (hw.pik [[oQ nb [Value.bool true] 4],[oQ b3 (tmC t) 26],[oQ bb [Value.slice la l.length lc] 51],[rowI la lc l]] [0,2,3] 4).turned⟩)
 refine yY (Zv (OV.lN (cs:=tmC t) rfl T.u26 rfl T.z26 yH) (yY (WL.au (v:=.bool (varB t)) (by kernel_rfl) rfl rfl (fun w' hw'=>Jcs t w') ?_)));refine yY (Zm rfl ?_);refine Zp (t:=8) rfl (fun g8=>?_) (fun g8=>?_)
 ·refine yY (Zv (OV.l1 (v:=.slice la l.length lc) rfl T.u51 rfl yJ rfl) (yY (Zv (OV.f0 1 rfl T.u26 rfl) (yY (Zv (OV.l1 (v:=.int .i64 t.n) rfl T.u3 rfl yH rfl) (yY (WL.au (v:=.bool (decide (t.n∈l))) (by kernel_rfl) rfl rfl (fun w' hw'=>contI_calls l la lc t.n hl w' (RI.of_row (c:=lc) hw' yK)) ?_)))))));refine yY (Zv (OV.not rfl) (yY (Zv (OV.am rfl rfl) (Zv (OV.aj rfl rfl) ?_))));refine WL.focus perm1 (WL.bw (o:=0) rfl rfl rfl T.z4 Nat.zero_lt_one ?_);refine Nl ?_;have em:uns l (pre++[t])=(!decide (t.n∈l)):=by rw [Jm4];rw [g5,g8];rfl
  exact WX.ret0 rfl rfl (fun w' hw=>⟨rfl,by
   unfold stU;rw [em];exact (hw.pik [[oQ nb [Value.bool (!decide (t.n∈l))] 4],[oQ b3 (tmC t) 26],[oQ bb [Value.slice la l.length lc] 51],[rowI la lc l]] [0,2,3] 4).turned⟩)
 refine yX (yX (yX (yX (yX (yY (Zv (OV.aj rfl rfl) (Zv (OV.aj rfl rfl) ?_)))))));refine WL.focus perm1 (WL.bw (o:=0) rfl rfl rfl T.z4 Nat.zero_lt_one ?_);refine Nl ?_;have em:uns l (pre++[t])=false:=by rw [Jm4];rw [g5,g8];rfl
 exact WX.ret0 rfl rfl (fun w' hw=>⟨rfl,by
  unfold stU;rw [em];exact (hw.pik [[oQ nb [Value.bool false] 4],[oQ b3 (tmC t) 26],[oQ bb [Value.slice la l.length lc] 51],[rowI la lc l]] [0,2,3] 4).turned⟩)
theorem misU_calls (nb nn:Nat)(pre:List Tm)(hp:pre.length<1099511627776)(t:Tm)(w:World)(hA:Holds (stM nb nn pre) w):Calls Tryz.prog 267 #[tmV t,ptr nb,ptr nn] w fun e w'=>e=.returned (.tuple #[])∧Turns (stM nb nn pre) (stM nb nn (pre++[t])) w w':=by
 refine Jdt hA (args:=[tmV t,ptr nb,ptr nn]) Tryz.func267 rfl Tryz.ntmps267 rfl rfl ?_;refine Csr (WL.box rfl rfl rfl ?_);intro b3;refine Nn (Cs (Csr (Zv (OV.lN (cs:=tmC t) rfl T.u26 rfl T.z26 yH) (WL.au (v:=.bool (varB t)) (by kernel_rfl) rfl rfl (fun w' hw'=>Jcs t w') ?_))));refine Zv (OV.not rfl) (Nn ?_);refine Cc rfl (fun c6=>?_) (fun c6=>?_)
 ·refine WC.az ?_;refine Xr ?_;have em:misF (pre++[t])=misF pre:=by rw [Jjf];unfold misS;rw [if_neg (by simpa using c6)]
  exact WX.ret0 rfl rfl (fun w' hw=>⟨rfl,by
   unfold stM;rw [em];exact (hw.pik [[oQ b3 (tmC t) 26],[oQ nb [Value.bool (misF pre).2] 4],[oQ nn [Value.int .i64 (misF pre).1] 3]] [1,2] 3).turned⟩)
 refine Ck (Xn (Cs ?_));refine WC.ir [(1,ptr nb),(2,ptr nn),(3,ptr b3)] (SatA w (stM nb nn pre) (oQ nb [Value.bool ((misF pre).2 || decide ((misF pre).1<t.n))] 4::oQ b3 (tmC t) 26::oQ nn [Value.int .i64 (misF pre).1] 3::[])) ?_ ?_
 ·refine Cr (Zv (OV.l1 (v:=.bool (misF pre).2) rfl T.u4 rfl yI rfl) (Zm rfl ?_));refine Zp (t:=8) rfl (fun g8=>?_) (fun g8=>?_)
  ·refine yX (yX (yX (yX (Zv (OV.am rfl rfl) ?_))));refine WL.focus perm1 (WL.bw (o:=0) rfl rfl rfl T.z4 Nat.zero_lt_one ?_);refine Nl ?_;exact WX.dz Y3 (fun w' hw=>by rw [g8,Bool.true_or];exact hw)
  refine yY (Zv (OV.f0 1 rfl T.u26 rfl) (yY (Zv (OV.l1 (v:=.int .i64 t.n) rfl T.u3 rfl yH rfl) (yY (Zv (OV.l1 (v:=.int .i64 (misF pre).1) rfl T.u3 rfl yJ rfl) (yY (Zv (OV.lj rfl rfl) (Zv (OV.aj rfl rfl) ?_))))))));refine WL.focus perm1 (WL.bw (o:=0) rfl rfl rfl T.z4 Nat.zero_lt_one ?_);refine Nl ?_;exact WX.dz Y3 (fun w' hw=>by rw [g8,Bool.false_or];exact hw)
 refine Csr (Zv (OV.f0 1 rfl T.u26 rfl) (Zv (OV.l1 (v:=.int .i64 t.n) rfl T.u3 rfl yI rfl) (Zv (OV.l1 (v:=.int .i64 (misF pre).1) rfl T.u3 rfl yJ rfl) (Zv (OV.eb rfl rfl) (Nn ?_)))));refine Cc rfl (fun c17=>?_) (fun c17=>?_)
 ·refine Cr (Zv (OV.l1 (v:=.int .i64 (misF pre).1) rfl T.u3 rfl yJ rfl) ?_);have hml:=misF_len pre;refine Zv (OV.fp rfl rfl (by omega)) ?_;refine WL.focus perm2 (WL.bw (o:=0) rfl rfl rfl T.z3 Nat.zero_lt_one ?_);refine Nl ?_;have em:misF (pre++[t])=((misF pre).1+1,(misF pre).2 || decide ((misF pre).1<t.n)):=by rw [Jjf];unfold misS;rw [if_pos (by simpa using c6),if_pos c17]
  exact WX.ret0 rfl rfl (fun w' hw=>⟨rfl,by
   unfold stM;rw [em];exact (hw.pik [[oQ nn [Value.int .i64 ((misF pre).1+1)] 3],[oQ nb [Value.bool ((misF pre).2 || decide ((misF pre).1<t.n))] 4],[oQ b3 (tmC t) 26]] [1,0] 3).turned⟩)
 refine Ck ?_;have em:misF (pre++[t])=((misF pre).1,(misF pre).2 || decide ((misF pre).1<t.n)):=by rw [Jjf];unfold misS;rw [if_pos (by simpa using c6),if_neg c17]
 exact WX.ret0 rfl rfl (fun w' hw=>⟨rfl,by
  unfold stM;rw [em];exact (hw.pik [[oQ nb [Value.bool ((misF pre).2 || decide ((misF pre).1<t.n))] 4],[oQ b3 (tmC t) 26],[oQ nn [Value.int .i64 (misF pre).1] 3]] [0,2] 3).turned⟩)
theorem varsU_calls (nm m:Nat)(pre:List Tm)(hp:pre.length<1099511627776)(t:Tm)(w:World)(hA:Holds (stV nm m pre) w):Calls Tryz.prog 37 #[tmV t,ptr nm] w fun e w'=>e=.returned (.tuple #[])∧Turns (stV nm m pre) (stV nm m (pre++[t])) w w':=by
 refine Jdt hA (args:=[tmV t,ptr nm]) Tryz.func37 rfl Tryz.ntmps37 rfl rfl ?_;refine Csr (WL.box rfl rfl rfl ?_);intro b2;refine Nn (Csr (Zv (OV.lN (cs:=tmC t) rfl T.u26 rfl T.z26 yH) (WL.au (v:=.bool (varB t)) (by kernel_rfl) rfl rfl (fun w' hw'=>Jcs t w') ?_)));refine Nn ?_;refine Cc rfl (fun c4=>?_) (fun c4=>?_)
 ·refine Cr (Zv (OV.l1 (v:=.map (some m)) rfl T.u81 rfl yI rfl) (Zv (OV.f0 1 rfl T.u26 rfl) (Zv (OV.l1 (v:=.int .i64 t.n) rfl T.u3 rfl yH rfl) (Zv ((OV.lookup Jiq T.u81 (show Program.zv Tryz.prog 3=some (.int .i64 0) by kernel_rfl) rfl rfl (fun _ hw=>hw.it (own m (mapK iV (cntM (vnums pre)))) yJ)).cast (u:=.int .i64 (((vnums pre).count t.n:Nat):Int)) (Jkb _ _)) ?_))));have hcl:=Nat.le_trans (List.count_le_length (a:=t.n) (l:=vnums pre)) (Jlr pre);refine Zv (OV.fp rfl rfl (by omega)) ?_;refine WL.focus perm2 (WL.mapUpdate Jiq T.u81 rfl rfl rfl ?_);refine Nl ?_;have em:ups (cntM (vnums pre)) t.n (.int .i64 (((vnums pre).count t.n:Nat)+1))=cntM (vnums (pre++[t])):=by rw [Jfr,if_pos c4,Jkd,cval_cntM]
  rw [em];exact WX.ret0 rfl rfl (fun w' hw=>⟨rfl,(hw.pik [[own m (mapK iV (cntM (vnums (pre++[t]))))],[oQ b2 (tmC t) 26],[oQ nm [Value.map (some m)] 81]] [2,0] 3).turned⟩)
 refine Ck ?_;have em:vnums (pre++[t])=vnums pre:=by rw [Jfr,if_neg (by simpa using c4),xZ]
 exact WX.ret0 rfl rfl (fun w' hw=>⟨rfl,by
  unfold stV;rw [em];exact (hw.pik [[oQ b2 (tmC t) 26],[oQ nm [Value.map (some m)] 81],[own m (mapK iV (cntM (vnums pre)))]] [1,2] 3).turned⟩)
theorem Jgl (b:Bool)(k:Int)(w:World):Calls Tryz.prog 264 #[.bool b,.int .i64 k] w fun e w'=>e=.returned (.int .i64 (if b=true then k else 0))∧Fr0 w w':=by
 refine Jbo (args:=[.bool b,.int .i64 k]) (fun _=>False) Tryz.func264 rfl Tryz.ntmps264 rfl rfl ?_;refine Csr (Za rfl (Nn (Cs (Csr (Zm rfl (Nn ?_))))));refine Cc rfl (fun c5=>?_) (fun c5=>?_)
 ·refine Csr (Zm rfl (Za rfl (Nn (WC.az ?_))));refine Xr ?_;exact WX.ret1 rfl rfl rfl (fun w' hw=>⟨by rw [if_pos c5],hw.fr⟩)
 refine Ck (Xn (Csr (Za rfl (Nn (WC.az ?_)))));exact WX.ret1 rfl rfl rfl (fun w' hw=>⟨by rw [if_neg (by rw [c5];simp)],hw.fr⟩)
theorem tooLong_calls (g:CG)(hs:CS g)(w:World)(hN:Jdb w)(hr:RC w g):Calls Tryz.prog 258 #[cgV g] w fun e w'=>e=.returned (.int .i64 (err0 g.cl))∧Fr0 w w':=by
 refine Jbo (args:=[cgV g]) (fun _=>False) Tryz.func258 rfl Tryz.ntmps258 rfl rfl ?_;refine Csr (WL.box rfl rfl rfl ?_);intro b1;refine Za rfl (Nn (Csr (Zv (OV.f0 5 rfl T.u32 rfl) (Zv (OV.l1 (v:=.slice g.ba g.bd.length g.bc) rfl T.u22 rfl yH rfl) (Zv (OV.ae rfl T.u22) (Zv (OV.lj rfl rfl) (Zm rfl ?_)))))));refine Zp (t:=7) rfl (fun g7=>?_) (fun g7=>?_)
 ·refine yX (yX (yX (yX (Zv (OV.am rfl rfl) ?_))));have em:err0 g.cl=31:=by unfold err0;rw [if_pos (Or.inl (by show 8<(g.bd.map AG.x).length;rw [xE];omega))]
  refine WL.c0 (v:=.int .i64 (err0 g.cl)) (vs:=[.bool true,.int .i64 31]) (fun w' hw'=>(Jgl true 31 w').mono (fun en w'' ⟨h1,h2⟩=>⟨by rw [h1,em];rfl,h2⟩)) ?_;refine Za rfl (Nn (WC.az ?_));exact WX.ret1 rfl rfl rfl (fun w' hw=>⟨rfl,hw.fr⟩)
 refine yY (Zv (OV.f0 6 rfl T.u32 rfl) (yY (Zv (OV.l1 (v:=.slice g.ta g.ts.length g.tc) rfl T.u30 rfl yH rfl) (yY (Zv (OV.ae rfl T.u30) (yY (Zv (OV.lj rfl rfl) (Zv (OV.aj rfl rfl) ?_))))))))
 have em:err0 g.cl=if decide ((g.ts.length:Int) > 8)=true then 31 else 0:=by
  unfold err0;have e1:g.cl.bd.length=g.bd.length:=xE _;have e2:g.cl.ts.length=g.ts.length:=rfl;rw [e1,e2]
  by_cases h:8<g.ts.length
  ·rw [if_pos (Or.inr h),if_pos (xO (by omega))]
  ·rw [if_neg (by omega),if_neg (by rw [xP (by omega)];simp)]
 refine WL.c0 (v:=.int .i64 (err0 g.cl)) (vs:=[.bool (decide ((g.ts.length:Int) > 8)),.int .i64 31]) (fun w' hw'=>(Jgl (decide ((g.ts.length:Int) > 8)) 31 w').mono (fun en w'' ⟨h1,h2⟩=>⟨by rw [h1,em],h2⟩)) ?_;refine Za rfl (Nn (WC.az ?_));exact WX.ret1 rfl rfl rfl (fun w' hw=>⟨rfl,hw.fr⟩)
theorem err1_at {g:CG}{i:Nat}{y:AG}(h:g.bd[i]?=some y)(he:chkA y.x≠0)(h0:chkA g.hd.x=0)(hn:∀ y∈g.bd.take i,chkA y.x=0):err1 g.cl=chkA y.x:=by
 refine Jn0 (l:=(g.cl.hd::g.cl.bd).map chkA) (i:=i+1) ?_ he (fun u hu=>?_)
 ·show ((g.bd.map AG.x).map chkA)[i]?=_;rw [xG,xG,h];rfl
 ·rw [yC,List.take_succ_cons] at hu;rcases List.mem_cons.1 hu with rfl | hu
  ·exact h0
  ·rw [← List.map_take,show g.cl.bd=g.bd.map AG.x from rfl,← List.map_take] at hu;obtain ⟨x,hx,rfl⟩:=List.mem_map.1 hu;obtain ⟨z,hz,rfl⟩:=List.mem_map.1 hx;exact hn z hz
theorem err1_hd {g:CG}(he:chkA g.hd.x≠0):err1 g.cl=chkA g.hd.x:=Jn0 (l:=(g.cl.hd::g.cl.bd).map chkA) (i:=0) rfl he (fun u hu=>by simp at hu)
theorem err1_zero {g:CG}(h0:chkA g.hd.x=0)(hn:∀ y∈g.bd,chkA y.x=0):err1 g.cl=0:=by
 refine Jmc (l:=(g.cl.hd::g.cl.bd).map chkA) (fun u hu=>?_);obtain ⟨x,hx,rfl⟩:=List.mem_map.1 hu;rcases List.mem_cons.1 hx with rfl | hx
 ·exact h0
 ·obtain ⟨z,hz,rfl⟩:=List.mem_map.1 hx;exact hn z hz
theorem badAtom_calls (g:CG)(hs:CS g)(w:World)(hN:Jdb w)(hr:RC w g):Calls Tryz.prog 259 #[cgV g] w fun e w'=>e=.returned (.int .i64 (err1 g.cl))∧Fr0 w w':=by
 refine Jbo (args:=[cgV g]) (fun _=>False) Tryz.func259 rfl Tryz.ntmps259 rfl rfl ?_;refine Csr (WL.box rfl rfl rfl ?_);intro b1;refine Za rfl (Nn (Cs (Csr (Zv (OV.f0 0 rfl T.u32 rfl) ?_))));have hbl:=hs.bl;refine Zv (OV.ai (cs:=atC g.hd.x g.hd.a g.hd.c) rfl T.u29 rfl T.z29 (fun _ hw j v hj=>by rw [Jap];exact Jbv hw yH (o:=0) (cs':=atC g.hd.x g.hd.a g.hd.c) rfl j v hj)) ?_;have hsh:=hs.at_ g.hd (Or.inl rfl);refine WL.c0 (v:=.int .i64 (chkA g.hd.x)) (vs:=[atV g.hd.x g.hd.a g.hd.c]) (fun w' hw'=>Jk8 g.hd.x g.hd.a g.hd.c (by omega) hsh.2 w' (hN.keeps hw'.keeps) (hr.hd.keeps hw'.keeps)) ?_;refine Za rfl (Nn (Csr (Zm rfl (Zv (OV.iu rfl rfl) (Nn ?_)))));refine Cc rfl (fun c11=>?_) (fun c11=>?_)
 ·refine Csr (Zm rfl (Za rfl (Nn (WC.az ?_))));refine Xr ?_;exact WX.ret1 rfl rfl rfl (fun w' hw=>⟨by rw [err1_hd c11],hw.fr⟩)
 refine Ck (Xn (Cs (Csr (Zv (OV.f0 5 rfl T.u32 rfl) (Zv (OV.l1 (v:=.slice g.ba g.bd.length g.bc) rfl T.u22 rfl yH rfl) (Zv (OV.ae rfl T.u22) (Zm rfl (Nn (Cb ?_)))))))))
 refine WC.cm (fun (i:Nat)=>[(1,yZ b1),(14,.slice g.ba g.bd.length g.bc),(15,.int .i64 (g.bd.length:Int)),(16,.int .i64 (i:Int))])
   (fun i w'=>(i≤g.bd.length∧∀ y∈g.bd.take i,chkA y.x=0)∧Sat0 w (oQ b1 (cgC g) 32::[]) w')
   (fun i=>g.bd.length - i) 0 Y4 (fun w' hw=>⟨⟨by omega,fun y hy=>by simp at hy⟩,hw⟩) ?_
 intro i;refine WC.pure (fun hi=>?_);obtain ⟨hi,hn⟩:=hi;refine Csr (Zv (OV.cq rfl rfl) (Nn (Cs ?_)));refine Cc rfl (fun c17=>?_) (fun c17=>?_)
 ·refine Ck (Xn (Cs (Cb (Csr ?_))));obtain ⟨q1,y,hq,ht,htm,hra,hc⟩:=hr.bd.get (i:=i) (by omega);refine Zv ((OV.ad (show _=some (Value.slice (some q1) g.bd.length g.bc) by rw [← hq];rfl) rfl T.u22 T.z29 (by omega)).cast (u:=.pointer (some (q1.add (i*5)))) (by rw [xN])) (Zv (OV.ai (cs:=agC y) rfl T.u29 rfl T.z29 (fun _ hw j v hj=>hw.keeps _ _ (hc j v hj))) (WL.alloc T.zr29 rfl ?_));intro b5;refine WL.ag (vs:=agC y) rfl rfl rfl T.z29 rfl ?_;refine Nn (Csr (Zv (OV.lN (cs:=agC y) rfl T.u29 rfl T.z29 yH) ?_));have hsy:=hs.at_ y (Or.inr htm);refine WL.c0 (v:=.int .i64 (chkA y.x)) (vs:=[atV y.x y.a y.c]) (fun w' hw'=>Jk8 y.x y.a y.c (by omega) hsy.2 w' (hN.keeps hw'.keeps) (hra.keeps hw'.keeps)) ?_;refine Za rfl (Nn (Csr (Zm rfl (Zv (OV.iu rfl rfl) (Nn ?_)))));refine Cc rfl (fun c23=>?_) (fun c23=>?_)
  ·refine Csr (Zm rfl (Za rfl (Nn (WC.az ?_))));refine Xq (Xr (Xr (Xq (Xr ?_))));exact WX.ret1 rfl rfl rfl (fun w' hw=>⟨by rw [err1_at ht c23 (by simpa using c11) hn],hw.fr⟩)
  refine Ck (Xb (Xn (Cr (Zv (OV.bm (j:=1) rfl rfl (by omega)) (Zm rfl (Nl ?_))))))
  exact WX.bk (i+1) Y4 (fun w' hw=>⟨⟨by omega,fun z hz=>by
   rw [Jb3 ht] at hz;rcases List.mem_append.1 hz with h1 | h1
   ·exact hn z h1
   ·simp only [xI] at h1;rw [h1];simpa using c23⟩,hw.drop⟩) (by show g.bd.length - (i+1)<g.bd.length - i;omega)
 refine Ce (Xe (Xe (Xh (Xn (Csr (Za rfl (Nn (WC.az ?_))))))));exact WX.ret1 rfl rfl rfl (fun w' hw=>⟨by rw [err1_zero (by simpa using c11) (fun y hy=>hn y (by rw [xK (by omega)];exact hy))],hw.fr⟩)
theorem badTest_calls (g:CG)(hs:CS g)(w:World)(hN:Jdb w)(hr:RC w g):Calls Tryz.prog 260 #[cgV g] w fun e w'=>e=.returned (.int .i64 (err2 g.cl))∧Fr0 w w':=by
 refine Jbo (args:=[cgV g]) (fun _=>False) Tryz.func260 rfl Tryz.ntmps260 rfl rfl ?_;refine Csr (WL.box rfl rfl rfl ?_);intro b1;refine Za rfl (Nn (Cs (Csr (Zv (OV.f0 6 rfl T.u32 rfl) ?_))));have htl:=hs.tl;refine Zv (OV.l1 (v:=.slice g.ta g.ts.length g.tc) rfl T.u30 rfl yH rfl) (Zv (OV.ae rfl T.u30) (Zm rfl (Nn (Cb ?_))))
 refine WC.cm (fun (i:Nat)=>[(1,yZ b1),(7,.slice g.ta g.ts.length g.tc),(8,.int .i64 (g.ts.length:Int)),(9,.int .i64 (i:Int))])
   (fun i w'=>(i≤g.ts.length∧∀ t∈g.ts.take i,tstB t=true)∧Sat0 w (oQ b1 (cgC g) 32::[]) w')
   (fun i=>g.ts.length - i) 0 Y4 (fun w' hw=>⟨⟨by omega,fun y hy=>by simp at hy⟩,hw⟩) ?_
 intro i;refine WC.pure (fun hi=>?_);obtain ⟨hi,hn⟩:=hi;refine Csr (Zv (OV.cq rfl rfl) (Nn (Cs ?_)));refine Cc rfl (fun c10=>?_) (fun c10=>?_)
 ·refine Ck (Xn (Cs (Cb (Csr ?_))));obtain ⟨q1,t,hq,ht,htm,hc⟩:=hr.ts.get (i:=i) (by omega);refine Zv ((OV.ad (show _=some (Value.slice (some q1) g.ts.length g.tc) by rw [← hq];rfl) rfl T.u30 T.z61 (by omega)).cast (u:=.pointer (some (q1.add (i*7)))) (by rw [xN])) (Zv (OV.ai (cs:=tsC t) rfl T.u61 rfl T.z61 (fun _ hw j v hj=>hw.keeps _ _ (hc j v hj))) (WL.alloc T.zr61 rfl ?_));intro b4;refine WL.ag (vs:=tsC t) rfl rfl rfl T.z61 rfl ?_;refine Nn (Csr (Zv (OV.lN (cs:=tsC t) rfl T.u61 rfl T.z61 yH) (WL.au (v:=.int .i64 (if tstB t=true then 0 else 32)) (by kernel_rfl) rfl rfl (fun w' hw'=>checkTest_calls t w') ?_)));refine Za rfl (Nn (Csr (Zm rfl (Zv (OV.iu rfl rfl) (Nn ?_)))));refine Cc rfl (fun c16=>?_) (fun c16=>?_)
  ·refine Csr (Zm rfl (Za rfl (Nn (WC.az ?_))));refine Xq (Xr (Xr (Xq (Xr ?_))));have hb:¬ tstB t=true:=fun h=>c16 (by rw [if_pos h])
   have em:err2 g.cl=32:=by unfold err2;show (if g.ts.all tstB=true then (0:Int) else 32)=32;rw [if_neg (fun h=>hb (List.all_eq_true.1 h t htm))]
   exact WX.ret1 rfl rfl rfl (fun w' hw=>⟨by rw [em,if_neg hb],hw.fr⟩)
  refine Ck (Xb (Xn (Cr (Zv (OV.bm (j:=1) rfl rfl (by omega)) (Zm rfl (Nl ?_))))))
  exact WX.bk (i+1) Y4 (fun w' hw=>⟨⟨by omega,fun z hz=>by
   rw [Jb3 ht] at hz;rcases List.mem_append.1 hz with h1 | h1
   ·exact hn z h1
   ·simp only [xI] at h1;rw [h1];by_cases h2:tstB t=true;exact h2;rw [if_neg h2] at c16;exact absurd c16 (by decide)⟩,hw.drop⟩) (by show g.ts.length - (i+1)<g.ts.length - i;omega)
 refine Ce (Xe (Xe (Xh (Xn (Csr (Za rfl (Nn (WC.az ?_))))))));have em:err2 g.cl=0:=by unfold err2;show (if g.ts.all tstB=true then (0:Int) else 32)=0;rw [if_pos (List.all_eq_true.2 fun t ht=>hn t (by rw [xK (by omega)];exact ht))]
 exact WX.ret1 rfl rfl rfl (fun w' hw=>⟨by rw [em],hw.fr⟩)
theorem openHead_calls (g:CG)(hs:CS g)(w:World)(hN:Jdb w)(hr:RC w g):Calls Tryz.prog 261 #[cgV g] w fun e w'=>e=.returned (.int .i64 (err3 g.cl))∧Fr0 w w':=by
 refine Jbo (args:=[cgV g]) (fun _=>False) Tryz.func261 rfl Tryz.ntmps261 rfl rfl ?_;refine Csr (WL.box rfl rfl rfl ?_);intro b1;refine Za rfl (Nn (Csr (Zv (OV.f0 0 rfl T.u32 rfl) (Zv (OV.f0 0 rfl T.u29 rfl) (Zv (OV.ai (cs:=tmC g.hd.x.b) rfl T.u26 rfl T.z26 (fun _ hw j v hj=>by rw [Jap];exact Jbv hw yH (o:=0) (cs':=tmC g.hd.x.b) rfl j v hj)) (WL.au (v:=.bool (varB g.hd.x.b)) (by kernel_rfl) rfl rfl (fun w' hw'=>Jcs g.hd.x.b w') ?_))))));refine WL.au (v:=.int .i64 (err3 g.cl)) (by kernel_rfl) rfl rfl (fun w' hw'=>Jgl (varB g.hd.x.b) 33 w') ?_;refine Za rfl (Nn (WC.az ?_));exact WX.ret1 rfl rfl rfl (fun w' hw=>⟨rfl,hw.fr⟩)
theorem bodyI_take {g:CG}{i:Nat}{y:AG}(h:g.bd[i]?=some y):(((g.bd.take (i+1)).map AG.x).flatMap fun x=>dedI (Jaq x))=(((g.bd.take i).map AG.x).flatMap fun x=>dedI (Jaq x))++dedI (Jaq y.x):=by
 rw [Jb3 h,xU,List.flatMap_append];simp
theorem bodyI_len (c:Cl):(bodyI c).length≤(Jck c).length:=by
 unfold bodyI Jck
 induction c.bd with
 | nil=>simp
 | cons x l ih=>
  rw [List.flatMap_cons,List.flatMap_cons,xL,xL];have h1:=dedI_len (Jaq x);have h2:=Jlr (plc x);have h3:Jaq x=vnums (plc x):=rfl;rw [h3] at h1 ⊢;omega
theorem stU_blk {nb bb lc:Nat}{la:Option Addr}{l:List Int}{ow:List Hw.Item}{w ws w':World}{I:Nat→Prop}(p0:List Tm)(hw:Sat w (fun _=>False) I ws (stU nb bb la lc l p0++ow) w'):∀ pre b,DD (stU nb bb la lc l pre) b→w.heap.size≤b:=fun pre b h=>by
 refine hw.newBlocks b ?_;rw [Jmu];left;unfold stU at h ⊢;simp only [Jo5] at h ⊢;exact h
theorem stM_blk {nb nn:Nat}{ow:List Hw.Item}{w ws w':World}{I:Nat→Prop}(p0:List Tm)(hw:Sat w (fun _=>False) I ws (stM nb nn p0++ow) w'):∀ pre b,DD (stM nb nn pre) b→w.heap.size≤b:=fun pre b h=>by
 refine hw.newBlocks b ?_;rw [Jmu];left;unfold stM at h ⊢;simp only [Jo5] at h ⊢;exact h
theorem stV_blk {nm m:Nat}{ow:List Hw.Item}{w ws w':World}{I:Nat→Prop}(p0:List Tm)(hw:Sat w (fun _=>False) I ws (stV nm m p0++ow) w'):∀ pre b,DD (stV nm m pre) b→w.heap.size≤b:=fun pre b h=>by
 refine hw.newBlocks b ?_;rw [Jmu];left;unfold stV at h ⊢;simp only [Jo5] at h ⊢;exact h
theorem unsafe_calls (g:CG)(hs:CS g)(w:World)(hN:Jdb w)(hr:RC w g):Calls Tryz.prog 262 #[cgV g] w fun e w'=>e=.returned (.int .i64 (err4 g.cl))∧Fr0 w w':=by
 refine Jbo (args:=[cgV g]) (fun _=>False) Tryz.func262 rfl Tryz.ntmps262 rfl rfl ?_;refine Csr (WL.box rfl rfl rfl ?_);intro b1;refine Za rfl (Nn (Csr (WL.alloc T.zr51 rfl ?_)));intro b3;refine Nn (Cs (Csr (Zv (OV.f0 5 rfl T.u32 rfl) ?_)));have hbl:=hs.bl;have htl:=hs.tl;have htt:=hs.tt;rw [Jgm] at htt;have hlb:=bodyI_len g.cl;have hbl2:(bodyI g.cl).length≤1099511627776:=by omega
 refine Zv (OV.l1 (v:=.slice g.ba g.bd.length g.bc) rfl T.u22 rfl yI rfl) (Zv (OV.ae rfl T.u22) (Zm rfl (Nn (Cb (WC.weak (S':=Sat0 w (oQ b3 [Value.slice none 0 0] 51::row 3 1 none 0 0 []::oQ b1 (cgC g) 32::[])) (fun w' hw=>(hw.rowNil 3 1).perm (pmP [_,_,_] [1,0,2])) ?_)))))
 refine WC.dd (fun (i:Nat) (la:Option Addr) (lc:Nat) (l:List Int)=>[(1,yZ b1),(3,yZ b3),(11,.slice g.ba g.bd.length g.bc),(12,.int .i64 (g.bd.length:Int)),(13,.int .i64 (i:Int))])
   (fun i la lc l w'=>(i≤g.bd.length∧l=(((g.bd.take i).map AG.x).flatMap fun x=>dedI (Jaq x)))∧Sat0 w (oQ b3 [Value.slice la l.length lc] 51::rowI la lc l::oQ b1 (cgC g) 32::[]) w')
   (fun i _ _ _=>g.bd.length - i) 0 none 0 [] Y5 (fun w' hw=>⟨⟨by omega,rfl⟩,hw⟩) ?_
 intro i la lc l;refine WC.pure (fun hi=>?_);obtain ⟨hi,hle⟩:=hi;have hle0:l.length=(((g.bd.take i).map AG.x).flatMap fun x=>dedI (Jaq x)).length:=by rw [hle]
 refine Csr (Zv (OV.cq rfl rfl) (Nn (Cs ?_)));refine Cc rfl (fun c14=>?_) (fun c14=>?_)
 ·refine Ck (Xn (Cs (Cb (Csr ?_))));obtain ⟨q1,y,hq,ht,htm,hra,hc⟩:=hr.bd.get (i:=i) (by omega);refine Zv ((OV.ad (show _=some (Value.slice (some q1) g.bd.length g.bc) by rw [← hq];rfl) rfl T.u22 T.z29 (by omega)).cast (u:=.pointer (some (q1.add (i*5)))) (by rw [xN])) (Zv (OV.ai (cs:=agC y) rfl T.u29 rfl T.z29 (fun _ hw j v hj=>hw.keeps _ _ (hc j v hj))) (WL.alloc T.zr29 rfl ?_));intro b5;refine WL.ag (vs:=agC y) rfl rfl rfl T.z29 rfl ?_;refine Nn (Hd (fun w'=>w'.heap[b3]?=some (.cells [Value.slice la l.length lc].toArray 51 (0,0))∧w'.heap[b5]?=some (.cells (agC y).toArray 29 (0,0))) [4] (fun _ hw=>⟨hw.it (oQ b3 [Value.slice la l.length lc] 51) (by simp),hw.it (oQ b5 (agC y) 29) (by simp)⟩) (m:=5) rfl ?_);refine Ht 0 rfl (OV.ah (v:=.slice la l.length lc) rfl T.u51 rfl (fun _ hw=>(Jax hw.1 (o:=0) rfl).1)) (Ht 1 rfl (OV.ai (cs:=agC y) rfl T.u29 rfl T.z29 (fun _ hw j v hj=>by rw [Jap,xM];exact (Jax hw.2 hj).1)) (Ho 2 rfl (fl':=false) rfl ?_));have hsy:=hs.at_ y (Or.inr htm)
  have hle9:((((g.bd.take i).map AG.x).flatMap fun x=>dedI (Jaq x))++dedI (Jaq y.x)).length≤(bodyI g.cl).length:=by
   rw [← bodyI_take ht,List.map_take];exact Jgd _ _ _
  rw [xL,← hle0] at hle9;refine WL.cT (ι:=Option Addr × Nat) (vs:=[atV y.x y.a y.c]) (vv:=fun z=>.slice z.1 (dedI (Jaq y.x)).length z.2) (pp:=fun _=>True) [] (AA:=fun z=>[rowI z.1 z.2 (dedI (Jaq y.x))]) rfl (fun w' hw' _=>(tvars_calls y.x y.a y.c hsy.1 w' (hra.keeps hw'.keeps)).mono (fun en w'' ⟨z,h1,h2⟩=>⟨z,h1,trivial,h2⟩)) ?_;rintro ⟨qa,qc⟩ _;refine Hc (fun _=>(fun _ hw=>⟨hw.it (oQ b3 [Value.slice la l.length lc] 51) (by simp),hw.it (oQ b5 (agC y) 29) (by simp)⟩)) ?_;refine Ho 3 rfl (fl':=false) rfl ?_;refine WL.focus (ow':=rowI la lc l::rowI qa qc (dedI (Jaq y.x))::oQ b5 (agC y) 29::oQ b3 [Value.slice la l.length lc] 51::oQ b1 (cgC g) 32::[]) (pmP [_,_,_,_,_] [3,0,1,2,4]) ?_;refine WL.append (news:=ints (dedI (Jaq y.x))) rfl rfl T.apI (fun w hw=>Src.of_rowI hw yI) (Jes _) ⟨by omega,by unfold maxLen;omega⟩ rfl ?_;intro a20 c20;refine Hc (fun _=>(fun _ hw=>⟨hw.it (oQ b3 [Value.slice la l.length lc] 51) (by simp),hw.it (oQ b5 (agC y) 29) (by simp)⟩)) ?_;refine Ho 4 rfl (fl':=true) rfl ?_;refine WL.focus perm3 (WL.bw (o:=0) rfl rfl rfl T.z51 Nat.zero_lt_one ?_);refine Hc (fun h=>by cases h) ?_;refine He (Xb (Xn (Cr (Zv (OV.bm (j:=1) rfl rfl (by omega)) (Zm rfl (Nl ?_))))));have el:l.length+(dedI (Jaq y.x)).length=(l++dedI (Jaq y.x)).length:=by simp
  have ef:ints l++ints (dedI (Jaq y.x))=ints (l++dedI (Jaq y.x)):=by simp [ints]
  rw [el,ef]
  exact WX.cg (i+1) a20 c20 (l++dedI (Jaq y.x)) Y5 (fun w' hw=>⟨⟨by omega,by rw [bodyI_take ht,hle]⟩,by
   exact hw.pik [[oQ b3 [Value.slice a20 (l++dedI (Jaq y.x)).length c20] 51],[rowI a20 c20 (l++dedI (Jaq y.x))],[rowI qa qc (dedI (Jaq y.x))],[oQ b5 (agC y) 29],[oQ b1 (cgC g) 32]] [0,1,4] 5⟩) (by show g.bd.length - (i+1)<g.bd.length - i;omega)
 refine Ce (Xe (Xe (Xh (Xn (Csr (WL.alloc T.zr4 rfl ?_))))));intro b6;refine WL.bw (o:=0) rfl rfl rfl T.z4 Nat.zero_lt_one ?_;refine Nn (Cs ?_);rw [xK (by omega)] at hle;obtain rfl:l=bodyI g.cl:=hle;refine WC.weak (S':=Sat0 w (stU b6 b3 la lc (bodyI g.cl) ([])++[oQ b1 (cgC g) 32])) (fun w' hw=>hw.perm (List.Perm.refl _)) ?_;refine Cr (Zv (OV.makeFunc rfl) (Za rfl (Nn (Csr (Zv (OV.f0 0 rfl T.u32 rfl) (Zv (OV.ai (cs:=atC g.hd.x g.hd.a g.hd.c) rfl T.u29 rfl T.z29 (fun _ hw j v hj=>by rw [Jap];exact Jbv hw (show oQ b1 (cgC g) 32∈_ by simp) (o:=0) (cs':=atC g.hd.x g.hd.a g.hd.c) rfl j v hj)) (Zm rfl ?_)))))));refine WL.j2 (fun w' hw'=>stU_blk [] (show Sat w (fun _=>False) _ w (stU b6 b3 la lc (bodyI g.cl) ([])++[oQ b1 (cgC g) 32]) w' from hw')) (fun hB=>?_);have hU:=(fun hB=>(⟨by kernel_rfl,hB,fun pre t w1 hp hA=>Jki b6 b3 la lc (bodyI g.cl) hbl2 pre t w1 hA⟩:UseOK (stU b6 b3 la lc (bodyI g.cl)) 1099511627776 265 [ptr b6,ptr b3] w)) hB;refine WL.cT (ι:=Unit) (vs:=[atV g.hd.x g.hd.a g.hd.c,.func (.func 265) #[] #[ptr b6,ptr b3]]) (vv:=fun _=>.tuple #[]) (pp:=fun _=>True) (stU b6 b3 la lc (bodyI g.cl) ([])) (AA:=fun _=>stU b6 b3 la lc (bodyI g.cl) ([]++plc g.hd.x)) (ow:=[oQ b1 (cgC g) 32]) rfl (fun w' hw' hH=>(Jfg _ 1099511627776 265 _ w hU g.hd.x g.hd.a g.hd.c [] (by have:=hs.at_ g.hd (Or.inl rfl);simp [plc];omega) (Nat.le_refl _) w' hr.hd hw'.keeps hH).mono (fun en w'' ⟨h1,h2⟩=>⟨(),h1,trivial,h2⟩)) ?_;rintro _ _;refine Nn (Cs (Csr (Zv (OV.f0 6 rfl T.u32 rfl) (Zv (OV.ah (v:=.slice g.ta g.ts.length g.tc) rfl T.u30 rfl (fun _ hw=>(Jax (hw.it (oQ b1 (cgC g) 32) (by simp)) (o:=6) rfl).1)) (Zv (OV.ae rfl T.u30) (Zm rfl (Nn (Cb ?_))))))))
 refine WC.cm (fun (i:Nat)=>[(1,yZ b1),(6,yZ b6),(7,.func (.func 265) #[] #[ptr b6,ptr b3]),(28,.slice g.ta g.ts.length g.tc),(29,.int .i64 (g.ts.length:Int)),(30,.int .i64 (i:Int))])
   (fun i w'=>i≤g.ts.length∧Sat0 w (stU b6 b3 la lc (bodyI g.cl) ((plc g.hd.x++(g.ts.take i).flatMap plT))++[oQ b1 (cgC g) 32]) w')
   (fun i=>g.ts.length - i) 0 Y6 (fun w' hw=>⟨by omega,by simpa using hw⟩) ?_
 clear hi;intro i;refine WC.pure (fun hi=>?_);refine Csr (Zv (OV.cq rfl rfl) (Nn (Cs ?_)));refine Cc rfl (fun c31=>?_) (fun c31=>?_)
 ·refine Ck (Xn (Cs (Cb (Csr ?_))));obtain ⟨q1,t,hq,ht,htm,hc⟩:=hr.ts.get (i:=i) (by omega);refine Zv ((OV.ad (show _=some (Value.slice (some q1) g.ts.length g.tc) by rw [← hq];rfl) rfl T.u30 T.z61 (by omega)).cast (u:=.pointer (some (q1.add (i*7)))) (by rw [xN])) (Zv (OV.ai (cs:=tsC t) rfl T.u61 rfl T.z61 (fun _ hw j v hj=>hw.keeps _ _ (hc j v hj))) (WL.alloc T.zr61 rfl ?_));intro b9;refine WL.ag (vs:=tsC t) rfl rfl rfl T.z61 rfl ?_;refine Nn (Csr (Zm rfl (Zv (OV.f0 1 rfl T.u61 rfl) (Zv (OV.ai (cs:=tmC t.l) rfl T.u26 rfl T.z26 (fun _ hw j v hj=>by rw [Jap];exact Jbv hw yH (o:=1) (cs':=tmC t.l) rfl j v hj)) (WL.focus (ow':=stU b6 b3 la lc (bodyI g.cl) ((plc g.hd.x++(g.ts.take i).flatMap plT))++[oQ b9 (tsC t) 61,oQ b1 (cgC g) 32]) (pmC [[oQ b9 (tsC t) 61],stU b6 b3 la lc (bodyI g.cl) ((plc g.hd.x++(g.ts.take i).flatMap plT)),[oQ b1 (cgC g) 32]] [1,0,2]) ?_)))));refine WL.gx (ι:=Unit) (f:=265) (caps:=[ptr b6,ptr b3]) (vs:=[tmV t.l]) (vv:=fun _=>.tuple #[]) (SS:=fun _=>Sat0 w (stU b6 b3 la lc (bodyI g.cl) ((plc g.hd.x++(g.ts.take i).flatMap plT)++[t.l])++[oQ b9 (tsC t) 61,oQ b1 (cgC g) 32])) (by kernel_rfl) rfl rfl rfl (fun w' hw'=>(Jki b6 b3 la lc (bodyI g.cl) hbl2 ((plc g.hd.x++(g.ts.take i).flatMap plT)) t.l w' (Hw.Sat.holds hw')).mono (fun en w'' ⟨h1,h2⟩=>⟨(),h1,hw'.turns h2⟩)) ?_;intro _;refine Nn (Cr (Zm rfl (Zv (OV.f0 4 rfl T.u61 rfl) (Zv (OV.ai (cs:=tmC t.r) rfl T.u26 rfl T.z26 (fun _ hw j v hj=>by rw [Jap];exact Jbv hw (show oQ b9 (tsC t) 61∈_ by simp) (o:=4) (cs':=tmC t.r) rfl j v hj)) (WL.focus (ow':=stU b6 b3 la lc (bodyI g.cl) ((plc g.hd.x++(g.ts.take i).flatMap plT)++[t.l])++[oQ b9 (tsC t) 61,oQ b1 (cgC g) 32]) (List.Perm.refl _) ?_)))));refine WL.gx (ι:=Unit) (f:=265) (caps:=[ptr b6,ptr b3]) (vs:=[tmV t.r]) (vv:=fun _=>.tuple #[]) (SS:=fun _=>Sat0 w (stU b6 b3 la lc (bodyI g.cl) ((plc g.hd.x++(g.ts.take i).flatMap plT)++[t.l]++[t.r])++[oQ b9 (tsC t) 61,oQ b1 (cgC g) 32])) (by kernel_rfl) rfl rfl rfl (fun w' hw'=>(Jki b6 b3 la lc (bodyI g.cl) hbl2 ((plc g.hd.x++(g.ts.take i).flatMap plT)++[t.l]) t.r w' (Hw.Sat.holds hw')).mono (fun en w'' ⟨h1,h2⟩=>⟨(),h1,hw'.turns h2⟩)) ?_;intro _;refine Nl (Xb (Xn (Cr (Zv (OV.bm (j:=1) rfl rfl (by omega)) (Zm rfl (Nl ?_))))))
  exact WX.bk (i+1) Y6 (fun w' hw=>⟨by omega,by
   rw [Jb3 ht,List.flatMap_append,← xF,show [t].flatMap plT=[t.l]++[t.r] from rfl,← xF];exact hw.pik [stU b6 b3 la lc (bodyI g.cl) ((plc g.hd.x++(g.ts.take i).flatMap plT)++[t.l]++[t.r]),[oQ b9 (tsC t) 61],[oQ b1 (cgC g) 32]] [0,2] 3⟩) (by show g.ts.length - (i+1)<g.ts.length - i;omega)
 refine Ce (Xe (Xe (Xh (Xn (Csr (Zv (OV.ah (v:=.bool (uns (bodyI g.cl) (plc g.hd.x++(g.ts.take i).flatMap plT))) rfl T.u4 rfl (fun _ hw=>(Jax (hw.it (oQ b6 [Value.bool (uns (bodyI g.cl) (plc g.hd.x++(g.ts.take i).flatMap plT))] 4) (by simp [stU])) (o:=0) rfl).1)) ?_))))))
 have em:err4 g.cl=if uns (bodyI g.cl) (plc g.hd.x++(g.ts.take i).flatMap plT)=true then 34 else 0:=by
  rw [xK (by omega)];rfl
 refine WL.c0 (v:=.int .i64 (err4 g.cl)) (vs:=[.bool (uns (bodyI g.cl) (plc g.hd.x++(g.ts.take i).flatMap plT)),.int .i64 34]) (fun w' hw'=>(Jgl (uns (bodyI g.cl) (plc g.hd.x++(g.ts.take i).flatMap plT)) 34 w').mono (fun en w'' ⟨h1,h2⟩=>⟨by rw [h1,em],h2⟩)) ?_;refine Za rfl (Nn (WC.az ?_));exact WX.ret1 rfl rfl rfl (fun w' hw=>⟨rfl,hw.fr⟩)
theorem misnumbered_calls (g:CG)(hs:CS g)(w:World)(hN:Jdb w)(hr:RC w g):Calls Tryz.prog 263 #[cgV g] w fun e w'=>e=.returned (.int .i64 (err5 g.cl))∧Fr0 w w':=by
 refine Jbo (args:=[cgV g]) (fun _=>False) Tryz.func263 rfl Tryz.ntmps263 rfl rfl ?_;refine Csr (WL.box rfl rfl rfl ?_);intro b1;refine Za rfl (Nn (Csr (WL.alloc T.zr3 rfl ?_)));intro b3;refine WL.alloc T.zr4 rfl ?_;intro b4;refine WL.focus perm1 (WL.bw (o:=0) rfl rfl rfl T.z3 Nat.zero_lt_one ?_);refine WL.focus perm1 (WL.bw (o:=0) rfl rfl rfl T.z4 Nat.zero_lt_one ?_);refine Nn (Csr (Zv (OV.lN (cs:=cgC g) rfl T.u32 rfl T.z32 yJ) (Zv (OV.makeFunc rfl) ?_)));refine WL.j2 (fun w' hw'=>stM_blk [] (show Sat w (fun _=>False) _ w (stM b4 b3 []++[oQ b1 (cgC g) 32]) w' from hw')) (fun hB=>?_);have hU:UseOK (stM b4 b3) 1099511627776 267 [ptr b4,ptr b3] w:=⟨by kernel_rfl,hB,fun pre t w1 hp hA=>misU_calls b4 b3 pre hp t w1 hA⟩
 refine WL.cT (ι:=Unit) (vs:=[cgV g,.func (.func 267) #[] #[ptr b4,ptr b3]]) (vv:=fun _=>.tuple #[]) (pp:=fun _=>True) (stM b4 b3 []) (AA:=fun _=>stM b4 b3 (Jbi g.cl)) (ow:=[oQ b1 (cgC g) 32]) rfl (fun w' hw' hH=>(termsU_calls _ 1099511627776 267 _ w hU g [] (by have:=hs.tt;simp;omega) (Nat.le_refl _) hs.bl hs.tl w' hr hw'.keeps hH).mono (fun en w'' ⟨h1,h2⟩=>⟨(),h1,trivial,h2⟩)) ?_;rintro _ _;refine Nn (Csr (Zv (OV.ah (v:=.bool (misF (Jbi g.cl)).2) rfl T.u4 rfl (fun _ hw=>(Jax (hw.it (oQ b4 [Value.bool (misF (Jbi g.cl)).2] 4) (by simp [stM])) (o:=0) rfl).1)) (WL.au (v:=.int .i64 (err5 g.cl)) (by kernel_rfl) rfl rfl (fun w' hw'=>Jgl (misF (Jbi g.cl)).2 35 w') ?_)));refine Za rfl (Nn (WC.az ?_));exact WX.ret1 rfl rfl rfl (fun w' hw=>⟨rfl,hw.fr⟩)
theorem cvars_calls (g:CG)(hs:CS g)(w:World)(hr:RC w g):Calls Tryz.prog 10 #[cgV g] w fun e w'=>e=.returned (.int .i64 (nV g.cl:Nat))∧Fr0 w w':=by
 refine Jbo (args:=[cgV g]) (fun _=>False) Tryz.func10 rfl Tryz.ntmps10 rfl rfl ?_;refine Csr (WL.box rfl rfl rfl ?_);intro b1;refine Za rfl (Nn (Csr (WL.makeMap (iV) rfl ?_)));intro m4;refine WL.alloc T.zr81 rfl ?_;intro b3;refine WL.bw (o:=0) rfl rfl rfl T.z81 Nat.zero_lt_one ?_;refine Nn (Csr (Zv (OV.lN (cs:=cgC g) rfl T.u32 rfl T.z32 yJ) (Zv (OV.makeFunc rfl) ?_)));refine WL.j2 (fun w' hw'=>stV_blk [] (show Sat w (fun _=>False) _ w (stV b3 m4 []++[oQ b1 (cgC g) 32]) w' from hw')) (fun hB=>?_);have hU:UseOK (stV b3 m4) 1099511627776 37 [ptr b3] w:=⟨by kernel_rfl,hB,fun pre t w1 hp hA=>varsU_calls b3 m4 pre hp t w1 hA⟩
 refine WL.cT (ι:=Unit) (vs:=[cgV g,.func (.func 37) #[] #[ptr b3]]) (vv:=fun _=>.tuple #[]) (pp:=fun _=>True) (stV b3 m4 []) (AA:=fun _=>stV b3 m4 (Jbi g.cl)) (ow:=[oQ b1 (cgC g) 32]) rfl (fun w' hw' hH=>(termsU_calls _ 1099511627776 37 _ w hU g [] (by have:=hs.tt;simp;omega) (Nat.le_refl _) hs.bl hs.tl w' hr hw'.keeps hH).mono (fun en w'' ⟨h1,h2⟩=>⟨(),h1,trivial,h2⟩)) ?_;rintro _ _;refine Nn (Csr (Zv (OV.ah (v:=.map (some m4)) rfl T.u81 rfl (fun _ hw=>(Jax (hw.it (oQ b3 [Value.map (some m4)] 81) (by simp [stV])) (o:=0) rfl).1)) (Zv ((OV.lenMap T.u81 rfl (fun _ hw=>hw.it (own m4 (mapK iV (cntM (vnums (Jbi g.cl))))) (by simp [stV]))).cast (u:=.int .i64 (nV g.cl:Nat)) (by rw [nV_cnt])) (Za rfl (Nn (WC.az ?_))))));exact WX.ret1 rfl rfl rfl (fun w' hw=>⟨rfl,hw.fr⟩)
theorem checks_run (g:CG)(hs:CS g){i:Nat}{f:Nat}{e:Int}(hf:[258,259,260,261,262,263][i]?=some f)(he:(errL g.cl)[i]?=some e)(w:World)(hN:Jdb w)(hr:RC w g):bodied Tryz.prog f=true∧Calls Tryz.prog f #[cgV g] w fun en w'=>en=.returned (.int .i64 e)∧Fr0 w w':=by
 rcases i with _ | _ | _ | _ | _ | _ | i
 ·obtain rfl:=xH hf;obtain rfl:=xH he;exact ⟨by kernel_rfl,tooLong_calls g hs w hN hr⟩
 ·obtain rfl:=xH hf;obtain rfl:=xH he;exact ⟨by kernel_rfl,badAtom_calls g hs w hN hr⟩
 ·obtain rfl:=xH hf;obtain rfl:=xH he;exact ⟨by kernel_rfl,badTest_calls g hs w hN hr⟩
 ·obtain rfl:=xH hf;obtain rfl:=xH he;exact ⟨by kernel_rfl,openHead_calls g hs w hN hr⟩
 ·obtain rfl:=xH hf;obtain rfl:=xH he;exact ⟨by kernel_rfl,unsafe_calls g hs w hN hr⟩
 ·obtain rfl:=xH hf;obtain rfl:=xH he;exact ⟨by kernel_rfl,misnumbered_calls g hs w hN hr⟩
 ·simp at hf
theorem chkL_at {i:Nat}{f:Nat}(hf:[258,259,260,261,262,263][i]?=some f):chkL.toArray.extract (i*1) (i*1+1)=#[Value.func (.func f) #[] #[]]:=by
 rcases i with _ | _ | _ | _ | _ | _ | i
 ·obtain rfl:=xH hf;rfl
 ·obtain rfl:=xH hf;rfl
 ·obtain rfl:=xH hf;rfl
 ·obtain rfl:=xH hf;rfl
 ·obtain rfl:=xH hf;rfl
 ·obtain rfl:=xH hf;rfl
 ·simp at hf
theorem check_calls (g:CG)(hs:CS g)(w:World)(hN:Jdb w)(hC:Jjz w)(hr:RC w g):Calls Tryz.prog 113 #[cgV g] w fun e w'=>e=.returned (.int .i64 (chkC g.cl))∧Fr0 w w':=by
 refine Jbo (args:=[cgV g]) (fun _=>False) Tryz.func113 rfl Tryz.ntmps113 rfl rfl ?_;refine Csr (WL.box rfl rfl rfl ?_);intro b1;refine Za rfl (Nn (Cs (Csr (Zv (OV.ai (cs:=chkL) rfl T.u232 rfl T.z232 (fun _ hw j v hj=>by rw [Jap,xM];exact hw.keeps _ _ (hC j v hj))) (Zm rfl (Nn (Cb ?_)))))))
 refine WC.cm (fun (i:Nat)=>[(1,yZ b1),(6,.agg chkL.toArray),(7,.int .i64 (i:Int))])
   (fun i w'=>(i≤6∧∀ u∈(errL g.cl).take i,u=0)∧Sat0 w (oQ b1 (cgC g) 32::[]) w')
   (fun i=>6 - i) 0 Y3 (fun w' hw=>⟨⟨by omega,fun y hy=>by simp at hy⟩,hw⟩) ?_
 intro i;refine WC.pure (fun hi=>?_);obtain ⟨hi,hn⟩:=hi;refine Csr (Zv (OV.cq rfl rfl) (Nn (Cs ?_)));refine Cc rfl (fun c8=>?_) (fun c8=>?_)
 ·refine Ck (Xn (Cs (Cb (Csr ?_))));obtain ⟨f,hf⟩:∃ f,[258,259,260,261,262,263][i]?=some f:=⟨_,xD (by show i<6;omega)⟩
  obtain ⟨e,he⟩:∃ e,(errL g.cl)[i]?=some e:=⟨_,xD (by show i<6;omega)⟩
  refine Zv (OV.indexArrS (vs:=[.func (.func f) #[] #[]]) rfl rfl T.u232 T.u231 rfl T.z231 (by omega) (by rw [xN];exact chkL_at hf)) (WL.alloc T.zr231 rfl ?_);intro b4;refine WL.ag (vs:=[.func (.func f) #[] #[]]) rfl rfl rfl T.z231 rfl ?_;refine Nn (Csr (Zv (OV.f0 0 rfl T.u231 rfl) (Zv (OV.l1 (v:=.func (.func f) #[] #[]) rfl T.u189 rfl yH rfl) (Zv (OV.lN (cs:=cgC g) rfl T.u32 rfl T.z32 yI) ?_))));refine WL.j2 (fun w' hw'=>(checks_run g hs hf he w' (hN.keeps hw'.keeps) (hr.keeps hw'.keeps)).1) (fun hbf=>?_);refine WL.gx (ι:=Unit) (f:=f) (caps:=[]) (vs:=[cgV g]) (vv:=fun _=>.int .i64 e) (SS:=fun _=>Sat0 w (oQ b4 [Value.func (.func f) #[] #[]] 231::oQ b1 (cgC g) 32::[])) hbf rfl rfl rfl (fun w' hw'=>(checks_run g hs hf he w' (hN.keeps hw'.keeps) (hr.keeps hw'.keeps)).2.mono (fun en w'' ⟨h1,h2⟩=>⟨(),h1,hw'.keep h2⟩)) ?_;intro _;refine Za rfl (Nn (Csr (Zm rfl (Zv (OV.iu rfl rfl) (Nn ?_)))));refine Cc rfl (fun c15=>?_) (fun c15=>?_)
  ·refine Csr (Zm rfl (Za rfl (Nn (WC.az ?_))));refine Xq (Xr (Xr (Xq (Xr ?_))));exact WX.ret1 rfl rfl rfl (fun w' hw=>⟨by rw [show chkC g.cl=e from Jn0 he c15 hn],hw.fr⟩)
  refine Ck (Xb (Xn (Cr (Zv (OV.bm (j:=1) rfl rfl (by omega)) (Zm rfl (Nl ?_))))));exact WX.bk (i+1) Y3 (fun w' hw=>⟨⟨by omega,zero_step hn he (by simpa using c15)⟩,hw.drop⟩) (by show 6 - (i+1)<6 - i;omega)
 refine Ce (Xe (Xe (Xh (Xn (Csr (Za rfl (Nn (WC.az ?_))))))));exact WX.ret1 rfl rfl rfl (fun w' hw=>⟨by rw [show chkC g.cl=0 from Jmc (fun u hu=>hn u (by rw [xK (by show 6≤i;omega)];exact hu))],hw.fr⟩)
abbrev nI (l:List Nat):List Int:=l.map fun n:Nat=>(n:Int)
def refC (c:Cl)(lead:Int):Int:=if chkC c≠0 then chkC c else if lead < -1∨(c.bd.length:Int)≤lead then 91 else 0
def KM (w:World)(m:Nat)(V:List Int):Prop:=w.heap[m]?=some (mapK iV (cntM V))
theorem KM.fr0 {w w':World}{m:Nat}{V:List Int}(h:KM w m V)(hf:Fr0 w w'):KM w' m V:=(hf.keep m (Array.getElem?_eq_some_iff.1 h).1 (fun h=>h)).trans h
theorem Jl9 {V V':List Int}(h:∀ v,v∈V↔v∈V')(t:Tm):knB V t=knB V' t:=by
 unfold knB;rw [decide_eq_decide.2 (h t.n)]
theorem Jiy {V V':List Int}(h:∀ v,v∈V↔v∈V')(x:At):Jbx V x=Jbx V' x:=by
 unfold Jbx;exact List.filter_congr fun i _=>Jl9 h _
theorem readyB_congr {V V':List Int}(h:∀ v,v∈V↔v∈V')(t:Ts):Jip V t=Jip V' t:=by
 unfold Jip;rw [Jl9 h,Jl9 h]
theorem btr_congr {V V':List Int}(h:∀ v,v∈V↔v∈V')(x y:At):btr V x y=btr V' x y:=by
 unfold btr;rw [Jiy h,Jiy h]
theorem nextP_congr {V V':List Int}(h:∀ v,v∈V↔v∈V')(c:Cl)(jo:List Nat):nextP c jo V=nextP c jo V':=by
 unfold nextP
 have e:nxF c jo V=nxF c jo V':=funext fun b=>funext fun i=>by
  unfold nxF;simp only [btr_congr h]
 rw [e]
structure JG where
 a:Nat
 ka:Option Addr
 kc:Nat
 kn:List Int
 ta:Option Addr
 tc:Nat
 ts:List Int
def jgC (y:JG):List Value:=[.int .i64 (y.a:Int),.slice y.ka y.kn.length y.kc,.slice y.ta y.ts.length y.tc]
theorem jgC_len (y:JG):(jgC y).length=3:=rfl
theorem jgC_one (y:JG):∀ v∈jgC y,v.oneCell'=true:=by simp [jgC,Value.oneCell']
abbrev rowJ (a:Option Addr)(c:Nat)(ys:List JG):Hw.Item:=row 141 3 a ys.length c (ys.flatMap jgC)
theorem T.apJ:appB Tryz.prog 85 141 3 56=true:=by kernel_rfl
structure RJ (w:World) (a:Option Addr) (ys:List JG):Prop where
 nil:a=none→ys.length=0
 at_:∀ q,a=some q→∀ i y,ys[i]?=some y→∀ j v,(jgC y)[j]?=some v→w.cell? ((q.add (i*3)).add j)=some v
theorem RJ.keeps {w w':World}{a:Option Addr}{ys:List JG}(h:RJ w a ys)(k:Keeps w w'):RJ w' a ys:=⟨h.nil,fun q hq i t ht j v hv=>k _ _ (h.at_ q hq i t ht j v hv)⟩
theorem RJ.get {w:World}{a:Option Addr}{ys:List JG}(h:RJ w a ys){i:Nat}(hi:i<ys.length):∃ q t,a=some q∧ys[i]?=some t∧t∈ys∧∀ j v,(jgC t)[j]?=some v→w.cell? ((q.add (i*3)).add j)=some v:=by
 cases a with
 | none=>have:=h.nil rfl;omega
 | some q=>exact ⟨q,ys[i],rfl,xD hi,List.getElem_mem hi,h.at_ q rfl i _ (xD hi)⟩
theorem RJ.of_row {w0 ws w:World}{M I:Nat→Prop}{ow:List Hw.Item}{a:Option Addr}{c:Nat}{ys:List JG}(hw:Sat w0 M I ws ow w)(hm:rowJ a c ys∈ow):RJ w a ys:=by
 refine ⟨fun ha=>?_,fun q hq i t ht j v hv=>?_⟩
 ·rcases (Jd4 hw hm).2 with ⟨_,h,_⟩ | ⟨b,hb,_⟩
  ·exact h
  ·rw [ha] at hb;cases hb
 ·subst hq;have hj:j<3:=(List.getElem?_eq_some_iff.1 hv).1;have h1:=Jdr hw hm (i*3+j) v (by rw [Jcu jgC_len ys i j t ht hj];exact hv);rwa [Jdy] at h1
theorem Jfa (p:Nat→Bool)(i:Nat):(List.range (i+1)).filter p=(List.range i).filter p++(if p i=true then [i] else []):=by
 rw [List.range_succ,List.filter_append]
 by_cases h:p i=true
 ·rw [if_pos h,List.filter_cons_of_pos h];rfl
 ·rw [if_neg h,List.filter_cons_of_neg h];rfl
theorem Je8 (p:Nat→Bool)(i:Nat):((List.range i).filter p).length≤i:=by
 have:=List.length_filter_le p (List.range i);rwa [List.length_range] at this
theorem refused_calls (g:CG)(hs:CS g)(lead:Int)(w:World)(hN:Jdb w)(hC:Jjz w)(hr:RC w g):Calls Tryz.prog 83 #[cgV g,.int .i64 lead] w fun e w'=>e=.returned (.int .i64 (refC g.cl lead))∧Fr0 w w':=by
 refine Jbo (args:=[cgV g,.int .i64 lead]) (fun _=>False) Tryz.func83 rfl Tryz.ntmps83 rfl rfl ?_;refine Csr (WL.box rfl rfl rfl ?_);intro b2;refine Za rfl (Nn (Cs (Csr (Zv (OV.lN (cs:=cgC g) rfl T.u32 rfl T.z32 yH) (WL.au (v:=.int .i64 (chkC g.cl)) (by kernel_rfl) rfl rfl (fun w' hw'=>check_calls g hs w' (hN.keeps hw'.keeps) (hC.keeps hw'.keeps) (hr.keeps hw'.keeps)) ?_)))));refine Za rfl (Nn (Csr (Zm rfl (Zv (OV.iu rfl rfl) (Nn ?_)))));refine Cc rfl (fun c9=>?_) (fun c9=>?_)
 ·refine Csr (Zm rfl (Za rfl (Nn (WC.az ?_))));refine Xr ?_;exact WX.ret1 rfl rfl rfl (fun w' hw=>⟨by unfold refC;rw [if_pos c9],hw.fr⟩)
 refine Ck (Xn (Cs (Csr (Zm rfl (Zv (OV.cq rfl rfl) (Zm rfl ?_))))));refine Zp (t:=13) rfl (fun g13=>?_) (fun g13=>?_)
 ·refine yX (yX (yX (yX (yX (Zv (OV.am rfl rfl) (Nn (WC.co (show _=some (Value.bool true) from by rfl) ?_)))))));refine Csr (Za rfl (Nn (WC.az ?_)));refine Xr ?_;exact WX.ret1 rfl rfl rfl (fun w' hw=>⟨by unfold refC;rw [if_neg (fun h=>h c9),if_pos (Or.inl g13)],hw.fr⟩)
 refine yY (Zm rfl (yY (Zv (OV.f0 5 rfl T.u32 rfl) (yY (Zv (OV.l1 (v:=.slice g.ba g.bd.length g.bc) rfl T.u22 rfl yH rfl) (yY (Zv (OV.ae rfl T.u22) (yY (Zv (OV.jy rfl rfl) (Zv (OV.aj rfl rfl) (Nn ?_)))))))))));refine Cc rfl (fun c19=>?_) (fun c19=>?_)
 ·refine Csr (Za rfl (Nn (WC.az ?_)));refine Xr ?_;have hbl:g.cl.bd.length=g.bd.length:=xE _;exact WX.ret1 rfl rfl rfl (fun w' hw=>⟨by unfold refC;rw [if_neg (fun h=>h c9),if_pos (Or.inr (by rw [hbl];exact c19))],hw.fr⟩)
 refine Ck (Xn (Csr (Za rfl (Nn (WC.az ?_)))));have hbl:g.cl.bd.length=g.bd.length:=xE _;exact WX.ret1 rfl rfl rfl (fun w' hw=>⟨by unfold refC;rw [if_neg (fun h=>h c9),if_neg (by rw [hbl];omega)],hw.fr⟩)
theorem columns_calls (x:At)(a:Option Addr)(c:Nat)(hl:x.args.length≤1048576)(w:World)(hr:RT w a x.args):Calls Tryz.prog 116 #[atV x a c] w fun e w'=>∃ b lc,e=.returned (.slice (some ⟨b,0,none⟩) (plc x).length lc)∧Turns [] [rowT (some ⟨b,0,none⟩) lc (plc x)] w w':=by
 refine Jbo (args:=[atV x a c]) (fun _=>False) Tryz.func116 rfl Tryz.ntmps116 rfl rfl ?_;refine Csr (WL.box rfl rfl rfl ?_);intro b1;refine Za rfl (Nn (Csr (Zv (OV.f0 0 rfl T.u29 rfl) (Zv (OV.ai (cs:=tmC x.b) rfl T.u26 rfl T.z26 (fun _ hw j v hj=>by rw [Jap];exact Jbv hw yH (o:=0) (cs':=tmC x.b) rfl j v hj)) (WL.bg (cs:=tmC x.b) T.u27 T.z26 T.zr26 rfl rfl (by omega) (by omega) rfl ?_)))));intro b5;refine WL.weak (S':=Sat0 w (row 26 3 (some ⟨b5,0,none⟩) 1 1 (tmC x.b)::oQ b1 (atC x a c) 29::[])) (fun w' hw=>hw.asRow (m:=1) rfl (by decide)) ?_;refine Zv (OV.f0 4 rfl T.u29 rfl) (Zv (OV.l1 (v:=.slice a x.args.length c) rfl T.u27 rfl yI rfl) (WL.append (news:=x.args.flatMap tmC) rfl rfl T.apT (fun _ _=>Src.of_rt hr.nil (fun _ hw=>hr.keeps hw.keeps)) (Jj0 _) ⟨by omega,by unfold maxLen;omega⟩ rfl ?_));intro a8 c8;refine Za rfl (Nn (WC.az ?_));have el:1+x.args.length=(plc x).length:=by simp [plc];omega
 have ef:tmC x.b++x.args.flatMap tmC=(plc x).flatMap tmC:=rfl;rw [el,ef];refine WX.know (fun w' hw=>(show ∃ b,a8=some ⟨b,0,none⟩ from Jed (hw.it (rowT a8 c8 (plc x)) yH) (by simp [plc]))) (fun hq=>?_);obtain ⟨bq,rfl⟩:=hq;exact WX.ret1 rfl rfl rfl (fun w' hw=>⟨bq,c8,rfl,(hw.pik [[rowT (some ⟨bq,0,none⟩) c8 (plc x)],[oQ b1 (atC x a c) 29]] [0] 2).turned0⟩)
theorem pknown_calls (x:At)(a:Option Addr)(c:Nat)(V:List Int)(m:Nat)(hl:x.args.length≤1048575)(w:World)(hr:RT w a x.args)(hM:KM w m V):Calls Tryz.prog 86 #[atV x a c,.map (some m)] w fun e w'=>∃ z:Option Addr × Nat,e=.returned (.slice z.1 (nI (Jbx V x)).length z.2)∧Turns [] [rowI z.1 z.2 (nI (Jbx V x))] w w':=by
 refine Jbo (args:=[atV x a c,.map (some m)]) (fun _=>False) Tryz.func86 rfl Tryz.ntmps86 rfl rfl ?_;refine Csr (WL.box rfl rfl rfl ?_);intro b2;refine Za rfl (Nn (Csr (Za rfl (Nn (Cs (Csr (Zv (OV.lN (cs:=atC x a c) rfl T.u29 rfl T.z29 yH) (WL.cT (ι:=Nat × Nat) (vs:=[atV x a c]) (vv:=fun q=>.slice (some ⟨q.1,0,none⟩) (plc x).length q.2) (pp:=fun _=>True) [] (AA:=fun q=>[rowT (some ⟨q.1,0,none⟩) q.2 (plc x)]) rfl (fun w' hw' _=>(columns_calls x a c (by omega) w' (hr.keeps hw'.keeps)).mono (fun en w'' ⟨b,lc,q1,q2⟩=>⟨(b,lc),q1,trivial,q2⟩)) ?_))))))));rintro ⟨pb,pc⟩ _;have hpl:(plc x).length=x.args.length+1:=by simp [plc]
 refine Zv (OV.ae rfl T.u27) (Zm rfl (Nn (Cb (WC.weak (S':=Sat0 w (row 3 1 none 0 0 []::rowT (some ⟨pb,0,none⟩) pc (plc x)::oQ b2 (atC x a c) 29::[])) (fun w' hw=>hw.rowNil 3 1) ?_))))
 refine WC.dd (fun (i:Nat) (la:Option Addr) (lc:Nat) (l:List Int)=>[(1,.map (some m)),(5,.slice la l.length lc),(9,.slice (some ⟨pb,0,none⟩) (plc x).length pc),(10,.int .i64 ((plc x).length:Int)),(11,.int .i64 (i:Int))])
   (fun i la lc l w'=>(i≤(plc x).length∧l=nI ((List.range i).filter (fun i=>knB V ((plc x).getD i T0)))∧l.length≤i)∧Sat0 w (rowI la lc l::rowT (some ⟨pb,0,none⟩) pc (plc x)::oQ b2 (atC x a c) 29::[]) w')
   (fun i _ _ _=>(plc x).length - i) 0 none 0 [] Y5 (fun w' hw=>⟨⟨by omega,rfl,by simp⟩,hw⟩) ?_
 intro i la lc l;refine WC.pure (fun hi=>?_);obtain ⟨hi,hle,hll⟩:=hi;refine Csr (Zv (OV.cq rfl rfl) (Nn (Cs ?_)));refine Cc rfl (fun c12=>?_) (fun c12=>?_)
 ·refine Ck (Xn (Cs (Cb (Csr (Zm rfl ?_)))));obtain ⟨t,ht⟩:∃ t,(plc x)[i]?=some t:=⟨_,xD (by omega)⟩
  have htd:(plc x).getD i T0=t:=by rw [yF,ht];rfl
  refine Zv ((OV.ad rfl rfl T.u27 T.z26 (by omega)).cast (u:=.pointer (some ((⟨pb,0,none⟩:Addr).add (i*3)))) (by rw [xN])) (Zv (OV.ai (cs:=tmC t) rfl T.u26 rfl T.z26 (fun _ hw j v hj=>(RT.of_row (c:=pc) rfl hw yI:RT _ (some ⟨pb,0,none⟩) (plc x)).at_ _ rfl i t ht j v hj)) (WL.alloc T.zr26 rfl ?_));intro b7;refine Za rfl (WL.ag (vs:=tmC t) rfl rfl rfl T.z26 rfl ?_);refine Nn (Cs ?_);refine WC.ir [(1,.map (some m)),(5,.slice la l.length lc),(6,.int .i64 (i:Int)),(9,.slice (some ⟨pb,0,none⟩) (plc x).length pc),(10,.int .i64 ((plc x).length:Int)),(11,.int .i64 (i:Int)),(25,.bool (knB V t))] (Sat0 w (oQ b7 (tmC t) 26::rowI la lc l::rowT (some ⟨pb,0,none⟩) pc (plc x)::oQ b2 (atC x a c) 29::[])) ?_ ?_
  ·refine Cr (Zv (OV.lN (cs:=tmC t) rfl T.u26 rfl T.z26 yH) (WL.au (v:=.bool (varB t)) (by kernel_rfl) rfl rfl (fun w' hw'=>Jcs t w') ?_));refine Zv (OV.not rfl) (Zm rfl ?_);refine Zp (t:=19) rfl (fun g19=>?_) (fun g19=>?_)
   ·refine yX (yX (yX (yX (yX (Zv (OV.am rfl rfl) (Nl ?_))))));have ek:knB V t=true:=by unfold knB;rw [show varB t=false by simpa using g19];rfl
    exact WX.dz ⟨rfl,rfl,rfl,rfl,rfl,rfl,by rw [ek];rfl,trivial⟩ (fun w' hw=>hw)
   refine yY (Zm rfl (yY (Zv (OV.f0 1 rfl T.u26 rfl) (yY (Zv (OV.l1 (v:=.int .i64 t.n) rfl T.u3 rfl yH rfl) (yY (Zv ((OV.lookup Jiq T.u81 (show Program.zv Tryz.prog 3=some (.int .i64 0) by kernel_rfl) rfl rfl (fun _ hw=>hM.fr0 hw.fr)).cast (u:=.int .i64 ((V.count t.n:Nat):Int)) (Jkb _ _)) (yY (Zv (OV.lj rfl rfl) (Zv (OV.aj rfl rfl) (Nl ?_)))))))))));have ek:knB V t=decide (((V.count t.n:Nat):Int) > 0):=by unfold knB;rw [show varB t=true by simpa using g19];exact decide_eq_decide.2 cnt_pos.symm
   exact WX.dz ⟨rfl,rfl,rfl,rfl,rfl,rfl,by rw [ek];rfl,trivial⟩ (fun w' hw=>hw)
  refine Cc rfl (fun c25=>?_) (fun c25=>?_)
  ·refine Cr (Zm rfl (Zm rfl (WL.br T.u51 T.z3 T.zr3 rfl rfl rfl ?_)));intro b28;refine WL.focus (ow':=rowI la lc l::oQ b28 [Value.int .i64 (i:Int)] 3::oQ b7 (tmC t) 26::rowT (some ⟨pb,0,none⟩) pc (plc x)::oQ b2 (atC x a c) 29::[]) (pmP [_,_,_,_,_] [2,0,1,3,4]) ?_;refine WL.append (news:=ints [(i:Int)]) rfl rfl T.apI (fun _ _=>Jeg yI rfl) (Jes [(i:Int)]) ⟨by omega,by unfold maxLen;omega⟩ rfl ?_;intro a29 c29;refine Za rfl (Nl (Xb (Xn (Cr (Zv (OV.bm (j:=1) rfl rfl (by omega)) (Zm rfl (Nl ?_)))))));have el:l.length+1=(l++[(i:Int)]).length:=by simp
   have ef:ints l++ints [(i:Int)]=ints (l++[(i:Int)]):=by simp [ints]
   rw [el,ef]
   exact WX.cg (i+1) a29 c29 (l++[(i:Int)]) Y5 (fun w' hw=>⟨⟨by omega,by
    rw [Jfa,show knB V ((plc x).getD i T0)=true by rw [htd];exact c25,if_pos rfl,hle];simp,by simp;omega⟩,by
    exact hw.pik [[rowI a29 c29 (l++[(i:Int)])],[oQ b28 [Value.int .i64 (i:Int)] 3],[oQ b7 (tmC t) 26],[rowT (some ⟨pb,0,none⟩) pc (plc x)],[oQ b2 (atC x a c) 29]] [0,3,4] 5⟩) (by show (plc x).length - (i+1)<(plc x).length - i;omega)
  refine Ck (Xb (Xn (Cr (Zv (OV.bm (j:=1) rfl rfl (by omega)) (Zm rfl (Nl ?_))))))
  exact WX.cg (i+1) la lc l Y5 (fun w' hw=>⟨⟨by omega,by
   rw [Jfa,show knB V ((plc x).getD i T0)=false by rw [htd];exact c25,if_neg (by simp),xZ];exact hle,by omega⟩,hw.drop⟩) (by show (plc x).length - (i+1)<(plc x).length - i;omega)
 refine Ce (Xe (Xe (Xh (Xn (Csr (Zm rfl (Za rfl (Nn (WC.az ?_)))))))));obtain rfl:i=(plc x).length:=by omega
 have hle2:l=nI (Jbx V x):=hle;subst hle2;exact WX.ret1 rfl rfl rfl (fun w' hw=>⟨(la,lc),rfl,(hw.pik [[rowI la lc (nI (Jbx V x))],[rowT (some ⟨pb,0,none⟩) pc (plc x)],[oQ b2 (atC x a c) 29]] [0] 3).turned0⟩)
theorem pready_calls (t:Ts)(V:List Int)(m:Nat)(w:World)(hM:KM w m V):Calls Tryz.prog 84 #[tsV t,.map (some m)] w fun e w'=>e=.returned (.tuple #[.bool (Jip V t),.bool (varB t.l || varB t.r)])∧Fr0 w w':=by
 refine Jbo (args:=[tsV t,.map (some m)]) (fun _=>False) Tryz.func84 rfl Tryz.ntmps84 rfl rfl ?_;refine Csr (WL.box rfl rfl rfl ?_);intro b2;refine Za rfl (Za rfl (Nn (Csr (Za rfl (Za rfl (Nn (Cs (Csr (Zv (OV.f0 1 rfl T.u61 rfl) (Zv (OV.ai (cs:=tmC t.l) rfl T.u26 rfl T.z26 (fun _ hw j v hj=>by rw [Jap];exact Jbv hw yH (o:=1) (cs':=tmC t.l) rfl j v hj)) (Zv (OV.f0 4 rfl T.u61 rfl) (Zv (OV.ai (cs:=tmC t.r) rfl T.u26 rfl T.z26 (fun _ hw j v hj=>by rw [Jap];exact Jbv hw yH (o:=4) (cs':=tmC t.r) rfl j v hj)) (WL.buildSliceB (xs:=[.tmp 11,.tmp 13]) (css:=[tmC t.l,tmC t.r]) rfl T.u27 T.z26 T.zr26 rfl rfl (by simp [tmC]) (by decide) (by decide) rfl ?_)))))))))))));intro b14;refine Zv (OV.ae rfl T.u27) (Zm rfl (Nn (Cb ?_)))
 refine WC.cm (fun (i:Nat)=>[(1,.map (some m)),(6,.bool (([t.l,t.r].take i).all (knB V))),(7,.bool (([t.l,t.r].take i).any varB)),(14,.slice (some ⟨b14,0,none⟩) 2 2),(15,.int .i64 2),(16,.int .i64 (i:Int))])
   (fun i w'=>i≤2∧Sat0 w (own b14 (.cells [tmC t.l,tmC t.r].flatten.toArray 26 (0,0))::oQ b2 (tsC t) 61::[]) w')
   (fun i=>2 - i) 0 Y6 (fun w' hw=>⟨by omega,hw⟩) ?_
 intro i;refine WC.pure (fun hi=>?_);refine Csr (Zv (OV.cq rfl rfl) (Nn (Cs ?_)));refine Cc rfl (fun c17=>?_) (fun c17=>?_)
 ·refine Ck (Xn (Cs (Cb (Csr ?_))));obtain ⟨u,hu⟩:∃ u,[t.l,t.r][i]?=some u:=⟨_,xD (by show i<2;omega)⟩
  refine Zv ((OV.ad rfl rfl T.u27 T.z26 (by omega)).cast (u:=.pointer (some ((⟨b14,0,none⟩:Addr).add (i*3)))) (by rw [xN])) ?_;refine WL.val (OV.ai (cs:=tmC u) rfl T.u26 rfl T.z26 (fun _ hw j v hj=>by rw [Jap,xM,Jap];exact Jbh hw yH (i*3+j) v (by have hj3:j<3:=(List.getElem?_eq_some_iff.1 hj).1;rw [show [tmC t.l,tmC t.r].flatten=[t.l,t.r].flatMap tmC from rfl,Jcu Jc0 _ i j u hu hj3];exact hj))) rfl ?_;refine WL.alloc T.zr26 rfl ?_;intro b9;refine WL.ag (vs:=tmC u) rfl rfl rfl T.z26 rfl ?_;refine Nn (Csr (Zv (OV.lN (cs:=tmC u) rfl T.u26 rfl T.z26 yH) (WL.au (v:=.bool (varB u)) (by kernel_rfl) rfl rfl (fun w' hw'=>Jcs u w') ?_)));refine Nn ?_;refine Cc rfl (fun c21=>?_) (fun c21=>?_)
  ·refine Csr (Za rfl (Nn (Cr (Zm rfl (Zm rfl ?_)))));refine Zp (t:=23) rfl (fun g23=>?_) (fun g23=>?_)
   ·refine yY (Zm rfl (yY (Zv (OV.f0 1 rfl T.u26 rfl) (yY (Zv (OV.l1 (v:=.int .i64 u.n) rfl T.u3 rfl yH rfl) (yY (Zv ((OV.lookup Jiq T.u81 (show Program.zv Tryz.prog 3=some (.int .i64 0) by kernel_rfl) rfl rfl (fun _ hw=>hM.fr0 hw.fr)).cast (u:=.int .i64 ((V.count u.n:Nat):Int)) (Jkb _ _)) (yY (Zv (OV.lj rfl rfl) (Zv (OV.am rfl rfl) (Za rfl (Nl (Xb (Xn (Cr (Zv (OV.bm (j:=1) rfl rfl (by omega)) (Zm rfl (Nl ?_))))))))))))))))));have es:(([t.l,t.r].take (i+1)).any varB)=true:=by rw [Jb3 hu,List.any_append];simp [c21]
    have ek:(([t.l,t.r].take (i+1)).all (knB V))=decide (((V.count u.n:Nat):Int) > 0):=by rw [Jb3 hu,List.all_append,g23];simp only [List.all_cons,List.all_nil,Bool.and_true,Bool.true_and];unfold knB;rw [c21];exact decide_eq_decide.2 cnt_pos.symm
    exact WX.bk (i+1) ⟨rfl,by rw [ek];rfl,by rw [es];rfl,rfl,rfl,rfl,trivial⟩ (fun w' hw=>⟨by omega,hw.drop⟩) (by show 2 - (i+1)<2 - i;omega)
   refine yX (yX (yX (yX (yX (Zv (OV.aj rfl rfl) (Za rfl (Nl (Xb (Xn (Cr (Zv (OV.bm (j:=1) rfl rfl (by omega)) (Zm rfl (Nl ?_)))))))))))));have es:(([t.l,t.r].take (i+1)).any varB)=true:=by rw [Jb3 hu,List.any_append];simp [c21]
   have ek:(([t.l,t.r].take (i+1)).all (knB V))=false:=by rw [Jb3 hu,List.all_append,g23];rfl
   exact WX.bk (i+1) ⟨rfl,by rw [ek];rfl,by rw [es];rfl,rfl,rfl,rfl,trivial⟩ (fun w' hw=>⟨by omega,hw.drop⟩) (by show 2 - (i+1)<2 - i;omega)
  refine Ck (Xb (Xn (Cr (Zv (OV.bm (j:=1) rfl rfl (by omega)) (Zm rfl (Nl ?_))))));have es:(([t.l,t.r].take (i+1)).any varB)=(([t.l,t.r].take i).any varB):=by rw [Jb3 hu,List.any_append];simp [c21]
  have ea:(([t.l,t.r].take (i+1)).all (knB V))=(([t.l,t.r].take i).all (knB V)):=by rw [Jb3 hu,List.all_append];simp [knB,c21]
  exact WX.bk (i+1) ⟨rfl,by rw [ea];rfl,by rw [es];rfl,rfl,rfl,rfl,trivial⟩ (fun w' hw=>⟨by omega,hw.drop⟩) (by show 2 - (i+1)<2 - i;omega)
 refine Ce (Xe (Xe (Xh (Xn (Csr (Zm rfl (Zm rfl (Za rfl (Za rfl (Nn (WC.az ?_)))))))))));obtain rfl:i=2:=by omega
 have e1:(([t.l,t.r].take 2).all (knB V))=Jip V t:=by show (knB V t.l && (knB V t.r && true))=_;rw [Bool.and_true];rfl
 have e2:(([t.l,t.r].take 2).any varB)=(varB t.l || varB t.r):=by show (varB t.l || (varB t.r || false))=_;rw [Bool.or_false]
 exact WX.ret2 rfl rfl rfl rfl (fun w' hw=>⟨by rw [e1,e2],hw.fr⟩)
theorem nextF_calls (y:JG)(q:Nat)(i:Nat)(w:World)(hq:w.cell? ⟨q,0,none⟩=some (.int .i64 (i:Int))):Calls Tryz.prog 115 #[.agg (jgC y).toArray,ptr q] w fun e w'=>e=.returned (.bool (decide (y.a=i)))∧Fr0 w w':=by
 refine Jbo (args:=[.agg (jgC y).toArray,ptr q]) (fun _=>False) Tryz.func115 rfl Tryz.ntmps115 rfl rfl ?_;refine Csr (WL.box rfl rfl rfl ?_);intro b2;refine Za rfl (Nn (Csr (Zv (OV.f0 0 rfl T.u141 rfl) (Zv (OV.l1 (v:=.int .i64 (y.a:Int)) rfl T.u3 rfl yH rfl) (Zv (OV.ah (v:=.int .i64 (i:Int)) rfl T.u3 rfl (fun _ hw=>hw.keeps _ _ hq)) (Zv (OV.eb rfl rfl) (Za rfl (Nn (WC.az ?_)))))))));exact WX.ret1 rfl rfl rfl (fun w' hw=>⟨by congr 2;exact decide_eq_decide.2 (by omega),hw.fr⟩)
theorem indexJ_calls (ys:List JG)(a:Option Addr)(c q i0:Nat)(hl:ys.length≤1099511627776)(w:World)(hr:RJ w a ys)(hq:w.cell? ⟨q,0,none⟩=some (.int .i64 (i0:Int))):Calls Tryz.prog 155 #[.slice a ys.length c,.func (.func 115) #[] #[ptr q]] w fun e w'=>∃ k:Int,e=.returned (.int .i64 k)∧(0≤k↔i0∈ys.map JG.a)∧Fr0 w w':=by
 refine Jbo (args:=[.slice a ys.length c,.func (.func 115) #[] #[ptr q]]) (fun _=>False) Tryz.func155 rfl Tryz.ntmps155 rfl rfl ?_;refine Csr (Za rfl (Nn (Cs (Csr (Zm rfl (Zv (OV.ae rfl T.u85) (Zm rfl (Nn (Cb ?_)))))))))
 refine WC.cm (fun (i:Nat)=>[(0,.slice a ys.length c),(1,.func (.func 115) #[] #[ptr q]),(7,.int .i64 (ys.length:Int)),(8,.int .i64 (i:Int))])
   (fun i w'=>(i≤ys.length∧∀ y∈ys.take i,y.a≠i0)∧Sat0 w ([]) w')
   (fun i=>ys.length - i) 0 Y4 (fun w' hw=>⟨⟨by omega,fun u hu=>by simp at hu⟩,hw⟩) ?_
 intro i;refine WC.pure (fun hi=>?_);obtain ⟨hi,hn⟩:=hi;refine Csr (Zv (OV.cq rfl rfl) (Nn (Cs ?_)));refine Cc rfl (fun c9=>?_) (fun c9=>?_)
 ·refine Ck (Xn (Cs (Cb (Csr (Zm rfl (Za rfl (Nn (Csr (Zm rfl (Zm rfl (Zm rfl ?_)))))))))));obtain ⟨q1,y,hq1,hy,hym,hc⟩:=hr.get (i:=i) (by omega);refine Zv ((OV.ad (show _=some (Value.slice (some q1) ys.length c) by rw [← hq1];rfl) rfl T.u85 T.z141 (by omega)).cast (u:=.pointer (some (q1.add (i*3)))) (by rw [xN])) (Zv (OV.ai (cs:=jgC y) rfl T.u141 rfl T.z141 (fun _ hw j v hj=>hw.keeps _ _ (hc j v hj))) (WL.gx (ι:=Unit) (f:=115) (caps:=[ptr q]) (vs:=[.agg (jgC y).toArray]) (vv:=fun _=>.bool (decide (y.a=i0))) (SS:=fun _=>Sat0 w ([])) (by kernel_rfl) rfl rfl rfl (fun w' hw'=>(nextF_calls y q i0 w' (hw'.keeps _ _ hq)).mono (fun en w'' ⟨h1,h2⟩=>⟨(),h1,hw'.keep h2⟩)) ?_));intro _;refine Nn ?_;refine Cc rfl (fun c16=>?_) (fun c16=>?_)
  ·refine Csr (Zm rfl (Za rfl (Nn (WC.az ?_))));refine Xq (Xr (Xr (Xq (Xr ?_))));exact WX.ret1 rfl rfl rfl (fun w' hw=>⟨(i:Int),rfl,⟨fun _=>List.mem_map.2 ⟨y,hym,c16⟩,fun _=>by omega⟩,hw.fr⟩)
  refine Ck (Xb (Xn (Cr (Zv (OV.bm (j:=1) rfl rfl (by omega)) (Zm rfl (Nl ?_))))))
  exact WX.bk (i+1) Y4 (fun w' hw=>⟨⟨by omega,fun z hz=>by
   rw [Jb3 hy] at hz;rcases List.mem_append.1 hz with h1 | h1
   ·exact hn z h1
   ·simp only [xI] at h1;rw [h1];exact c16⟩,hw⟩) (by show ys.length - (i+1)<ys.length - i;omega)
 refine Ce (Xe (Xe (Xh (Xn (Csr (Za rfl (Nn (WC.az ?_))))))));exact WX.ret1 rfl rfl rfl (fun w' hw=>⟨-1,rfl,⟨fun h=>absurd h (by omega),fun h=>by obtain ⟨z,hz,h2⟩:=List.mem_map.1 h;exact absurd h2 (hn z (by rw [xK (by omega)];exact hz))⟩,hw.fr⟩)
theorem contJ_calls (ys:List JG)(a:Option Addr)(c q i0:Nat)(hl:ys.length≤1099511627776)(w:World)(hr:RJ w a ys)(hq:w.cell? ⟨q,0,none⟩=some (.int .i64 (i0:Int))):Calls Tryz.prog 114 #[.slice a ys.length c,.func (.func 115) #[] #[ptr q]] w fun e w'=>e=.returned (.bool (decide (i0∈ys.map JG.a)))∧Fr0 w w':=by
 refine Jbo (args:=[.slice a ys.length c,.func (.func 115) #[] #[ptr q]]) (fun _=>False) Tryz.func114 rfl Tryz.ntmps114 rfl rfl ?_;refine Csr (Za rfl (Nn (Csr (Zm rfl (Zm rfl (WL.mp (ι:=Int) (vs:=[.slice a ys.length c,.func (.func 115) #[] #[ptr q]]) (vv:=fun k=>.int .i64 k) (SS:=fun k w'=>(0≤k↔i0∈ys.map JG.a)∧Sat0 w ([]) w') (by kernel_rfl) rfl rfl (fun w' hw'=>(indexJ_calls ys a c q i0 hl w' (hr.keeps hw'.keeps) (hw'.keeps _ _ hq)).mono (fun en w'' ⟨k,h1,h2,h3⟩=>⟨k,h1,h2,hw'.keep h3⟩)) ?_))))));intro k;refine WL.pure (fun hk=>?_);refine Zv (OV.jy rfl rfl) (Za rfl (Nn (WC.az ?_)));exact WX.ret1 rfl rfl rfl (fun w' hw=>⟨by congr 2;exact decide_eq_decide.2 hk,hw.fr⟩)
theorem knownL_len (V:List Int)(x:At):(Jbx V x).length≤x.args.length+1:=by
 have:=Je8 (fun i=>knB V ((plc x).getD i T0)) (plc x).length;have h2:(plc x).length=x.args.length+1:=by simp [plc]
 unfold Jbx;omega
theorem btr_or (V:List Int)(x z:At):(orL [cmpN ((Jbx V z).length:Int) ((nI (Jbx V x)).length:Int),cmpN ((x.args.length+1 - (nI (Jbx V x)).length:Nat):Int) ((z.args.length+1 - (Jbx V z).length:Nat):Int)]<0)↔btr V x z=true:=by
 unfold btr nI;rw [xE]
 by_cases h:(Jbx V x).length=(Jbx V z).length
 ·rw [if_neg (by simpa using h)];have e:cmpN ((Jbx V z).length:Int) ((Jbx V x).length:Int)=0:=by unfold cmpN;rw [if_neg (by omega),if_neg (by omega)]
  rw [decide_eq_true_eq,show ∀ a b:Int,a=0→orL [a,b]=b from fun a b ha=>by subst ha;simp only [orL];split <;> simp_all,h]
  ·unfold cmpN
   split
   ·rename_i h1;constructor <;> intro _ <;> omega
   ·split <;> constructor <;> intro h2 <;> omega
  ·exact e
 ·rw [if_pos (by simpa using h),decide_eq_true_eq];have hne:cmpN ((Jbx V z).length:Int) ((Jbx V x).length:Int)≠0:=by unfold cmpN;split;simp;split;simp;omega
  rw [show ∀ a b:Int,a≠0→orL [a,b]=a from fun a b ha=>by simp only [orL];rw [if_pos ha]]
  ·unfold cmpN
   split
   ·constructor <;> intro _ <;> omega
   ·split <;> constructor <;> intro h2 <;> omega
  ·exact hne
theorem Jkt (c:Cl)(jo:List Nat)(V:List Int)(i:Nat):(List.range (i+1)).foldl (nxF c jo V) none=nxF c jo V ((List.range i).foldl (nxF c jo V) none) i:=by rw [List.range_succ,List.foldl_append];rfl
theorem pnext_calls (g:CG)(hs:CS g)(js:List JG)(ja:Option Addr)(jc:Nat)(V:List Int)(m:Nat)(hjl:js.length≤1048576)(w:World)(hr:RC w g)(hj:RJ w ja js)(hM:KM w m V):Calls Tryz.prog 85 #[cgV g,.slice ja js.length jc,.map (some m)] w fun e w'=>e=.returned (.int .i64 ((nextP g.cl (js.map JG.a) V).elim (-1:Int) fun z:Nat=>(z:Int)))∧Fr0 w w':=by
 refine Jbo (args:=[cgV g,.slice ja js.length jc,.map (some m)]) (fun _=>False) Tryz.func85 rfl Tryz.ntmps85 rfl rfl ?_;refine Csr (WL.box rfl rfl rfl ?_);intro b3;refine Za rfl (Nn (Csr (WL.ia T.u51 T.z3 rfl ?_)));intro b14;refine Za rfl (Za rfl (Nn (Cs (Csr (Zv (OV.f0 5 rfl T.u32 rfl) ?_)))));have hbl:=hs.bl;refine Zv (OV.l1 (v:=.slice g.ba g.bd.length g.bc) rfl T.u22 rfl yI rfl) (Zv (OV.ae rfl T.u22) (Zm rfl (Nn (Cb ?_))))
 refine WC.dd (fun (i:Nat) (b:Option Nat) (ma:Option Addr) (mc:Nat)=>[(1,.slice ja js.length jc),(2,.map (some m)),(3,yZ b3),(7,.int .i64 (b.elim (-1:Int) fun z:Nat=>(z:Int))),(8,.slice ma (b.elim 0 fun z:Nat=>(Jbx V (clA g.cl z)).length) mc),(16,.slice g.ba g.bd.length g.bc),(17,.int .i64 (g.bd.length:Int)),(18,.int .i64 (i:Int))])
   (fun i b ma mc w'=>(i≤g.bd.length∧b=(List.range i).foldl (nxF g.cl (js.map JG.a) V) none∧∀ z,b=some z→z<g.bd.length)∧Sat0 w (oQ b3 (cgC g) 32::[]) w')
   (fun i _ _ _=>g.bd.length - i) 0 none (some ⟨b14,0,none⟩) 0 Y8 (fun w' hw=>⟨⟨by omega,rfl,fun z hz=>by cases hz⟩,hw.drop⟩) ?_
 intro i b ma mc;refine WC.pure (fun hi=>?_);obtain ⟨hi,hb,hbz⟩:=hi;refine Csr (Zv (OV.cq rfl rfl) (Nn (Cs ?_)));refine Cc rfl (fun c19=>?_) (fun c19=>?_)
 ·refine Ck (Xn (Cs (Cb (Csr (Zm rfl ?_)))));obtain ⟨q1,y,hq,ht,htm,hra,hc⟩:=hr.bd.get (i:=i) (by omega);refine Zv ((OV.ad (show _=some (Value.slice (some q1) g.bd.length g.bc) by rw [← hq];rfl) rfl T.u22 T.z29 (by omega)).cast (u:=.pointer (some (q1.add (i*5)))) (by rw [xN])) (Zv (OV.ai (cs:=agC y) rfl T.u29 rfl T.z29 (fun _ hw j v hj=>hw.keeps _ _ (hc j v hj))) (WL.alloc T.zr3 rfl ?_));intro b9;refine WL.alloc T.zr29 rfl ?_;intro b10;refine WL.focus perm1 (WL.bw (o:=0) rfl rfl rfl T.z3 Nat.zero_lt_one ?_);refine WL.focus perm1 (WL.ag (vs:=agC y) rfl rfl rfl T.z29 rfl ?_);refine Nn (Cs (Csr (Zm rfl (Zv (OV.makeFunc rfl) (WL.au (v:=.bool (decide (i∈js.map JG.a))) (by kernel_rfl) rfl rfl (fun w' hw'=>contJ_calls js ja jc b9 i (by omega) w' (hj.keeps hw'.keeps) (Jax (hw'.it (oQ b9 [Value.int .i64 (i:Int)] 3) yI) (o:=0) rfl).1) ?_)))));refine Nn ?_;refine Cc rfl (fun c25=>?_) (fun c25=>?_)
  ·refine Ce (Xe (Xh (Xn (Cr (Zv (OV.bm (j:=1) rfl rfl (by omega)) (Zm rfl (Nl ?_)))))));exact WX.cg (i+1) b ma mc Y8 (fun w' hw=>⟨⟨by omega,by rw [Jkt,← hb];unfold nxF;rw [if_pos c25],hbz⟩,hw.drop.drop⟩) (by show g.bd.length - (i+1)<g.bd.length - i;omega)
  refine Ck (Xn (Csr (Zv (OV.lN (cs:=agC y) rfl T.u29 rfl T.z29 yH) (Zm rfl ?_))));have hsy:=hs.at_ y (Or.inr htm);refine WL.cT (ι:=Option Addr × Nat) (vs:=[atV y.x y.a y.c,.map (some m)]) (vv:=fun z=>.slice z.1 (nI (Jbx V y.x)).length z.2) (pp:=fun _=>True) [] (AA:=fun z=>[rowI z.1 z.2 (nI (Jbx V y.x))]) rfl (fun w' hw' _=>(pknown_calls y.x y.a y.c V m hsy.1 w' (hra.keeps hw'.keeps) (hM.fr0 hw'.fr)).mono (fun en w'' ⟨z,h1,h2⟩=>⟨z,h1,trivial,h2⟩)) ?_;rintro ⟨ka,kc⟩ _;refine Za rfl (Nn (Cs (Csr (Zm rfl (Zv (OV.jy rfl rfl) (Nn ?_))))));refine WC.ir [(1,.slice ja js.length jc),(2,.map (some m)),(3,yZ b3),(9,yZ b9),(11,.slice ka (nI (Jbx V y.x)).length kc),(16,.slice g.ba g.bd.length g.bc),(17,.int .i64 (g.bd.length:Int)),(18,.int .i64 (i:Int))] (fun w'=>nxF g.cl (js.map JG.a) V b i=some i∧Sat0 w (rowI ka kc (nI (Jbx V y.x))::oQ b10 (agC y) 29::oQ b9 [Value.int .i64 (i:Int)] 3::oQ b3 (cgC g) 32::[]) w') ?_ ?_
  ·refine Cc rfl (fun c30=>?_) (fun c30=>?_)
   ·refine Cs ?_
    obtain ⟨z0,hz0⟩:∃ z,b=some z:=by
     cases b with
     | none=>exact absurd c30 (by decide)
     | some z=>exact ⟨z,rfl⟩
    subst hz0;obtain ⟨q2,z,hqz,htz,htmz,hraz,hcz⟩:=hr.bd.get (i:=z0) (hbz z0 rfl);have hsz:=hs.at_ z (Or.inr htmz);have hz0l:=hbz z0 rfl;have hk1:=knownL_len V y.x;have hk2:(nI (Jbx V y.x)).length=(Jbx V y.x).length:=xE _;have hk3:=knownL_len V (clA g.cl z0);have hk4:(clA g.cl z0).args.length=z.x.args.length:=by rw [Jnl htz]
    rw [show (Option.elim (some z0) (-1:Int) fun z:Nat=>(z:Int))=(z0:Int) from rfl,show (Option.elim (some z0) 0 fun z:Nat=>(Jbx V (clA g.cl z)).length)=(Jbx V (clA g.cl z0)).length from rfl];refine Hq [] (m:=20) rfl ?_;refine Hf 0 rfl (OV.f0 4 rfl T.u29 rfl) (Ht 1 rfl (OV.l1 (v:=.slice y.a y.x.args.length y.c) rfl T.u27 rfl yI rfl) (Hf 2 rfl (OV.ae rfl T.u27) (Hf 3 rfl (OV.bm (j:=1) rfl rfl (by omega)) (Hf 4 rfl (OV.aw rfl) (Hf 5 rfl (OV.ae rfl T.u51) (Hf 6 rfl (OV.pd (i:=y.x.args.length+1) (j:=(nI (Jbx V y.x)).length) rfl rfl (Jf4 (by omega)) (by omega)) (Hf 7 rfl (OV.f0 5 rfl T.u32 rfl) (Ht 8 rfl (OV.l1 (v:=.slice g.ba g.bd.length g.bc) rfl T.u22 rfl yK rfl) (Hf 9 rfl (OV.aw rfl) (Hf 10 rfl ((OV.ad (show _=some (Value.slice (some q2) g.bd.length g.bc) by rw [← hqz];rfl) rfl T.u22 T.z29 (by omega)).cast (u:=.pointer (some (q2.add (z0*5)))) (by rw [xN])) (Hf 11 rfl ((OV.fieldAddrA (off:=4) rfl T.u29 rfl).cast (u:=.pointer (some ((q2.add (z0*5)).add 4))) (rfl)) (Ht 12 rfl (OV.ah (v:=.slice z.a z.x.args.length z.c) rfl T.u27 rfl (fun _ hw=>hw.keeps _ _ (hcz 4 _ rfl))) (Hf 13 rfl (OV.ae rfl T.u27) (Hf 14 rfl (OV.bm (j:=1) rfl rfl (by omega)) (Hf 15 rfl (OV.aw rfl) (Hf 16 rfl (OV.ae rfl T.u51) (Hf 17 rfl (OV.pd (i:=z.x.args.length+1) (j:=(Jbx V (clA g.cl z0)).length) rfl rfl (Jf4 (by omega)) (by omega)) (Hf 18 rfl (OV.assign rfl) (Hf 19 rfl (OV.assign rfl) (He (Xn (Csr (Zm rfl (Zv (OV.ae rfl T.u51) (Zm rfl (Zv (OV.ae rfl T.u51) (WL.au (v:=.int .i64 (cmpN (((Jbx V (clA g.cl z0)).length:Nat):Int) (((nI (Jbx V y.x)).length:Nat):Int))) (by kernel_rfl) rfl rfl (fun w' hw'=>Jfw _ _ w') ?_)))))))))))))))))))))))))));refine Zm rfl (Zm rfl (WL.au (v:=.int .i64 (cmpN ((y.x.args.length+1 - (nI (Jbx V y.x)).length:Nat):Int) ((z.x.args.length+1 - (Jbx V (clA g.cl z0)).length:Nat):Int))) (by kernel_rfl) rfl rfl (fun w' hw'=>Jfw _ _ w') ?_));refine WL.gy (xs:=[.tmp 53,.tmp 56]) (vs:=ints [cmpN (((Jbx V (clA g.cl z0)).length:Nat):Int) (((nI (Jbx V y.x)).length:Nat):Int),cmpN ((y.x.args.length+1 - (nI (Jbx V y.x)).length:Nat):Int) ((z.x.args.length+1 - (Jbx V (clA g.cl z0)).length:Nat):Int)]) rfl T.u51 T.z3 T.zr3 rfl rfl rfl (by decide) rfl ?_;intro b57;refine WL.au (v:=.int .i64 (orL [cmpN (((Jbx V (clA g.cl z0)).length:Nat):Int) (((nI (Jbx V y.x)).length:Nat):Int),cmpN ((y.x.args.length+1 - (nI (Jbx V y.x)).length:Nat):Int) ((z.x.args.length+1 - (Jbx V (clA g.cl z0)).length:Nat):Int)])) (by kernel_rfl) rfl rfl (fun w' hw'=>Jnf [cmpN (((Jbx V (clA g.cl z0)).length:Nat):Int) (((nI (Jbx V y.x)).length:Nat):Int),cmpN ((y.x.args.length+1 - (nI (Jbx V y.x)).length:Nat):Int) ((z.x.args.length+1 - (Jbx V (clA g.cl z0)).length:Nat):Int)] b57 (by simp) w' (hw'.it _ yH)) ?_;refine Zv (OV.jy rfl rfl) (Nn ?_);refine Cc rfl (fun c59=>?_) (fun c59=>?_)
    ·refine Ce (WX.meet_exit ?_);refine Xh (Xn (Cr (Zv (OV.bm (j:=1) rfl rfl (by omega)) (Zm rfl (Nl ?_)))))
     have hbt:¬ btr V (clA g.cl i) (clA g.cl z0)=true:=by
      rw [Jnl ht];intro hh;have h9:=(btr_or V y.x (clA g.cl z0)).2 hh;rw [hk4] at h9;omega
     exact WX.cg (i+1) (some z0) ma mc Y8 (fun w' hw=>⟨⟨by omega,by rw [Jkt,← hb];unfold nxF;rw [if_neg c25];simp only [hbt,if_false];rfl,hbz⟩,hw.drop.drop.drop.drop⟩) (by show g.bd.length - (i+1)<g.bd.length - i;omega)
    refine Ck ?_
    have hbt:btr V (clA g.cl i) (clA g.cl z0)=true:=by
     rw [Jnl ht];refine (btr_or V y.x (clA g.cl z0)).1 ?_;rw [hk4];omega
    exact WX.dz Y8 (fun w' hw=>⟨by unfold nxF;rw [if_neg c25];simp only [hbt,if_true],hw.drop⟩)
   refine Ck ?_
   obtain rfl:b=none:=by
    cases b with
    | none=>rfl
    | some z=>exact absurd (show (0:Int)≤(z:Int) by omega) c30
   exact WX.dz Y8 (fun w' hw=>⟨by unfold nxF;rw [if_neg c25],hw⟩)
  refine WC.pure (fun hnx=>?_);refine Cr (Zv (OV.l1 (v:=.int .i64 (i:Int)) rfl T.u3 rfl yJ rfl) (Zm rfl (Za rfl (Za rfl (Nl (Xb (Xn (Cr (Zv (OV.bm (j:=1) rfl rfl (by omega)) (Zm rfl (Nl ?_)))))))))));exact WX.cg (i+1) (some i) ka kc ⟨rfl,rfl,rfl,rfl,by show _=some (Value.slice ka (Jbx V (clA g.cl i)).length kc);rw [show (Jbx V (clA g.cl i)).length=(nI (Jbx V y.x)).length by rw [Jnl ht,xE]];rfl,rfl,rfl,rfl,trivial⟩ (fun w' hw=>⟨⟨by omega,by rw [Jkt,← hb,hnx],fun z hz=>by cases hz;omega⟩,hw.drop.drop.drop⟩) (by show g.bd.length - (i+1)<g.bd.length - i;omega)
 refine Ce (Xe (Xe (Xh (Xn (Csr (Zm rfl (Za rfl (Nn (WC.az ?_)))))))))
 have hbe:b=nextP g.cl (js.map JG.a) V:=by
  rw [hb];unfold nextP;rw [show g.cl.bd.length=i by show (g.bd.map AG.x).length=i;rw [xE];omega]
 rw [← hbe];exact WX.ret1 rfl rfl rfl (fun w' hw=>⟨rfl,hw.fr⟩)
end Go.Proofs.YtgebaodagaecmaaGreatDoor
