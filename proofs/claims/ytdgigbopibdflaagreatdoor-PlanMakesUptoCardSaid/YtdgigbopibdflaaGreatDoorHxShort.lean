/- Short names for the steps of a printed walk. -/
import Derived.Test.YtdgigbopibdflaaGreatDoorHxSlice
namespace Go.Hw
set_option linter.unusedVariables false
set_option linter.unusedSimpArgs false
open Go Go.RowKit
abbrev Sat0 (w:World)(ow:List Item):World→Prop:=Sat w (fun _=>False) (fun b=>b<w.heap.size) w ow
class BP (b:Bool) (p q:outParam Prop):Prop where
 t:b=true→p
 f:b=false→q
instance (priority:=low) BP.any (b:Bool):BP b (b=true) (b=false):=⟨id,id⟩
instance BP.dec (p:Prop) [h:Decidable p]:BP (decide p) p (¬ p):=⟨of_decide_eq_true,of_decide_eq_false⟩
instance BP.not (b:Bool) (p q:Prop) [h:BP b p q]:BP (!b) q p:=⟨fun e=>h.f (by simpa using e),fun e=>h.t (by simpa using e)⟩
section
variable {w0 ws w:World} {M I:Nat→Prop} {ow:List Item}
variable {P:Program} {ops:Array Oper} {Q:Post} {n:Nat} {ds:DS} {e:Env} {rest:List Oper} {c c':Code}
variable {t:TypeId} {p:String} {af:Array Edge} {x y:Operand} {v u:Value} {S C:World→Prop} {k:Nat} {op:Op}
theorem Zv (hv:OV P n ds e S ⟨some k,op,t,p,af,none⟩ v)(h:WL P ops Q n ds ((k,v)::e) S rest)(hd:Nat.blt k n=true:=by rfl):WL P ops Q n ds e S (⟨some k,op,t,p,af,none⟩::rest):=WL.val hv hd h
theorem Zm (hx:ev e x=some v)(h:WL P ops Q n ds ((k,v)::e) S rest)(hd:Nat.blt k n=true:=by rfl):WL P ops Q n ds e S (⟨some k,.move x,t,p,af,none⟩::rest):=WL.val (OV.cj hx) hd h
theorem Za (hx:ev e x=some v)(h:WL P ops Q n ds ((k,v)::e) S rest)(hd:Nat.blt k n=true:=by rfl):WL P ops Q n ds e S (⟨some k,.assign x,t,p,af,none⟩::rest):=WL.val (OV.assign hx) hd h
theorem Zs {j:Nat}{want b:Bool}{dj:Nat}(hj:(ops[j]?).bind (·.dst)=some dj)(hb:look e dj=some (.bool b))(hne:(b == want)=false)(h:WL P ops Q n ds ((k,undef)::e) S rest)(hd:Nat.blt k n=true:=by rfl):WL P ops Q n ds e S (⟨some k,op,t,p,af,some (j,want)⟩::rest):=WL.skip hj hb hne hd h
theorem Zu {j:Nat}{want:Bool}{dj:Nat}(hj:(ops[j]?).bind (·.dst)=some dj)(hb:look e dj=some undef)(h:WL P ops Q n ds ((k,undef)::e) S rest)(hd:Nat.blt k n=true:=by rfl):WL P ops Q n ds e S (⟨some k,op,t,p,af,some (j,want)⟩::rest):=WL.skipU hj hb hd h
theorem Zg {j:Nat}{want b:Bool}{dj:Nat}(hj:(ops[j]?).bind (·.dst)=some dj)(hb:look e dj=some (.bool b))(hne:(b == want)=true)(h:WL P ops Q n ds e S (⟨some k,op,t,p,af,none⟩::rest)):WL P ops Q n ds e S (⟨some k,op,t,p,af,some (j,want)⟩::rest):=WL.go hj hb hne h
theorem yV {j:Nat}{want b:Bool}{dj:Nat}(h:WL P ops Q n ds ((k,undef)::e) S rest)(hj:(ops[j]?).bind (·.dst)=some dj:=by exact rfl)(hb:look e dj=some (.bool b):=by exact rfl)(hne:(b == want)=false:=by exact rfl)(hd:Nat.blt k n=true:=by exact rfl):WL P ops Q n ds e S (⟨some k,op,t,p,af,some (j,want)⟩::rest):=WL.skip hj hb hne hd h
theorem yW {j:Nat}{want b:Bool}{dj:Nat}(h:WL P ops Q n ds e S (⟨some k,op,t,p,af,none⟩::rest))(hj:(ops[j]?).bind (·.dst)=some dj:=by exact rfl)(hb:look e dj=some (.bool b):=by exact rfl)(hne:(b == want)=true:=by exact rfl):WL P ops Q n ds e S (⟨some k,op,t,p,af,some (j,want)⟩::rest):=WL.go hj hb hne h
theorem Zp {t:Nat}{b:Bool}{p q:Prop}[hb:BP b p q]{l:List Oper}(h:look e t=some (.bool b))(ht:p→WL P ops Q n ds ((t,.bool true)::e) S l)(hf:q→WL P ops Q n ds ((t,.bool false)::e) S l):WL P ops Q n ds e S l:=WL.split h (fun e=>ht (hb.t e)) (fun e=>hf (hb.f e))
theorem Cr {id:Nat}{l:List Oper}(h:WL P l.toArray Q n ds e S l):WC P Q n ds e S (.region id l.toArray false):=WC.region h
theorem Cs (h:WC P (Exit.then (fun a w=>c'.wpIn (fen ds.r) 0 P Q a w) Q) n ds e S c):WC P Q n ds e S (.seq c c'):=WC.seq h
theorem Csr {id:Nat}{l:List Oper}(h:WL P l.toArray (Exit.then (fun a w=>c'.wpIn (fen ds.r) 0 P Q a w) Q) n ds e S l):WC P Q n ds e S (.seq (.region id l.toArray false) c'):=WC.seq (WC.region h)
theorem Nl (h:WX Q n ds e S .normal):WL P ops Q n ds e S []:=WL.nil h
theorem Nn (h:WC P Q n ds e S c):WL P ops (Exit.then (fun a w=>c.wpIn (fen ds.r) 0 P Q a w) Q) n ds e S []:=WL.nil (WX.next h)
theorem Xn (h:WC P Q n ds e S c):WX (Exit.then (fun a w=>c.wpIn (fen ds.r) 0 P Q a w) Q) n ds e S .normal:=WX.next h
theorem Xe {K:Act→World→Prop}{i:Nat}(h:WX Q n ds e S (.exit i)):WX (Exit.then K Q) n ds e S (.exit i):=WX.then_exit h
theorem Xr {K:Act→World→Prop}(h:WX Q n ds e S .ret):WX (Exit.then K Q) n ds e S .ret:=WX.then_ret h
theorem Xb {id:Nat}(h:WX Q n ds e S .normal):WX (Exit.inBlock id Q) n ds e S .normal:=WX.block_normal h
theorem Xh {id:Nat}(h:WX Q n ds e S .normal):WX (Exit.inBlock id Q) n ds e S (.exit id):=WX.block_hit h
theorem Xi {id i:Nat}(h:WX Q n ds e S (.exit i))(hne:Nat.beq i id=false:=by rfl):WX (Exit.inBlock id Q) n ds e S (.exit i):=WX.block_miss hne h
theorem Xq {id:Nat}(h:WX Q n ds e S .ret):WX (Exit.inBlock id Q) n ds e S .ret:=WX.block_ret h
theorem Cb {id:Nat}(h:WC P (Exit.inBlock id Q) n ds e S c):WC P Q n ds e S (.block id c):=WC.block h
theorem Ck (h:WX Q n ds e S .normal):WC P Q n ds e S .skip:=WC.skip h
theorem Ce {i:Nat}(h:WX Q n ds e S (.exit i)):WC P Q n ds e S (.exit i):=WC.exit h
theorem Cc {z:Operand}{b:Bool}{p q:Prop}[hb:BP b p q](hc:ev e z=some (.bool b))(ht:p→WC P Q n ds e S c)(hf:q→WC P Q n ds e S c'):WC P Q n ds e S (.cond z c c'):=WC.jm hc (fun e=>ht (hb.t e)) (fun e=>hf (hb.f e))
variable {l:List Oper} {fuel:Nat} {listed:List Bool} {bars:List Nat} {fl:Bool}
def WK (P:Program)(l:List Oper)(Q:Post)(n:Nat)(ds:DS)(e:Env)(S C:World→Prop)(bars:List Nat)(fuel:Nat)(fl:Bool)(listed:List Bool):Prop:=
 (fl=false→∀ w,S w→C w)→WH P l.toArray (Jdb Q) n ds e S C bars fuel fl listed
def ckH (l:List Oper)(listed:List Bool)(i:Nat):Bool:=Region.noSelect l.toArray && (Region.free .any l.toArray listed.toArray i && (Region.ready .any l.toArray listed.toArray).contains i)
theorem Jfo {i:Nat}(h:ckH l listed i=true):Region.noSelect l.toArray=true∧Region.free .any l.toArray listed.toArray i=true∧(Region.ready .any l.toArray listed.toArray).contains i=true:=by
 simp only [ckH,xY] at h;exact h
def ckT (l:List Oper)(bars:List Nat)(listed:List Bool)(i:Nat):Bool:=ckH l listed i && Jfq l.toArray bars i
def ckF (l:List Oper)(bars:List Nat)(listed:List Bool)(i:Nat):Bool:=ckH l listed i && !bars.contains i
theorem ckT_spec {i:Nat}(h:ckT l bars listed i=true):ckH l listed i=true∧Jfq l.toArray bars i=true:=by
 simp only [ckT,xY] at h;exact h
theorem Jg1 {i:Nat}(h:ckF l bars listed i=true):ckH l listed i=true∧bars.contains i=false:=by
 unfold ckF at h;rw [xY] at h;exact ⟨h.1,by simpa using h.2⟩
theorem Hd {id m:Nat}(C:World→Prop)(bars:List Nat)(hC:∀ w,Sat w0 M I ws ow w→C w)(hl:l.length=m)(h:WK P l Q n ds e (Sat w0 M I ws ow) C bars m false (List.replicate m false))(hm:P.follows .mixedOrders=true:=by kernel_rfl)(hd:Jiq l.toArray=true:=by kernel_rfl):WC P Q n ds e (Sat w0 M I ws ow) (.region id l.toArray true):=WC.drawn C bars hm hd hl (h (fun _=>hC))
theorem Hq {id m:Nat}(bars:List Nat)(hl:l.length=m)(h:WK P l Q n ds e (Sat w0 M I ws ow) (Sat w0 M I ws ow) bars m false (List.replicate m false))(hm:P.follows .mixedOrders=true:=by kernel_rfl)(hd:Jiq l.toArray=true:=by kernel_rfl):WC P Q n ds e (Sat w0 M I ws ow) (.region id l.toArray true):=WC.drawn _ bars hm hd hl (h (fun _ _ h=>h))
theorem Ht (i:Nat)(hi:l[i]?=some ⟨some k,op,t,p,af,none⟩)(hv:OV P n ds e C ⟨some k,op,t,p,af,none⟩ v)(h:WK P l Q n ds ((k,v)::e) S C bars fuel false (listed.set i true)) 
  (hk:Nat.blt k n=true:=by rfl) (hc:ckT l bars listed i=true:=by kernel_rfl):WK P l Q n ds e S C bars (fuel+1) false listed:=fun hC=>by
 obtain ⟨h1,h2⟩:=ckT_spec hc;obtain ⟨h3,h4,h5⟩:=Jfo h1;exact WH.take i hi h3 h4 h5 h2 (hC rfl) hv hk rfl (h hC)
theorem Htg (i:Nat){jj:Nat}{want b:Bool}{dj:Nat}(hi:l[i]?=some ⟨some k,op,t,p,af,some (jj,want)⟩)(hj:(l.toArray[jj]?).bind (·.dst)=some dj)(hb0:look e dj=some (.bool b))(hne:(b == want)=true) 
  (hv:OV P n ds e C ⟨some k,op,t,p,af,none⟩ v) (h:WK P l Q n ds ((k,v)::e) S C bars fuel false (listed.set i true))
  (hk:Nat.blt k n=true:=by rfl) (hc:ckT l bars listed i=true:=by kernel_rfl):WK P l Q n ds e S C bars (fuel+1) false listed:=fun hC=>by
 obtain ⟨h1,h2⟩:=ckT_spec hc;obtain ⟨h3,h4,h5⟩:=Jfo h1;exact WH.takeG i hi h3 h4 h5 h2 (hC rfl) hj hb0 hne hv hk rfl (h hC)
theorem Hf (i:Nat)(hi:l[i]?=some ⟨some k,op,t,p,af,none⟩)(hv:OV P n ds e (fun _=>True) ⟨some k,op,t,p,af,none⟩ v)(h:WK P l Q n ds ((k,v)::e) S C bars fuel fl (listed.set i true)) 
  (hk:Nat.blt k n=true:=by rfl) (hc:ckF l bars listed i=true:=by kernel_rfl):WK P l Q n ds e S C bars (fuel+1) fl listed:=fun hC=>by
 obtain ⟨h1,h2⟩:=Jg1 hc;obtain ⟨h3,h4,h5⟩:=Jfo h1;exact WH.free i hi h3 h4 h5 h2 hC hv hk rfl (h hC)
theorem Hfg (i:Nat){jj:Nat}{want b:Bool}{dj:Nat}(hi:l[i]?=some ⟨some k,op,t,p,af,some (jj,want)⟩)(hj:(l.toArray[jj]?).bind (·.dst)=some dj)(hb0:look e dj=some (.bool b))(hne:(b == want)=true) 
  (hv:OV P n ds e (fun _=>True) ⟨some k,op,t,p,af,none⟩ v) (h:WK P l Q n ds ((k,v)::e) S C bars fuel fl (listed.set i true))
  (hk:Nat.blt k n=true:=by rfl) (hc:ckF l bars listed i=true:=by kernel_rfl):WK P l Q n ds e S C bars (fuel+1) fl listed:=fun hC=>by
 obtain ⟨h1,h2⟩:=Jg1 hc;obtain ⟨h3,h4,h5⟩:=Jfo h1;exact WH.freeG i hi h3 h4 h5 h2 hC hj hb0 hne hv hk rfl (h hC)
theorem Hs (i:Nat){jj:Nat}{want b:Bool}{dj:Nat}(hi:l[i]?=some ⟨some k,op,t,p,af,some (jj,want)⟩)(hj:(l.toArray[jj]?).bind (·.dst)=some dj)(hb0:look e dj=some (.bool b))(hne:(b == want)=false) 
  (h:WK P l Q n ds ((k,undef)::e) S C bars fuel fl (listed.set i true))
  (hk:Nat.blt k n=true:=by rfl) (hc:ckF l bars listed i=true:=by kernel_rfl):WK P l Q n ds e S C bars (fuel+1) fl listed:=fun hC=>by
 obtain ⟨h1,h2⟩:=Jg1 hc;obtain ⟨h3,h4,h5⟩:=Jfo h1;exact WH.skip i hi h3 h4 h5 h2 hC hj hb0 hne hk rfl (h hC)
theorem Hu (i:Nat){jj:Nat}{want:Bool}{dj:Nat}(hi:l[i]?=some ⟨some k,op,t,p,af,some (jj,want)⟩)(hj:(l.toArray[jj]?).bind (·.dst)=some dj)(hb0:look e dj=some undef) 
  (h:WK P l Q n ds ((k,undef)::e) S C bars fuel fl (listed.set i true))
  (hk:Nat.blt k n=true:=by rfl) (hc:ckF l bars listed i=true:=by kernel_rfl):WK P l Q n ds e S C bars (fuel+1) fl listed:=fun hC=>by
 obtain ⟨h1,h2⟩:=Jg1 hc;obtain ⟨h3,h4,h5⟩:=Jfo h1;exact WH.skipU i hi h3 h4 h5 h2 hC hj hb0 hk rfl (h hC)
theorem Hp {t:Nat}{b:Bool}{p q:Prop}[hb:BP b p q](h:look e t=some (.bool b))(ht:p→WK P l Q n ds ((t,.bool true)::e) S C bars fuel fl listed)(hf:q→WK P l Q n ds ((t,.bool false)::e) S C bars fuel fl listed):WK P l Q n ds e S C bars fuel fl listed:=
 fun hC=>WH.split h (fun e=>ht (hb.t e) hC) (fun e=>hf (hb.f e) hC)
theorem Ho {o:Oper}(i:Nat)(hi:l[i]?=some o){fl':Bool}(hf':(fl || bars.contains i)=fl')(h0:WL P l.toArray (HCont P l.toArray (Jdb Q) ds.r C bars fuel fl' (listed.set i true)) n ds e S [o]) 
  (hr:Region.ready .any l.toArray listed.toArray=[i]:=by kernel_rfl):WK P l Q n ds e S C bars (fuel+1) fl listed:=fun _=>WH.only i hi hr rfl hf' h0
theorem Hr (h:WH P l.toArray (Jdb Q) n ds e S C bars fuel fl listed):WK P l Q n ds e S C bars fuel fl listed:=fun _=>h
theorem Hc (hC:fl=false→∀ w,S w→C w)(h:WK P l Q n ds e S C bars fuel fl listed)(hd:Jiq l.toArray=true:=by kernel_rfl):WL P ops (HCont P l.toArray (Jdb Q) ds.r C bars fuel fl listed) n ds e S []:=WL.nil (WX.contD hd hC (h hC))
theorem He (h:WX Q n ds e S .normal)(hr:Region.ready .any l.toArray listed.toArray=[]:=by kernel_rfl):WK P l Q n ds e S C bars fuel fl listed:=fun _=>WH.done hr h
end
def meetQ {ι:Type}(n:Nat)(ds:DS)(env:ι→Env)(R:ι→World→Prop)(Q:Post):Post
 | .normal,a,w=>∃ x,Fits n ds (env x) a∧R x w
 | x,a,w=>Q x a w
theorem WC.io {ι:Type}{P:Program}{Q:Post}{n:Nat}{ds:DS}{e:Env}{c y:Code}{S:World→Prop}(env:ι→Env)(R:ι→World→Prop)(h1:WC P (meetQ n ds env R Q) n ds e S c)(h2:∀ x,WC P Q n ds (env x) (R x) y):
  WC P (Exit.then (fun a w=>y.wpIn (fen ds.r) 0 P Q a w) Q) n ds e S c:=fun a w ha hw=>
 Code.wpIn_mono (fun ex a' w' h=>by
  cases ex with
  | normal=>
   obtain ⟨x,hx,hR⟩:=h;exact h2 x a' w' hx hR
  | _=>exact h) (h1 a w ha hw)
theorem WX.ei {ι:Type}{Q:Post}{n:Nat}{ds:DS}{e:Env}{S:World→Prop}{env:ι→Env}{R:ι→World→Prop}(x:ι)(hs:Sub (env x) e)(hS:∀ w,S w→R x w):WX (meetQ n ds env R Q) n ds e S .normal:=fun a w ha hw=>⟨x,ha.sub hs,hS w hw⟩
theorem WC.fw {P:Program}{Q:Post}{n:Nat}{ds:DS}{e:Env}{c y:Code}{S:World→Prop}(e1:Env)(S1:World→Prop)(h1:WC P (meetQ n ds (fun _:Unit=>e1) (fun _=>S1) Q) n ds e S c)(h2:WC P Q n ds e1 S1 y):
  WC P (Exit.then (fun a w=>y.wpIn (fen ds.r) 0 P Q a w) Q) n ds e S c:=WC.io _ _ h1 (fun _=>h2)
theorem WX.dt {Q:Post}{n:Nat}{ds:DS}{e e1:Env}{S S1:World→Prop}(hs:Sub e1 e)(hS:∀ w,S w→S1 w):WX (meetQ n ds (fun _:Unit=>e1) (fun _=>S1) Q) n ds e S .normal:=WX.ei () hs hS
theorem WX.meet_exit {ι:Type}{Q:Post}{n i:Nat}{ds:DS}{e:Env}{S:World→Prop}{env:ι→Env}{R:ι→World→Prop}(h:WX Q n ds e S (.exit i)):WX (meetQ n ds env R Q) n ds e S (.exit i):=h
end Go.Hw
