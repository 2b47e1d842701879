/- The core of a calculus for walking the loaded code, in a call or in a round of a range over a function: environments of slots, one lemma an operation. -/
import Derived.WalkKit
import Derived.WalkSpells
import Derived.WalkLawsBesides
import Derived.Deep.QuietTactic
import Derived.BigQuiet
import Derived.KernelRfl
import Derived.RangeFuncLeaves
import Derived.RangeFuncCalls
import Derived.OrdersIn
import Derived.TacticsIn
import Derived.Test.YtdgigbopibdflaaGreatDoorHxA
namespace Go.Hw
set_option linter.unusedVariables false
set_option linter.unusedSimpArgs false
open Go Go.RowKit
abbrev Env:=List (Nat × Value)
def look:Env→Nat→Option Value
 | [],_=>none
 | (k,v)::r,t=>bif Nat.beq k t then some v else look r t
def ev (e:Env):Operand→Option Value
 | .tmp t=>look e t
 | .const v=>some v
 | .global g=>some (yX g)
 | .func f=>some (.func (.func f) #[] #[])
def evs (e:Env):List Operand→Option (List Value)
 | []=>some []
 | x::r=>(ev e x).bind fun v=>(evs e r).bind fun vs=>some (v::vs)
structure DS where
 l:List Deferred:=[]
 r:Option Nat:=none
def fen:Option Nat→Fence
 | none=>Fence.wide
 | some l=>Fence.wide.inRound l
theorem Jfa (r:Option Nat)(f:FuncId):(fen r).fn f:=by cases r <;> trivial
theorem fen_depth (r:Option Nat):(fen r).depth=none:=by cases r <;> rfl
theorem fen_round (r:Option Nat):(fen r).round=r:=by cases r <;> rfl
theorem fen_in {r:Option Nat}{n:Nat}{P:Program}{f:FuncId}{args:Array Value}{w:World}{R:Ending→World→Prop}:CallsIn (fen r) n P f args w R↔Calls P f args w R:=by
 cases r
 ·exact callsIn_wide
 ·exact ⟨fun h=>callsIn_wide.1 (CallsIn.outOfRound h),fun h=>CallsIn.inRound _ (callsIn_wide.2 h)⟩
theorem Je0 {r:Option Nat}{ρ:Operand→Value}{o:Oper}{P:Program}{w w':World}{x:Next}(h:(execOp ρ o).run P w=.ok x w')(hx:∀ d,x≠.defer d):(o.semAt r ρ).run P w=.ok x w':=by
 by_cases hd:∃ c,o.op=.defer c
 ·exfalso;obtain ⟨c,hc⟩:=hd;unfold execOp at h;rw [hc] at h;simp only [Sem.run_bind] at h
  generalize (resolve ρ c o.type).run P w=rr at h
  cases rr with
  | ok d w1=>simp only [Result.andThen_ok,Sem.run_pure,Result.ok.injEq] at h;exact hx _ h.1.symm
  | halt hh w1=>simp [Result.andThen] at h
 ·rw [Oper.semAt_eq r ρ o (fun c hc=>hd ⟨c,hc⟩)];exact h
structure Fits (n:Nat) (ds:DS) (e:Env) (a:Act):Prop where
 size:a.tmps.size=n
 defers:a.defers=ds.l
 ok:∀ t v,look e t=some v→a.tmps[t]?=some v
variable {P:Program} {n:Nat} {ds:DS} {e:Env} {a:Act} {w:World}
theorem Fits.eval (h:Fits n ds e a){x:Operand}{v:Value}(hx:ev e x=some v):a.eval x=v:=by
 cases x with
 | tmp t=>
  have:=h.ok t v hx;simp only [Act.eval,Array.getD_eq_getD_getElem?,this,Option.getD_some]
 | const u=>exact xH hx
 | global g=>exact xH hx
 | func f=>exact xH hx
theorem Jdv (d:Nat)(v:Value)(e:Env):look ((d,v)::e) d=some v:=by
 simp [look]
theorem Jec {d t:Nat}(v:Value)(e:Env)(h:d≠t):look ((d,v)::e) t=look e t:=by
 have:Nat.beq d t=false:=by
  cases hb:Nat.beq d t with
  | false=>rfl
  | true=>exact absurd (Nat.eq_of_beq_eq_true hb) h
 simp [look,this]
theorem Fits.put (h:Fits n ds e a){d:Nat}(hd:Nat.blt d n=true)(v:Value):Fits n ds ((d,v)::e) (a.put (some d) v):=by
 have hd':d<n:=by simpa [Nat.blt_eq] using hd
 refine ⟨by simp [Act.put,h.size],by simp [Act.put,h.defers],fun t u ht=>?_⟩
 by_cases hdt:d=t
 ·subst hdt;rw [Jdv] at ht;simp only [Option.some.injEq] at ht;subst ht;simp [Act.put,h.size,hd']
 ·rw [Jec _ _ hdt] at ht;simp only [Act.put];rw [Array.getElem?_setIfInBounds_ne hdt];exact h.ok t u ht
def Sub:Env→Env→Prop
 | [],_=>True
 | (k,v)::r,e=>look e k=some v∧Sub r e
theorem Sub.look:∀ {e' e:Env},Sub e' e→∀ {t v},look e' t=some v→look e t=some v
 | [],_,_,_,_,h=>by simp [Hw.look] at h
 | (k,u)::r,e,hs,t,v,h=>by
  by_cases hk:k=t
  ·subst hk;rw [Jdv] at h;simp only [Option.some.injEq] at h;subst h;exact hs.1
  ·rw [Jec _ _ hk] at h;exact Sub.look hs.2 h
theorem Fits.sub (h:Fits n ds e a){e':Env}(hs:Sub e' e):Fits n ds e' a:=
 ⟨h.size,h.defers,fun _ _ ht=>h.ok _ _ (hs.look ht)⟩
abbrev Post:=Exit→Act→World→Prop
def WL (P:Program)(ops:Array Oper)(Q:Post)(n:Nat)(ds:DS)(e:Env)(S:World→Prop)(l:List Oper):Prop:=
 ∀ a w,Fits n ds e a→S w→wpListIn (fen ds.r) 0 P ops Q l a w
def WC (P:Program)(Q:Post)(n:Nat)(ds:DS)(e:Env)(S:World→Prop)(c:Code):Prop:=
 ∀ a w,Fits n ds e a→S w→c.wpIn (fen ds.r) 0 P Q a w
def WX (Q:Post)(n:Nat)(ds:DS)(e:Env)(S:World→Prop)(x:Exit):Prop:=
 ∀ a w,Fits n ds e a→S w→Q x a w
def OV (P:Program)(n:Nat)(ds:DS)(e:Env)(S:World→Prop)(o:Oper)(v:Value):Prop:=
 ∀ a w,Fits n ds e a→S w→(execOp a.eval o).run P w=.ok (.value v) w
section
variable {ops:Array Oper} {Q:Post} {S S':World→Prop} {rest:List Oper} {o:Oper} {d:Nat} {v:Value}
theorem WL.sub {e':Env}(hs:Sub e' e){l:List Oper}(h:WL P ops Q n ds e' S l):WL P ops Q n ds e S l:=
 fun a w ha hw=>h a w (ha.sub hs) hw
theorem WC.sub {e':Env}(hs:Sub e' e){c:Code}(h:WC P Q n ds e' S c):WC P Q n ds e S c:=
 fun a w ha hw=>h a w (ha.sub hs) hw
theorem WX.sub {e':Env}(hs:Sub e' e){x:Exit}(h:WX Q n ds e' S x):WX Q n ds e S x:=
 fun a w ha hw=>h a w (ha.sub hs) hw
theorem WL.weak (hS:∀ w,S w→S' w){l:List Oper}(h:WL P ops Q n ds e S' l):WL P ops Q n ds e S l:=
 fun a w ha hw=>h a w ha (hS w hw)
theorem WC.weak (hS:∀ w,S w→S' w){c:Code}(h:WC P Q n ds e S' c):WC P Q n ds e S c:=
 fun a w ha hw=>h a w ha (hS w hw)
theorem WX.weak (hS:∀ w,S w→S' w){x:Exit}(h:WX Q n ds e S' x):WX Q n ds e S x:=
 fun a w ha hw=>h a w ha (hS w hw)
theorem WL.nil (h:WX Q n ds e S .normal):WL P ops Q n ds e S []:=fun a w ha hw=>wpListIn_nil (h a w ha hw)
theorem Jc0 (hg:o.guard=none):Region.wanted o (yielded ops a.tmps)=true:=by simp [Region.wanted,hg]
theorem WL.val {op:Op}{t:TypeId}{p:String}{af:Array Edge}(hv:OV P n ds e S ⟨some d,op,t,p,af,none⟩ v)(hd:Nat.blt d n=true) 
  (h:WL P ops Q n ds ((d,v)::e) S rest):WL P ops Q n ds e S (⟨some d,op,t,p,af,none⟩::rest):=by
 intro a w ha hw;unfold wpListIn;rw [if_pos (Jc0 rfl)];refine ⟨fun f _=>Jfa _ f,?_⟩;rw [Je0 (hv a w ha hw) (fun _=>by simp)];exact h _ _ (ha.put hd v) hw
theorem WL.skip {op:Op}{t:TypeId}{p:String}{af:Array Edge}{j:Nat}{want b:Bool}{dj:Nat} 
  (hj:(ops[j]?).bind (·.dst)=some dj) (hb:look e dj=some (.bool b)) (hne:(b == want)=false) (hd:Nat.blt d n=true)
  (h:WL P ops Q n ds ((d,undef)::e) S rest):WL P ops Q n ds e S (⟨some d,op,t,p,af,some (j,want)⟩::rest):=by
 intro a w ha hw;unfold wpListIn
 have hy:yielded ops a.tmps j=some b:=by
  simp [yielded,hj,ha.ok _ _ hb]
 have:Region.wanted ⟨some d,op,t,p,af,some (j,want)⟩ (yielded ops a.tmps)=false:=by
  simp only [Region.wanted,hy]
  simpa using hne
 rw [if_neg (by simp [this])];exact ⟨fun f _=>Jfa _ f,h _ _ (ha.put hd undef) hw⟩
theorem WL.go {op:Op}{t:TypeId}{p:String}{af:Array Edge}{j:Nat}{want b:Bool}{dj:Nat} 
  (hj:(ops[j]?).bind (·.dst)=some dj) (hb:look e dj=some (.bool b)) (hne:(b == want)=true)
  (h:WL P ops Q n ds e S (⟨some d,op,t,p,af,none⟩::rest)):WL P ops Q n ds e S (⟨some d,op,t,p,af,some (j,want)⟩::rest):=by
 intro a w ha hw;have h1:=h a w ha hw;unfold wpListIn at h1 ⊢;rw [if_pos (Jc0 rfl)] at h1;have hy:yielded ops a.tmps j=some b:=by simp [yielded,hj,ha.ok _ _ hb]
 have:Region.wanted ⟨some d,op,t,p,af,some (j,want)⟩ (yielded ops a.tmps)=true:=by
  simp only [Region.wanted,hy]
  simpa using hne
 rw [if_pos this];exact h1
theorem WC.seq {x y:Code}(h:WC P (Exit.then (fun a w=>y.wpIn (fen ds.r) 0 P Q a w) Q) n ds e S x):WC P Q n ds e S (.seq x y):=
 fun a w ha hw=>wpIn_seq (h a w ha hw)
theorem WX.next {y:Code}(h:WC P Q n ds e S y):WX (Exit.then (fun a w=>y.wpIn (fen ds.r) 0 P Q a w) Q) n ds e S .normal:=
 fun a w ha hw=>h a w ha hw
theorem WX.then_exit {K:Act→World→Prop}{i:Nat}(h:WX Q n ds e S (.exit i)):WX (Exit.then K Q) n ds e S (.exit i):=
 fun a w ha hw=>h a w ha hw
theorem WX.then_ret {K:Act→World→Prop}(h:WX Q n ds e S .ret):WX (Exit.then K Q) n ds e S .ret:=
 fun a w ha hw=>h a w ha hw
theorem WC.block {id:Nat}{c:Code}(h:WC P (Exit.inBlock id Q) n ds e S c):WC P Q n ds e S (.block id c):=
 fun a w ha hw=>wpIn_block (h a w ha hw)
theorem WX.block_normal {id:Nat}(h:WX Q n ds e S .normal):WX (Exit.inBlock id Q) n ds e S .normal:=fun a w ha hw=>h a w ha hw
theorem WX.block_hit {id:Nat}(h:WX Q n ds e S .normal):WX (Exit.inBlock id Q) n ds e S (.exit id):=
 fun a w ha hw=>by show if id=id then _ else _;rw [if_pos rfl];exact h a w ha hw
theorem WX.block_miss {id i:Nat}(hne:Nat.beq i id=false)(h:WX Q n ds e S (.exit i)):WX (Exit.inBlock id Q) n ds e S (.exit i):=
 fun a w ha hw=>by
  have:i≠id:=by intro h;subst h;simp at hne
  show if i=id then _ else _
  rw [if_neg this];exact h a w ha hw
theorem WX.block_ret {id:Nat}(h:WX Q n ds e S .ret):WX (Exit.inBlock id Q) n ds e S .ret:=fun a w ha hw=>h a w ha hw
theorem WC.ay (h:WX Q n ds e S .ret):WC P Q n ds e S .ret:=fun a w ha hw=>wpIn_ret (h a w ha hw)
theorem WC.skip (h:WX Q n ds e S .normal):WC P Q n ds e S .skip:=fun a w ha hw=>wpIn_skip (h a w ha hw)
theorem WC.exit {i:Nat}(h:WX Q n ds e S (.exit i)):WC P Q n ds e S (.exit i):=fun a w ha hw=>wpIn_exit (h a w ha hw)
theorem WC.region {id:Nat}{l:List Oper}(h:WL P l.toArray Q n ds e S l):WC P Q n ds e S (.region id l.toArray false):=
 fun a w ha hw=>wpIn_region_lit (h a w ha hw)
theorem WC.jm {c:Operand}{x y:Code}{b:Bool}(hc:ev e c=some (.bool b))(ht:b=true→WC P Q n ds e S x)(hf:b=false→WC P Q n ds e S y):
  WC P Q n ds e S (.cond c x y):=
 fun a w ha hw=>wpIn_cond_split (ha.eval hc) (fun h=>ht h a w ha hw) (fun h=>hf h a w ha hw)
theorem WC.cm {c:Operand}{x y:Code}(hc:ev e c=some (.bool true))(ht:WC P Q n ds e S x):WC P Q n ds e S (.cond c x y):=
 WC.jm hc (fun _=>ht) (fun h=>by cases h)
theorem WC.ca {c:Operand}{x y:Code}(hc:ev e c=some (.bool false))(hf:WC P Q n ds e S y):WC P Q n ds e S (.cond c x y):=
 WC.jm hc (fun h=>by cases h) (fun _=>hf)
theorem WC.i6 {ι:Type}{c:Code}(env:ι→Env)(R:ι→World→Prop)(μ:ι→Nat)(x0:ι)(hs:Sub (env x0) e)(h0:∀ w,S w→R x0 w) 
  (round:∀ x,WC P (Exit.then (fun a w=>∃ x',Fits n ds (env x') a∧R x' w∧μ x'<μ x) Q) n ds (env x) (R x) c):WC P Q n ds e S (.loop c):=by
 intro a w ha hw b k cs hro hb hr
 have key:∀ m x a w,μ x=m→Fits n ds (env x) a→R x w →
   ∃ e a' w',Q e a' w'∧ArrivesIn (Machine.fenced P (fen ds.r)) P (lone (b.atR a (.code c::.inLoop c::k)) cs w) b k cs e a' w':=by
  intro m
  induction m using Nat.strongRecOn with
  | _ m ih=>
   intro x a w hm ha hw;obtain ⟨e,a₁,w₁,hq,harr⟩:=round x a w ha hw b (.inLoop c::k) cs hro hb hr;cases e with
   | normal=>
    obtain ⟨x',ha',hw',hlt⟩:=hq;obtain ⟨e₂,a₂,w₂,hq₂,harr₂⟩:=ih (μ x') (hm ▸ hlt) x' a₁ w₁ rfl ha' hw';exact ⟨e₂,a₂,w₂,hq₂,.of_steps (StepsIn.trans harr (.one (fenced_calm (fr:=b.atR a₁ (.inLoop c::k)) hb hr rfl) stepR_inLoop)) harr₂⟩
   | exit id=>exact ⟨_,a₁,w₁,hq,.pass (x:=.inLoop c) rfl (fun _ _=>.inl (by simp)) harr⟩
   | goto l=>exact ⟨_,a₁,w₁,hq,.pass (x:=.inLoop c) rfl (fun _ _=>.inl (by simp)) harr⟩
   | ret=>exact ⟨_,a₁,w₁,hq,.pass (x:=.inLoop c) rfl (fun _ _=>.inl (by simp)) harr⟩
   | panic ch=>exact ⟨_,a₁,w₁,hq,.pass (x:=.inLoop c) rfl (fun _ _=>.inl (by simp)) harr⟩
   | outgrown=>exact ⟨_,a₁,w₁,hq,.pass (x:=.inLoop c) rfl (fun _ _=>.inl (by simp)) harr⟩
 obtain ⟨e,a',w',hq,harr⟩:=key _ x0 a w rfl (ha.sub hs) (h0 w hw);exact ⟨e,a',w',hq,.of_steps (.one (fenced_calm (fr:=b.atR a (.code (.loop c)::k)) hb hr rfl) stepR_loop) harr⟩
theorem WX.round {ι:Type}{env:ι→Env}{R:ι→World→Prop}{μ:ι→Nat}{x:ι}(x':ι)(hs:Sub (env x') e)(hR:∀ w,S w→R x' w)(hlt:μ x'<μ x):
  WX (Exit.then (fun a w=>∃ x',Fits n ds (env x') a∧R x' w∧μ x'<μ x) Q) n ds e S .normal:=
 fun _ w ha hw=>⟨x',ha.sub hs,hR w hw,hlt⟩
end
section
variable {P:Program} {n:Nat} {ds:DS} {e:Env} {S:World→Prop} {dst:Option Tmp} {t t':TypeId} {p:String} {af:Array Edge} {g:Option (Nat × Bool)}
variable {x y z:Operand} {v u:Value}
theorem OV.cj (h:ev e x=some v):OV P n ds e S ⟨dst,.move x,t,p,af,g⟩ v:=fun a w ha _=>by
 simp [execOp,ha.eval h]
theorem OV.assign (h:ev e x=some v):OV P n ds e S ⟨dst,.assign x,t,p,af,g⟩ v:=fun a w ha _=>by
 simp [execOp,ha.eval h]
theorem OV.ak (hc:ev e z=some (.bool true))(h:ev e x=some v):OV P n ds e S ⟨dst,.pick z x y,t,p,af,g⟩ v:=fun a w ha _=>by
 simp [execOp,ha.eval h,ha.eval hc,asBool]
theorem OV.ai (hc:ev e z=some (.bool false))(h:ev e y=some v):OV P n ds e S ⟨dst,.pick z x y,t,p,af,g⟩ v:=fun a w ha _=>by
 simp [execOp,ha.eval h,ha.eval hc,asBool]
section ints
variable {k k':IntKind} {a b:Int} {xt yt:TypeId}
theorem OV.add (hx:ev e x=some (.int k a))(hy:ev e y=some (.int k b)):OV P n ds e S ⟨dst,.binOp .add xt x y yt,t,p,af,g⟩ (.int k (k.wrap (a+b))):=fun _ w ha _=>by
 simp [execOp,ha.eval hx,ha.eval hy,eqGuard_add,binOp,Op.intArith]
theorem OV.sub (hx:ev e x=some (.int k a))(hy:ev e y=some (.int k b)):OV P n ds e S ⟨dst,.binOp .sub xt x y yt,t,p,af,g⟩ (.int k (k.wrap (a - b))):=fun _ w ha _=>by
 simp [execOp,ha.eval hx,ha.eval hy,eqGuard_sub,binOp,Op.intArith]
theorem OV.and (hx:ev e x=some (.int k a))(hy:ev e y=some (.int k b)):OV P n ds e S ⟨dst,.binOp .and xt x y yt,t,p,af,g⟩ (.int k (bits .and k a b)):=fun _ w ha _=>by
 simp [execOp,ha.eval hx,ha.eval hy,eqGuard_and,binOp,intBits_and]
theorem OV.dq (hx:ev e x=some (.int k a))(hy:ev e y=some (.int k b)):OV P n ds e S ⟨dst,.binOp .eql xt x y yt,t,p,af,g⟩ (.bool (decide (a=b))):=fun _ w ha _=>by
 simp [execOp,ha.eval hx,ha.eval hy,eqGuard_at_int,binOp_eql];rfl
theorem OV.fb (hx:ev e x=some (.int k a))(hy:ev e y=some (.int k b)):OV P n ds e S ⟨dst,.binOp .neq xt x y yt,t,p,af,g⟩ (.bool (!decide (a=b))):=fun _ w ha _=>by
 simp [execOp,ha.eval hx,ha.eval hy,eqGuard_at_int,binOp_neq,bne];rfl
theorem OV.cu (hx:ev e x=some (.int k a))(hy:ev e y=some (.int k b)):OV P n ds e S ⟨dst,.binOp .lss xt x y yt,t,p,af,g⟩ (.bool (decide (a<b))):=fun _ w ha _=>by
 simp [execOp,ha.eval hx,ha.eval hy,eqGuard_lss,binOp_lss]
theorem OV.ic (hx:ev e x=some (.int k a))(hy:ev e y=some (.int k b)):OV P n ds e S ⟨dst,.binOp .leq xt x y yt,t,p,af,g⟩ (.bool (decide (a≤b))):=fun _ w ha _=>by
 simp [execOp,ha.eval hx,ha.eval hy,eqGuard_leq,binOp_leq]
theorem OV.ia (hx:ev e x=some (.int k a))(hy:ev e y=some (.int k b)):OV P n ds e S ⟨dst,.binOp .gtr xt x y yt,t,p,af,g⟩ (.bool (decide (b<a))):=fun _ w ha _=>by
 simp [execOp,ha.eval hx,ha.eval hy,eqGuard_gtr,binOp_gtr]
theorem OV.fx (hx:ev e x=some (.int k a))(hy:ev e y=some (.int k b)):OV P n ds e S ⟨dst,.binOp .geq xt x y yt,t,p,af,g⟩ (.bool (decide (b≤a))):=fun _ w ha _=>by
 simp [execOp,ha.eval hx,ha.eval hy,eqGuard_geq,binOp_geq]
theorem OV.not {c:Bool}(hx:ev e x=some (.bool c)):OV P n ds e S ⟨dst,.unOp .not xt x,t,p,af,g⟩ (.bool (!c)):=fun _ w ha _=>by
 simp [execOp,ha.eval hx,Op.unary]
theorem OV.conv {src dst':TypeId}{d:TypeDesc}(hs:P.underlying src=some d)(hd:P.underlying dst'=some (.int k'))(hx:ev e x=some (.int k a)):
  OV P n ds e S ⟨dst,.convert src dst' x,t,p,af,g⟩ (.int k' (k'.wrap a)):=fun _ w ha _=>by
 simp [execOp,ha.eval hx,convert,run_underlying hs,run_underlying hd,Conv.intToInt]
end ints
theorem Jgo {a:Int}(h:-9223372036854775808≤a∧a≤9223372036854775807):IntKind.i64.wrap a=a:=by
 have:=IntWalk.i64_in a (by omega);exact this
theorem OV.cast {o:Oper}{v u:Value}(h:OV P n ds e S o v)(hvu:v=u):OV P n ds e S o u:=hvu ▸ h
section
variable {a b:Int} {xt yt:TypeId}
theorem OV.ie (hx:ev e x=some (.int .i64 a))(hy:ev e y=some (.int .i64 b))(h:-9223372036854775808≤a+b∧a+b≤9223372036854775807):
  OV P n ds e S ⟨dst,.binOp .add xt x y yt,t,p,af,g⟩ (.int .i64 (a+b)):=(OV.add hx hy).cast (by rw [Jgo h])
theorem OV.subI (hx:ev e x=some (.int .i64 a))(hy:ev e y=some (.int .i64 b))(h:-9223372036854775808≤a - b∧a - b≤9223372036854775807):
  OV P n ds e S ⟨dst,.binOp .sub xt x y yt,t,p,af,g⟩ (.int .i64 (a - b)):=(OV.sub hx hy).cast (by rw [Jgo h])
end
end
end Go.Hw
namespace Go.Hw
theorem Y1 {a0:Prop}(h0:a0:=by exact rfl):a0∧True:=⟨h0,trivial⟩
theorem Y2 {a0 a1:Prop}(h0:a0:=by exact rfl)(h1:a1:=by exact rfl):a0∧a1∧True:=⟨h0,h1,trivial⟩
theorem Y3 {a0 a1 a2:Prop}(h0:a0:=by exact rfl)(h1:a1:=by exact rfl)(h2:a2:=by exact rfl):a0∧a1∧a2∧True:=⟨h0,h1,h2,trivial⟩
theorem Y4 {a0 a1 a2 a3:Prop}(h0:a0:=by exact rfl)(h1:a1:=by exact rfl)(h2:a2:=by exact rfl)(h3:a3:=by exact rfl):a0∧a1∧a2∧a3∧True:=⟨h0,h1,h2,h3,trivial⟩
theorem Y5 {a0 a1 a2 a3 a4:Prop}(h0:a0:=by exact rfl)(h1:a1:=by exact rfl)(h2:a2:=by exact rfl)(h3:a3:=by exact rfl)(h4:a4:=by exact rfl):a0∧a1∧a2∧a3∧a4∧True:=⟨h0,h1,h2,h3,h4,trivial⟩
theorem Y6 {a0 a1 a2 a3 a4 a5:Prop}(h0:a0:=by exact rfl)(h1:a1:=by exact rfl)(h2:a2:=by exact rfl)(h3:a3:=by exact rfl)(h4:a4:=by exact rfl)(h5:a5:=by exact rfl):a0∧a1∧a2∧a3∧a4∧a5∧True:=⟨h0,h1,h2,h3,h4,h5,trivial⟩
theorem Y7 {a0 a1 a2 a3 a4 a5 a6:Prop}(h0:a0:=by exact rfl)(h1:a1:=by exact rfl)(h2:a2:=by exact rfl)(h3:a3:=by exact rfl)(h4:a4:=by exact rfl)(h5:a5:=by exact rfl)(h6:a6:=by exact rfl):a0∧a1∧a2∧a3∧a4∧a5∧a6∧True:=⟨h0,h1,h2,h3,h4,h5,h6,trivial⟩
theorem Y8 {a0 a1 a2 a3 a4 a5 a6 a7:Prop}(h0:a0:=by exact rfl)(h1:a1:=by exact rfl)(h2:a2:=by exact rfl)(h3:a3:=by exact rfl)(h4:a4:=by exact rfl)(h5:a5:=by exact rfl)(h6:a6:=by exact rfl)(h7:a7:=by exact rfl):a0∧a1∧a2∧a3∧a4∧a5∧a6∧a7∧True:=⟨h0,h1,h2,h3,h4,h5,h6,h7,trivial⟩
theorem Y9 {a0 a1 a2 a3 a4 a5 a6 a7 a8:Prop}(h0:a0:=by exact rfl)(h1:a1:=by exact rfl)(h2:a2:=by exact rfl)(h3:a3:=by exact rfl)(h4:a4:=by exact rfl)(h5:a5:=by exact rfl)(h6:a6:=by exact rfl)(h7:a7:=by exact rfl)(h8:a8:=by exact rfl):a0∧a1∧a2∧a3∧a4∧a5∧a6∧a7∧a8∧True:=⟨h0,h1,h2,h3,h4,h5,h6,h7,h8,trivial⟩
theorem Y10 {a0 a1 a2 a3 a4 a5 a6 a7 a8 a9:Prop}(h0:a0:=by exact rfl)(h1:a1:=by exact rfl)(h2:a2:=by exact rfl)(h3:a3:=by exact rfl)(h4:a4:=by exact rfl)(h5:a5:=by exact rfl)(h6:a6:=by exact rfl)(h7:a7:=by exact rfl)(h8:a8:=by exact rfl)(h9:a9:=by exact rfl):a0∧a1∧a2∧a3∧a4∧a5∧a6∧a7∧a8∧a9∧True:=⟨h0,h1,h2,h3,h4,h5,h6,h7,h8,h9,trivial⟩
theorem Y11 {a0 a1 a2 a3 a4 a5 a6 a7 a8 a9 a10:Prop}(h0:a0:=by exact rfl)(h1:a1:=by exact rfl)(h2:a2:=by exact rfl)(h3:a3:=by exact rfl)(h4:a4:=by exact rfl)(h5:a5:=by exact rfl)(h6:a6:=by exact rfl)(h7:a7:=by exact rfl)(h8:a8:=by exact rfl)(h9:a9:=by exact rfl)(h10:a10:=by exact rfl):a0∧a1∧a2∧a3∧a4∧a5∧a6∧a7∧a8∧a9∧a10∧True:=⟨h0,h1,h2,h3,h4,h5,h6,h7,h8,h9,h10,trivial⟩
theorem Y12 {a0 a1 a2 a3 a4 a5 a6 a7 a8 a9 a10 a11:Prop}(h0:a0:=by exact rfl)(h1:a1:=by exact rfl)(h2:a2:=by exact rfl)(h3:a3:=by exact rfl)(h4:a4:=by exact rfl)(h5:a5:=by exact rfl)(h6:a6:=by exact rfl)(h7:a7:=by exact rfl)(h8:a8:=by exact rfl)(h9:a9:=by exact rfl)(h10:a10:=by exact rfl)(h11:a11:=by exact rfl):a0∧a1∧a2∧a3∧a4∧a5∧a6∧a7∧a8∧a9∧a10∧a11∧True:=⟨h0,h1,h2,h3,h4,h5,h6,h7,h8,h9,h10,h11,trivial⟩
end Go.Hw
