/- The loop's rule with its state in some variables; equality; answers. -/
import Derived.Test.YtdgigbopibdflaaGreatDoorHxRow
import Derived.Laws.StructEq
import Derived.ProofKit
import Derived.OpenShut
import Derived.ShutString
import Derived.ChangeOld
import Derived.SizedLaws
namespace Go.Hw
set_option linter.unusedVariables false
open Go Go.RowKit
variable {P:Program} {Q Q':Post} {n:Nat} {ds:DS} {e:Env} {c:Code} {S:World→Prop}
theorem WC.mono (h:WC P Q n ds e S c)(hq:∀ ex a w,Q ex a w→Q' ex a w):WC P Q' n ds e S c:=fun a w ha hw=>Go.wpIn_mono (h a w ha hw) hq
theorem WC.bz {α:Type}(env:α→Env)(R:α→World→Prop)(μ:α→Nat)(x0:α)(hs:Sub (env x0) e)(h0:∀ w,S w→R x0 w) 
  (round:∀ x,WC P (Exit.then (fun a w=>∃ x',Fits n ds (env x') a∧R x' w∧μ x'<μ x) Q) n ds (env x) (R x) c):WC P Q n ds e S (.loop c):=by
 refine WC.i6 (ι:=α) (fun q=>env q) (fun q=>R q) (fun q=>μ q) x0 hs h0 (fun q=>?_);refine (round q).mono ?_;intro ex a w hq;cases ex with
 | normal=>obtain ⟨x',h⟩:=hq;exact ⟨x',h⟩
 | _=>exact hq
theorem WX.au {α:Type}{env:α→Env}{R:α→World→Prop}{μ:α→Nat}{m:Nat}(x:α)(hs:Sub (env x) e)(hR:∀ w,S w→R x w)(hlt:μ x<m):
  WX (Exit.then (fun a w=>∃ x',Fits n ds (env x') a∧R x' w∧μ x'<m) Q) n ds e S .normal:=
 fun _ w ha hw=>⟨x,ha.sub hs,hR w hw,hlt⟩
theorem WC.ip {α β γ:Type}(env:α→β→γ→Env)(R:α→β→γ→World→Prop)(μ:α→β→γ→Nat)(x0:α)(y0:β)(z0:γ)(hs:Sub (env x0 y0 z0) e)(h0:∀ w,S w→R x0 y0 z0 w) 
  (round:∀ x y z,WC P (Exit.then (fun a w=>∃ x' y' z',Fits n ds (env x' y' z') a∧R x' y' z' w∧μ x' y' z'<μ x y z) Q) n ds (env x y z) (R x y z) c):WC P Q n ds e S (.loop c):=by
 refine WC.i6 (ι:=α × β × γ) (fun q=>env q.1 q.2.1 q.2.2) (fun q=>R q.1 q.2.1 q.2.2) (fun q=>μ q.1 q.2.1 q.2.2) (x0,y0,z0) hs h0 (fun q=>?_);refine (round q.1 q.2.1 q.2.2).mono ?_;intro ex a w hq;cases ex with
 | normal=>obtain ⟨x',y',z',h⟩:=hq;exact ⟨(x',y',z'),h⟩
 | _=>exact hq
theorem WX.et {α β γ:Type}{env:α→β→γ→Env}{R:α→β→γ→World→Prop}{μ:α→β→γ→Nat}{m:Nat}(x:α)(y:β)(z:γ)(hs:Sub (env x y z) e)(hR:∀ w,S w→R x y z w)(hlt:μ x y z<m):
  WX (Exit.then (fun a w=>∃ x' y' z',Fits n ds (env x' y' z') a∧R x' y' z' w∧μ x' y' z'<m) Q) n ds e S .normal:=
 fun _ w ha hw=>⟨x,y,z,ha.sub hs,hR w hw,hlt⟩
theorem WC.d8 {α β γ δ:Type}(env:α→β→γ→δ→Env)(R:α→β→γ→δ→World→Prop)(μ:α→β→γ→δ→Nat)(x0:α)(y0:β)(z0:γ)(u0:δ)(hs:Sub (env x0 y0 z0 u0) e)(h0:∀ w,S w→R x0 y0 z0 u0 w) 
  (round:∀ x y z u,WC P (Exit.then (fun a w=>∃ x' y' z' u',Fits n ds (env x' y' z' u') a∧R x' y' z' u' w∧μ x' y' z' u'<μ x y z u) Q) n ds (env x y z u) (R x y z u) c):WC P Q n ds e S (.loop c):=by
 refine WC.i6 (ι:=α × β × γ × δ) (fun q=>env q.1 q.2.1 q.2.2.1 q.2.2.2) (fun q=>R q.1 q.2.1 q.2.2.1 q.2.2.2) (fun q=>μ q.1 q.2.1 q.2.2.1 q.2.2.2) (x0,y0,z0,u0) hs h0 (fun q=>?_);refine (round q.1 q.2.1 q.2.2.1 q.2.2.2).mono ?_;intro ex a w hq;cases ex with
 | normal=>obtain ⟨x',y',z',u',h⟩:=hq;exact ⟨(x',y',z',u'),h⟩
 | _=>exact hq
theorem WX.cg {α β γ δ:Type}{env:α→β→γ→δ→Env}{R:α→β→γ→δ→World→Prop}{μ:α→β→γ→δ→Nat}{m:Nat}(x:α)(y:β)(z:γ)(u:δ)(hs:Sub (env x y z u) e)(hR:∀ w,S w→R x y z u w)(hlt:μ x y z u<m):
  WX (Exit.then (fun a w=>∃ x' y' z' u',Fits n ds (env x' y' z' u') a∧R x' y' z' u' w∧μ x' y' z' u'<m) Q) n ds e S .normal:=
 fun _ w ha hw=>⟨x,y,z,u,ha.sub hs,hR w hw,hlt⟩
theorem WC.loop5 {α β γ δ ε:Type}(env:α→β→γ→δ→ε→Env)(R:α→β→γ→δ→ε→World→Prop)(μ:α→β→γ→δ→ε→Nat)(x0:α)(y0:β)(z0:γ)(u0:δ)(v0:ε)(hs:Sub (env x0 y0 z0 u0 v0) e)(h0:∀ w,S w→R x0 y0 z0 u0 v0 w) 
  (round:∀ x y z u v,WC P (Exit.then (fun a w=>∃ x' y' z' u' v',Fits n ds (env x' y' z' u' v') a∧R x' y' z' u' v' w∧μ x' y' z' u' v'<μ x y z u v) Q) n ds (env x y z u v) (R x y z u v) c):WC P Q n ds e S (.loop c):=by
 refine WC.i6 (ι:=α × β × γ × δ × ε) (fun q=>env q.1 q.2.1 q.2.2.1 q.2.2.2.1 q.2.2.2.2) (fun q=>R q.1 q.2.1 q.2.2.1 q.2.2.2.1 q.2.2.2.2) (fun q=>μ q.1 q.2.1 q.2.2.1 q.2.2.2.1 q.2.2.2.2) (x0,y0,z0,u0,v0) hs h0 (fun q=>?_);refine (round q.1 q.2.1 q.2.2.1 q.2.2.2.1 q.2.2.2.2).mono ?_;intro ex a w hq;cases ex with
 | normal=>obtain ⟨x',y',z',u',v',h⟩:=hq;exact ⟨(x',y',z',u',v'),h⟩
 | _=>exact hq
theorem WX.round5 {α β γ δ ε:Type}{env:α→β→γ→δ→ε→Env}{R:α→β→γ→δ→ε→World→Prop}{μ:α→β→γ→δ→ε→Nat}{m:Nat}(x:α)(y:β)(z:γ)(u:δ)(v:ε)(hs:Sub (env x y z u v) e)(hR:∀ w,S w→R x y z u v w)(hlt:μ x y z u v<m):
  WX (Exit.then (fun a w=>∃ x' y' z' u' v',Fits n ds (env x' y' z' u' v') a∧R x' y' z' u' v' w∧μ x' y' z' u' v'<m) Q) n ds e S .normal:=
 fun _ w ha hw=>⟨x,y,z,u,v,ha.sub hs,hR w hw,hlt⟩
theorem WC.loop7 {α β γ δ ε ζ η:Type}(env:α→β→γ→δ→ε→ζ→η→Env)(R:α→β→γ→δ→ε→ζ→η→World→Prop)(μ:α→β→γ→δ→ε→ζ→η→Nat)(x0:α)(y0:β)(z0:γ)(u0:δ)(v0:ε)(s0:ζ)(t0:η)(hs:Sub (env x0 y0 z0 u0 v0 s0 t0) e)(h0:∀ w,S w→R x0 y0 z0 u0 v0 s0 t0 w) 
  (round:∀ x y z u v s t,WC P (Exit.then (fun a w=>∃ x' y' z' u' v' s' t',Fits n ds (env x' y' z' u' v' s' t') a∧R x' y' z' u' v' s' t' w∧μ x' y' z' u' v' s' t'<μ x y z u v s t) Q) n ds (env x y z u v s t) (R x y z u v s t) c):WC P Q n ds e S (.loop c):=by
 refine WC.i6 (ι:=α × β × γ × δ × ε × ζ × η) (fun q=>env q.1 q.2.1 q.2.2.1 q.2.2.2.1 q.2.2.2.2.1 q.2.2.2.2.2.1 q.2.2.2.2.2.2) (fun q=>R q.1 q.2.1 q.2.2.1 q.2.2.2.1 q.2.2.2.2.1 q.2.2.2.2.2.1 q.2.2.2.2.2.2) (fun q=>μ q.1 q.2.1 q.2.2.1 q.2.2.2.1 q.2.2.2.2.1 q.2.2.2.2.2.1 q.2.2.2.2.2.2) (x0,y0,z0,u0,v0,s0,t0) hs h0 (fun q=>?_);refine (round q.1 q.2.1 q.2.2.1 q.2.2.2.1 q.2.2.2.2.1 q.2.2.2.2.2.1 q.2.2.2.2.2.2).mono ?_;intro ex a w hq;cases ex with
 | normal=>obtain ⟨x',y',z',u',v',s',t',h⟩:=hq;exact ⟨(x',y',z',u',v',s',t'),h⟩
 | _=>exact hq
theorem WX.round7 {α β γ δ ε ζ η:Type}{env:α→β→γ→δ→ε→ζ→η→Env}{R:α→β→γ→δ→ε→ζ→η→World→Prop}{μ:α→β→γ→δ→ε→ζ→η→Nat}{m:Nat}(x:α)(y:β)(z:γ)(u:δ)(v:ε)(s:ζ)(t:η)(hs:Sub (env x y z u v s t) e)(hR:∀ w,S w→R x y z u v s t w)(hlt:μ x y z u v s t<m):
  WX (Exit.then (fun a w=>∃ x' y' z' u' v' s' t',Fits n ds (env x' y' z' u' v' s' t') a∧R x' y' z' u' v' s' t' w∧μ x' y' z' u' v' s' t'<m) Q) n ds e S .normal:=
 fun _ w ha hw=>⟨x,y,z,u,v,s,t,ha.sub hs,hR w hw,hlt⟩
end Go.Hw
namespace Go.Hw
set_option linter.unusedVariables false
set_option linter.unusedSimpArgs false
open Go Go.RowKit
variable {P:Program} {n:Nat} {ds:DS} {e:Env} {S:World→Prop} {dst:Option Tmp} {t t':TypeId} {p:String} {af:Array Edge} {g:Option (Nat × Bool)}
variable {x y z:Operand} {v u:Value} {xt yt:TypeId} {w:World}
theorem Jgi (s u:ByteArray):(s.toList == u.toList)=decide (s=u):=by
 rw [ByteArray.toList_eq,ByteArray.toList_eq];obtain ⟨⟨x⟩⟩:=s;obtain ⟨⟨y⟩⟩:=u;rw [Bool.eq_iff_iff];simp
theorem OV.gk {s u:ByteArray}(hx:ev e x=some (.string s))(hy:ev e y=some (.string u)):OV P n ds e S ⟨dst,.binOp .eql xt x y yt,t,p,af,g⟩ (.bool (decide (s=u))):=fun _ w ha _=>by
 simp [execOp,ha.eval hx,ha.eval hy,eqGuard_at_string,binOp,Op.stringOp,Jgi]
theorem OV.neqS {s u:ByteArray}(hx:ev e x=some (.string s))(hy:ev e y=some (.string u)):OV P n ds e S ⟨dst,.binOp .neq xt x y yt,t,p,af,g⟩ (.bool (!decide (s=u))):=fun _ w ha _=>by
 simp [execOp,ha.eval hx,ha.eval hy,eqGuard_at_string,binOp,Op.stringOp,Jgi]
end Go.Hw
namespace Go.Hw
set_option linter.unusedVariables false
set_option linter.unusedSimpArgs false
open Go Go.RowKit Go.ChangeShapes Go.WideShapes Go.ChangeAt
variable {H:Type} {enc:TypeId × Value→H} {P:Program} {w:World} {base:Nat} {spare:Nat→Bool} {held:Bool} {r:Reach} {b0:Nat}
end Go.Hw
