/- Draws are not taken back: every run of the model's operations leaves the count of draws as it was, or raises it. -/
import Derived.WalkKit
import Derived.Test.YtdgigbopibdflaaGreatDoorHxA
namespace Go.Hw
set_option linter.unusedVariables false
set_option linter.unusedSimpArgs false
open Go
theorem Jg3 {α:Type}:∀ (m:Ask α) (w:World),w.drawn≤(w.ask m).2.drawn
 | .done a,w=>Nat.le_refl _
 | .ask what range k,w=>by
  unfold World.ask;simp only
  split
  ·exact Jg3 (k 0) w
  ·exact Nat.le_trans (Nat.le_succ _) (Jg3 (k _) { w with drawn:=w.drawn+1 })
theorem sys_drawn (w:World)(c:Sys):w.drawn≤(w.sys c).2.drawn:=by
 have h:=Jg3 (Kernel.perform c w.os) w;unfold World.sys
 split
 ·exact Nat.le_refl _
 ·rename_i r os w' heq;rw [heq] at h;exact h
theorem viewStore_drawn {p:Program}{w:World}{at_:Addr}{u:TypeId}{k:Addr}{v:Value}{b:Bool}{r:World × List Addr}(h:w.viewStore p at_ u k v b=.ok r):r.1.drawn=w.drawn:=by
 unfold World.viewStore at h;simp only [bind,Except.bind,pure,Except.pure,throw,throwThe,MonadExceptOf.throw] at h
 repeat' (split at h <;> try (first | cases h | skip))
 all_goals rfl
theorem farStore_drawn {p:Program}{w:World}{a:Addr}{v:Value}{b:Bool}{r:World × List Addr}(h:w.farStore p a v b=.ok r):r.1.drawn=w.drawn:=by
 unfold World.farStore at h
 split at h
 ·split at h
  ·rename_i hh;cases h;exact viewStore_drawn hh
  ·cases h
 ·cases h
theorem Jce {α:Type}{P:Program}:∀ (s:Sem α) (w:World) {x:α} {w':World},s.run P w=.ok x w'→w.drawn≤w'.drawn
 | .pure a,w,x,w',h=>by
  simp only [Sem.run,Result.ok.injEq] at h;rw [h.2];exact Nat.le_refl _
 | .load m a k,w,x,w',h=>by
  unfold Sem.run at h
  split at h
  ·exact Jce (k _) w h
  ·split at h
   ·exact Jce (k _) w h
   ·cases h
 | .store m a v k,w,x,w',h=>by
  have key:∀ r:Except Halt (World × List Addr),(∀ q,r=.ok q→w.drawn≤q.1.drawn)→(match r with | .ok (w1,_)=>k.run P w1 | .error e=>Result.halt e w)=.ok x w'→w.drawn≤w'.drawn:=by
   intro r hr hh;cases r with
   | error e=>cases hh
   | ok q=>exact Nat.le_trans (hr q rfl) (Jce k q.1 hh)
  cases v <;> first | (simp [Sem.run] at h;done) | (
   simp only [Sem.run] at h
   split at h
   ·split at h
    ·cases h
    ·exact Jce k (w.setCell a _) h
   ·exact key _ (fun q hq=>Nat.le_of_eq (farStore_drawn hq).symm) h)
 | .new o k,w,x,w',h=>by
  unfold Sem.run at h;exact Jce (k _) { w with heap:=w.heap.push o } h
 | .shape r k,w,x,w',h=>by
  unfold Sem.run at h;exact Jce (k _) w h
 | .freeze a n k,w,x,w',h=>by
  unfold Sem.run at h;have h1:=Jce k (w.freeze a n) h;have h2:(w.freeze a n).drawn=w.drawn:=by unfold World.freeze;split <;> rfl
  omega
 | .frozen a k,w,x,w',h=>by
  unfold Sem.run at h;exact Jce (k _) w h
 | .getObj r k,w,x,w',h=>by
  unfold Sem.run at h
  split at h
  ·cases h
  ·exact Jce (k _) w h
  ·cases h
 | .setObj r o k,w,x,w',h=>by
  unfold Sem.run at h
  split at h
  ·cases h
  ·exact Jce k { w with heap:=w.heap.setIfInBounds r o } h
  ·cases h
 | .choose q k,w,x,w',h=>by
  unfold Sem.run at h
  split at h
  ·exact Jce (k 0) w h
  ·exact Nat.le_trans (Nat.le_succ _) (Jce (k _) { w with drawn:=w.drawn+1 } h)
 | .sys c k,w,x,w',h=>by
  unfold Sem.run at h;exact Nat.le_trans (sys_drawn w c) (Jce (k _) _ h)
 | .program k,w,x,w',h=>by
  unfold Sem.run at h;exact Jce (k P) w h
 | .mark m k,w,x,w',h=>by
  unfold Sem.run at h;exact Jce k w h
 | .halt e,w,x,w',h=>by
  unfold Sem.run at h;cases h
end Go.Hw
