/- Contracts of functions of the program: what each returns and leaves in memory. Printed by gen.py and walk.py. -/
import Derived.Test.YtijplknkpkmblaaGreatDoorK3
import Derived.Test.YtijplknkpkmblaaGreatDoorHxSync
namespace Go.Proofs.YtijplknkpkmblaaGreatDoor
open Go Go.Hw
set_option linter.unusedSimpArgs false
set_option linter.unusedVariables false
theorem disable_run  (w : World) : (callFunc 75 #[]).run Tryz.prog w = .ok (.value (.tuple #[])) w := run_call_mark0 Tryz.func75 (by kernel_rfl) (by kernel_rfl) (by kernel_rfl) .disable (by kernel_rfl) w

theorem enable_run  (w : World) : (callFunc 77 #[]).run Tryz.prog w = .ok (.value (.tuple #[])) w := run_call_mark0 Tryz.func77 (by kernel_rfl) (by kernel_rfl) (by kernel_rfl) .enable (by kernel_rfl) w

theorem acquire_run (a : Addr) (w : World) : (callFunc 78 #[.pointer (some a)]).run Tryz.prog w = .ok (.value (.tuple #[])) w := run_call_marked Tryz.func78 (by kernel_rfl) (by kernel_rfl) (by kernel_rfl) .acquire (by kernel_rfl) a w

theorem releaseMerge_run (a : Addr) (w : World) : (callFunc 80 #[.pointer (some a)]).run Tryz.prog w = .ok (.value (.tuple #[])) w := run_call_marked Tryz.func80 (by kernel_rfl) (by kernel_rfl) (by kernel_rfl) .releaseMerge (by kernel_rfl) a w

theorem set_get {cs : List Value} {o : Nat} {v u : Value} (h : cs[o]? = some v) : (cs.set o u)[o]? = some u := by simp [(List.getElem?_eq_some_iff.1 h).1]

set_option maxRecDepth 10000 in
theorem ilock_calls (U b o : Nat) (cs : List Value) (ho : cs[o]? = some (.int .i32 0)) (w : World) (hA : Holds [own b (.cells cs.toArray U (0, 0))] w) : Calls Tryz.prog 52 #[.pointer (some ⟨b, o, none⟩)] w fun e w' => e = .returned (.tuple #[]) ∧ Turns [own b (.cells cs.toArray U (0, 0))] [own b (.cells (cs.set o (.int .i32 1)).toArray U (0, 0))] w w' := by
  refine enterA hA (args := [.pointer (some ⟨b, o, none⟩)]) Tryz.func52 rfl Tryz.ntmps52 rfl rfl ?_
  refine WC.seq ?_
  refine WC.region ?_
  refine WL.extern0 rfl rfl (fun w' _ => disable_run w') ?_
  refine WL.nil ?_
  refine WX.next ?_
  refine WC.seq ?_
  refine WC.seq ?_
  refine WC.region ?_
  refine WL.val (OV.move rfl) rfl ?_
  refine WL.val (OV.nilCheck rfl) rfl ?_
  first
  | (refine WL.val (OV.fieldAddr0 (off := 0) rfl T.u62 rfl) rfl ?_)
  | (refine WL.val (OV.fieldAddr (off := 0) rfl T.u62 rfl) rfl ?_)
  refine WL.extern1 (b := b) (o := o) (u := .int .i32 1) rfl rfl (fun w' hb => run_call_cas_hit (P := Tryz.prog) Tryz.func76 (by kernel_rfl) (by kernel_rfl) (by kernel_rfl) .i32 (by kernel_rfl) (y := 1) (cell_at hb ho).1 (cell_at hb ho).2) ?_
  refine WL.nil ?_
  refine WX.next ?_
  refine WC.condT rfl ?_
  refine WC.seq ?_
  refine WC.condT rfl ?_
  refine WC.seq ?_
  refine WC.region ?_
  refine WL.extern0 rfl rfl (fun w' _ => enable_run w') ?_
  refine WL.nil ?_
  refine WX.next ?_
  refine WC.region ?_
  refine WL.val (OV.move rfl) rfl ?_
  refine WL.val (OV.toUnsafe T.u117 T.u121 (by kernel_rfl) rfl (fun _ hw => (cell_at (hw.it _ (.head _)) (set_get ho)).1)) rfl ?_
  refine WL.extern0 rfl rfl (fun w' _ => acquire_run _ w') ?_
  refine WL.nil ?_
  refine WX.next ?_
  refine WC.ret ?_
  refine WX.then_ret ?_
  exact WX.ret0 rfl rfl (fun w hw => ⟨rfl, hw.turned⟩)

set_option maxRecDepth 10000 in
theorem iunlock_calls (U b o : Nat) (cs : List Value) (ho : cs[o]? = some (.int .i32 1)) (w : World) (hA : Holds [own b (.cells cs.toArray U (0, 0))] w) : Calls Tryz.prog 53 #[.pointer (some ⟨b, o, none⟩)] w fun e w' => e = .returned (.tuple #[]) ∧ Turns [own b (.cells cs.toArray U (0, 0))] [own b (.cells (cs.set o (.int .i32 0)).toArray U (0, 0))] w w' := by
  refine enterA hA (args := [.pointer (some ⟨b, o, none⟩)]) Tryz.func53 rfl Tryz.ntmps53 rfl rfl ?_
  refine WC.seq ?_
  refine WC.condT rfl ?_
  refine WC.seq ?_
  refine WC.region ?_
  refine WL.val (OV.move rfl) rfl ?_
  refine WL.val (OV.nilCheck rfl) rfl ?_
  first
  | (refine WL.val (OV.fieldAddr0 (off := 0) rfl T.u62 rfl) rfl ?_)
  | (refine WL.val (OV.fieldAddr (off := 0) rfl T.u62 rfl) rfl ?_)
  refine WL.val (OV.load1 rfl T.u21 rfl (fun _ hw => (cell_at (hw.it _ (.head _)) ho).1)) rfl ?_
  refine WL.nil ?_
  refine WX.next ?_
  refine WC.seq ?_
  refine WC.region ?_
  refine WL.val (OV.move rfl) rfl ?_
  refine WL.val (OV.toUnsafe T.u117 T.u121 (by kernel_rfl) rfl (fun _ hw => (cell_at (hw.it _ (.head _)) ho).1)) rfl ?_
  refine WL.extern0 rfl rfl (fun w' _ => releaseMerge_run _ w') ?_
  refine WL.nil ?_
  refine WX.next ?_
  refine WC.region ?_
  refine WL.extern0 rfl rfl (fun w' _ => disable_run w') ?_
  refine WL.nil ?_
  refine WX.next ?_
  refine WC.seq ?_
  refine WC.region ?_
  refine WL.val (OV.move rfl) rfl ?_
  refine WL.val (OV.nilCheck rfl) rfl ?_
  first
  | (refine WL.val (OV.fieldAddr0 (off := 0) rfl T.u62 rfl) rfl ?_)
  | (refine WL.val (OV.fieldAddr (off := 0) rfl T.u62 rfl) rfl ?_)
  refine WL.extern1 (b := b) (o := o) (u := .int .i32 0) rfl rfl (fun w' hb => run_call_add (P := Tryz.prog) Tryz.func81 (by kernel_rfl) (by kernel_rfl) (by kernel_rfl) .i32 (by kernel_rfl) (y := -1) (s := 0) (cell_at hb ho).1 (cell_at hb ho).2 (by simp [go_sem]; rfl)) ?_
  refine WL.val (OV.assign rfl) rfl ?_
  refine WL.nil ?_
  refine WX.next ?_
  refine WC.seq ?_
  refine WC.seq ?_
  refine WC.region ?_
  refine WL.val (OV.move rfl) rfl ?_
  refine WL.val (OV.neq rfl rfl) rfl ?_
  refine WL.nil ?_
  refine WX.next ?_
  refine WC.condF rfl ?_
  refine WC.skip ?_
  refine WX.next ?_
  refine WC.region ?_
  refine WL.extern0 rfl rfl (fun w' _ => enable_run w') ?_
  refine WL.nil ?_
  exact WX.ret0 rfl rfl (fun w hw => ⟨rfl, hw.turned⟩)

set_option maxRecDepth 10000 in
theorem lock_calls (U b o : Nat) (cs : List Value) (ho : cs[o]? = some (.int .i32 0)) (w : World) (hA : Holds [own b (.cells cs.toArray U (0, 0))] w) : Calls Tryz.prog 42 #[.pointer (some ⟨b, o, none⟩)] w fun e w' => e = .returned (.tuple #[]) ∧ Turns [own b (.cells cs.toArray U (0, 0))] [own b (.cells (cs.set o (.int .i32 1)).toArray U (0, 0))] w w' := by
  refine enterA hA (args := [.pointer (some ⟨b, o, none⟩)]) Tryz.func42 rfl Tryz.ntmps42 rfl rfl ?_
  refine WC.region ?_
  refine WL.val (OV.move rfl) rfl ?_
  refine WL.val (OV.nilCheck rfl) rfl ?_
  first
  | (refine WL.val (OV.fieldAddr0 (off := 0) rfl T.u64 rfl) rfl ?_)
  | (refine WL.val (OV.fieldAddr (off := 0) rfl T.u64 rfl) rfl ?_)
  refine WL.callT1 (ι := Unit) (vv := fun _ => .tuple #[]) (pp := fun _ => True) (jj := fun _ => own b (.cells (cs.set o (.int .i32 1)).toArray U (0, 0))) (by kernel_rfl) rfl rfl (fun w' hw' hH => (ilock_calls U b o cs ho w' hH).mono (fun e w' ⟨h1, h2⟩ => ⟨(), h1, trivial, h2⟩)) ?_
  rintro _ _
  refine WL.nil ?_
  exact WX.ret0 rfl rfl (fun w hw => ⟨rfl, hw.turned⟩)

set_option maxRecDepth 10000 in
theorem unlock_calls (U b o : Nat) (cs : List Value) (ho : cs[o]? = some (.int .i32 1)) (w : World) (hA : Holds [own b (.cells cs.toArray U (0, 0))] w) : CallsDef Tryz.prog 43 #[.pointer (some ⟨b, o, none⟩)] w fun w' => Turns [own b (.cells cs.toArray U (0, 0))] [own b (.cells (cs.set o (.int .i32 0)).toArray U (0, 0))] w w' := by
  refine enterD [own b (.cells cs.toArray U (0, 0))] hA (args := [.pointer (some ⟨b, o, none⟩)]) Tryz.func43 rfl Tryz.ntmps43 rfl rfl ?_
  refine WC.region ?_
  refine WL.val (OV.move rfl) rfl ?_
  refine WL.val (OV.nilCheck rfl) rfl ?_
  first
  | (refine WL.val (OV.fieldAddr0 (off := 0) rfl T.u64 rfl) rfl ?_)
  | (refine WL.val (OV.fieldAddr (off := 0) rfl T.u64 rfl) rfl ?_)
  refine WL.callT1 (ι := Unit) (vv := fun _ => .tuple #[]) (pp := fun _ => True) (jj := fun _ => own b (.cells (cs.set o (.int .i32 0)).toArray U (0, 0))) (by kernel_rfl) rfl rfl (fun w' hw' hH => (iunlock_calls U b o cs ho w' hH).mono (fun e w' ⟨h1, h2⟩ => ⟨(), h1, trivial, h2⟩)) ?_
  rintro _ _
  refine WL.nil ?_
  exact WX.retD rfl rfl (fun w hw => hw.turned)

end Go.Proofs.YtijplknkpkmblaaGreatDoor
