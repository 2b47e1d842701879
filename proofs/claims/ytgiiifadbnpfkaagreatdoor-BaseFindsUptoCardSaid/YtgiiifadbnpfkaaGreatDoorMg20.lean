/- Contracts of functions of the program: what each returns and leaves in memory. Printed by gen.py and walk.py. -/
import Derived.Test.YtgiiifadbnpfkaaGreatDoorMg19
namespace Go.Proofs.YtgiiifadbnpfkaaGreatDoor
open Go Go.Hw
set_option linter.unusedSimpArgs false
set_option linter.unusedVariables false
set_option maxRecDepth 10000 in
theorem match_a1 (p x : At) (a1 a2 : Option Addr) (c1 c2 : Nat) (h1 : p.args.length ≤ 1048575) (h2 : x.args.length ≤ 1048575) (w : World) (hr1 : RT w a1 p.args) (hr2 : RT w a2 x.args) (hn : p.name ≠ x.name) : Calls Tryz.prog 20 #[atV p a1 c1, atV x a2 c2, .slice none 0 0] w fun e w' => ∃ v, e = .returned (.tuple #[v, .bool (matchB p x)]) ∧ Fr0 w w' := by
  refine enterS (args := [atV p a1 c1, atV x a2 c2, .slice none 0 0]) (fun _ => False) Tryz.func20 rfl Tryz.ntmps20 rfl rfl ?_
  refine WC.seq ?_
  refine WC.region ?_
  refine WL.box rfl rfl rfl ?_
  intro b3
  refine WL.box rfl rfl rfl ?_
  intro b4
  refine WL.val (OV.assign rfl) rfl ?_
  refine WL.val (OV.assign rfl) rfl ?_
  refine WL.nil ?_
  refine WX.next ?_
  refine WC.seq ?_
  refine WC.seq ?_
  refine WC.region ?_
  first
  | (refine WL.val (OV.fieldAddr0 (off := 3) rfl T.u34 rfl) rfl ?_)
  | (refine WL.val (OV.fieldAddr (off := 3) rfl T.u34 rfl) rfl ?_)
  refine WL.val (OV.load1 (v := .string p.name) rfl T.u9 rfl (fun _ hw => (cell_at (hw.it _ (.tail _ (.head _))) (o := 3) rfl).1)) rfl ?_
  first
  | (refine WL.val (OV.fieldAddr0 (off := 3) rfl T.u34 rfl) rfl ?_)
  | (refine WL.val (OV.fieldAddr (off := 3) rfl T.u34 rfl) rfl ?_)
  refine WL.val (OV.load1 (v := .string x.name) rfl T.u9 rfl (fun _ hw => (cell_at (hw.it _ (.head _)) (o := 3) rfl).1)) rfl ?_
  refine WL.val ((OV.neqS rfl rfl).cast (u := .bool true) (by simp [hn])) rfl ?_
  refine WL.val (OV.move rfl) rfl ?_
  refine WL.known (t := 23) (b := true) rfl (by rfl) ?_
  refine WL.skip (b := true) rfl rfl rfl rfl ?_
  refine WL.skip (b := true) rfl rfl rfl rfl ?_
  refine WL.skip (b := true) rfl rfl rfl rfl ?_
  refine WL.skip (b := true) rfl rfl rfl rfl ?_
  refine WL.skip (b := true) rfl rfl rfl rfl ?_
  refine WL.skip (b := true) rfl rfl rfl rfl ?_
  refine WL.skip (b := true) rfl rfl rfl rfl ?_
  refine WL.val (OV.pickT rfl rfl) rfl ?_
  refine WL.val (OV.move rfl) rfl ?_
  refine WL.skip (b := true) rfl rfl rfl rfl ?_
  refine WL.skip (b := true) rfl rfl rfl rfl ?_
  refine WL.skip (b := true) rfl rfl rfl rfl ?_
  refine WL.skip (b := true) rfl rfl rfl rfl ?_
  refine WL.skipU rfl rfl rfl ?_
  refine WL.skipU rfl rfl rfl ?_
  refine WL.skipU rfl rfl rfl ?_
  refine WL.skipU rfl rfl rfl ?_
  refine WL.skip (b := true) rfl rfl rfl rfl ?_
  refine WL.val (OV.pickT rfl rfl) rfl ?_
  refine WL.nil ?_
  refine WX.next ?_
  refine WC.condT (show _ = some (Value.bool true) from by rfl) ?_
  refine WC.seq ?_
  refine WC.region ?_
  refine WL.val (OV.assign rfl) rfl ?_
  refine WL.val (OV.assign rfl) rfl ?_
  refine WL.nil ?_
  refine WX.next ?_
  refine WC.ret ?_
  refine WX.then_ret ?_
  exact WX.ret2 rfl rfl rfl rfl (fun w' hw => ⟨_, by rw [matchB, decide_eq_false (fun h => hn h.1), Bool.false_and], hw.fr⟩)

set_option maxRecDepth 10000 in
theorem match_a2 (p x : At) (a1 a2 : Option Addr) (c1 c2 : Nat) (h1 : p.args.length ≤ 1048575) (h2 : x.args.length ≤ 1048575) (w : World) (hr1 : RT w a1 p.args) (hr2 : RT w a2 x.args) (hn : p.name = x.name) (hl : p.args.length ≠ x.args.length) : Calls Tryz.prog 20 #[atV p a1 c1, atV x a2 c2, .slice none 0 0] w fun e w' => ∃ v, e = .returned (.tuple #[v, .bool (matchB p x)]) ∧ Fr0 w w' := by
  refine enterS (args := [atV p a1 c1, atV x a2 c2, .slice none 0 0]) (fun _ => False) Tryz.func20 rfl Tryz.ntmps20 rfl rfl ?_
  refine WC.seq ?_
  refine WC.region ?_
  refine WL.box rfl rfl rfl ?_
  intro b3
  refine WL.box rfl rfl rfl ?_
  intro b4
  refine WL.val (OV.assign rfl) rfl ?_
  refine WL.val (OV.assign rfl) rfl ?_
  refine WL.nil ?_
  refine WX.next ?_
  refine WC.seq ?_
  refine WC.seq ?_
  refine WC.region ?_
  first
  | (refine WL.val (OV.fieldAddr0 (off := 3) rfl T.u34 rfl) rfl ?_)
  | (refine WL.val (OV.fieldAddr (off := 3) rfl T.u34 rfl) rfl ?_)
  refine WL.val (OV.load1 (v := .string p.name) rfl T.u9 rfl (fun _ hw => (cell_at (hw.it _ (.tail _ (.head _))) (o := 3) rfl).1)) rfl ?_
  first
  | (refine WL.val (OV.fieldAddr0 (off := 3) rfl T.u34 rfl) rfl ?_)
  | (refine WL.val (OV.fieldAddr (off := 3) rfl T.u34 rfl) rfl ?_)
  refine WL.val (OV.load1 (v := .string x.name) rfl T.u9 rfl (fun _ hw => (cell_at (hw.it _ (.head _)) (o := 3) rfl).1)) rfl ?_
  refine WL.val ((OV.neqS rfl rfl).cast (u := .bool false) (by simp [hn])) rfl ?_
  refine WL.val (OV.move rfl) rfl ?_
  refine WL.known (t := 23) (b := false) rfl (by rfl) ?_
  refine WL.go (b := false) rfl rfl rfl ?_
  first
  | (refine WL.val (OV.fieldAddr0 (off := 4) rfl T.u34 rfl) rfl ?_)
  | (refine WL.val (OV.fieldAddr (off := 4) rfl T.u34 rfl) rfl ?_)
  refine WL.go (b := false) rfl rfl rfl ?_
  refine WL.val (OV.load1 (v := .slice a1 p.args.length c1) rfl T.u32 rfl (fun _ hw => (cell_at (hw.it _ (.tail _ (.head _))) (o := 4) rfl).1)) rfl ?_
  refine WL.go (b := false) rfl rfl rfl ?_
  first
  | (refine WL.val (OV.lenSlice rfl T.u32) rfl ?_)
  | (refine WL.val (OV.lenStr rfl T.u32) rfl ?_)
  refine WL.go (b := false) rfl rfl rfl ?_
  first
  | (refine WL.val (OV.fieldAddr0 (off := 4) rfl T.u34 rfl) rfl ?_)
  | (refine WL.val (OV.fieldAddr (off := 4) rfl T.u34 rfl) rfl ?_)
  refine WL.go (b := false) rfl rfl rfl ?_
  refine WL.val (OV.load1 (v := .slice a2 x.args.length c2) rfl T.u32 rfl (fun _ hw => (cell_at (hw.it _ (.head _)) (o := 4) rfl).1)) rfl ?_
  refine WL.go (b := false) rfl rfl rfl ?_
  first
  | (refine WL.val (OV.lenSlice rfl T.u32) rfl ?_)
  | (refine WL.val (OV.lenStr rfl T.u32) rfl ?_)
  refine WL.go (b := false) rfl rfl rfl ?_
  refine WL.val ((OV.neq rfl rfl).cast (u := .bool true) (by rw [decide_eq_false (by omega)]; rfl)) rfl ?_
  refine WL.val (OV.pickF rfl rfl) rfl ?_
  refine WL.val (OV.move rfl) rfl ?_
  refine WL.known (t := 32) (b := true) rfl (by rfl) ?_
  refine WL.skip (b := true) rfl rfl rfl rfl ?_
  refine WL.skip (b := true) rfl rfl rfl rfl ?_
  refine WL.skip (b := true) rfl rfl rfl rfl ?_
  refine WL.skip (b := true) rfl rfl rfl rfl ?_
  refine WL.skipU rfl rfl rfl ?_
  refine WL.skipU rfl rfl rfl ?_
  refine WL.skipU rfl rfl rfl ?_
  refine WL.skipU rfl rfl rfl ?_
  refine WL.skip (b := true) rfl rfl rfl rfl ?_
  refine WL.val (OV.pickT rfl rfl) rfl ?_
  refine WL.nil ?_
  refine WX.next ?_
  refine WC.condT (show _ = some (Value.bool true) from by rfl) ?_
  refine WC.seq ?_
  refine WC.region ?_
  refine WL.val (OV.assign rfl) rfl ?_
  refine WL.val (OV.assign rfl) rfl ?_
  refine WL.nil ?_
  refine WX.next ?_
  refine WC.ret ?_
  refine WX.then_ret ?_
  exact WX.ret2 rfl rfl rfl rfl (fun w' hw => ⟨_, by rw [matchB, decide_eq_false (fun h => hl h.2.1), Bool.false_and], hw.fr⟩)

set_option maxRecDepth 10000 in
theorem match_a3 (p x : At) (a1 a2 : Option Addr) (c1 c2 : Nat) (h1 : p.args.length ≤ 1048575) (h2 : x.args.length ≤ 1048575) (w : World) (hr1 : RT w a1 p.args) (hr2 : RT w a2 x.args) (hn : p.name = x.name) (hl : p.args.length = x.args.length) (hv : varB p.b = true) (hk : x.b.kind = 0) : Calls Tryz.prog 20 #[atV p a1 c1, atV x a2 c2, .slice none 0 0] w fun e w' => ∃ v, e = .returned (.tuple #[v, .bool (matchB p x)]) ∧ Fr0 w w' := by
  refine enterS (args := [atV p a1 c1, atV x a2 c2, .slice none 0 0]) (fun _ => False) Tryz.func20 rfl Tryz.ntmps20 rfl rfl ?_
  refine WC.seq ?_
  refine WC.region ?_
  refine WL.box rfl rfl rfl ?_
  intro b3
  refine WL.box rfl rfl rfl ?_
  intro b4
  refine WL.val (OV.assign rfl) rfl ?_
  refine WL.val (OV.assign rfl) rfl ?_
  refine WL.nil ?_
  refine WX.next ?_
  refine WC.seq ?_
  refine WC.seq ?_
  refine WC.region ?_
  first
  | (refine WL.val (OV.fieldAddr0 (off := 3) rfl T.u34 rfl) rfl ?_)
  | (refine WL.val (OV.fieldAddr (off := 3) rfl T.u34 rfl) rfl ?_)
  refine WL.val (OV.load1 (v := .string p.name) rfl T.u9 rfl (fun _ hw => (cell_at (hw.it _ (.tail _ (.head _))) (o := 3) rfl).1)) rfl ?_
  first
  | (refine WL.val (OV.fieldAddr0 (off := 3) rfl T.u34 rfl) rfl ?_)
  | (refine WL.val (OV.fieldAddr (off := 3) rfl T.u34 rfl) rfl ?_)
  refine WL.val (OV.load1 (v := .string x.name) rfl T.u9 rfl (fun _ hw => (cell_at (hw.it _ (.head _)) (o := 3) rfl).1)) rfl ?_
  refine WL.val ((OV.neqS rfl rfl).cast (u := .bool false) (by simp [hn])) rfl ?_
  refine WL.val (OV.move rfl) rfl ?_
  refine WL.known (t := 23) (b := false) rfl (by rfl) ?_
  refine WL.go (b := false) rfl rfl rfl ?_
  first
  | (refine WL.val (OV.fieldAddr0 (off := 4) rfl T.u34 rfl) rfl ?_)
  | (refine WL.val (OV.fieldAddr (off := 4) rfl T.u34 rfl) rfl ?_)
  refine WL.go (b := false) rfl rfl rfl ?_
  refine WL.val (OV.load1 (v := .slice a1 p.args.length c1) rfl T.u32 rfl (fun _ hw => (cell_at (hw.it _ (.tail _ (.head _))) (o := 4) rfl).1)) rfl ?_
  refine WL.go (b := false) rfl rfl rfl ?_
  first
  | (refine WL.val (OV.lenSlice rfl T.u32) rfl ?_)
  | (refine WL.val (OV.lenStr rfl T.u32) rfl ?_)
  refine WL.go (b := false) rfl rfl rfl ?_
  first
  | (refine WL.val (OV.fieldAddr0 (off := 4) rfl T.u34 rfl) rfl ?_)
  | (refine WL.val (OV.fieldAddr (off := 4) rfl T.u34 rfl) rfl ?_)
  refine WL.go (b := false) rfl rfl rfl ?_
  refine WL.val (OV.load1 (v := .slice a2 x.args.length c2) rfl T.u32 rfl (fun _ hw => (cell_at (hw.it _ (.head _)) (o := 4) rfl).1)) rfl ?_
  refine WL.go (b := false) rfl rfl rfl ?_
  first
  | (refine WL.val (OV.lenSlice rfl T.u32) rfl ?_)
  | (refine WL.val (OV.lenStr rfl T.u32) rfl ?_)
  refine WL.go (b := false) rfl rfl rfl ?_
  refine WL.val ((OV.neq rfl rfl).cast (u := .bool false) (by rw [decide_eq_true (by omega)]; rfl)) rfl ?_
  refine WL.val (OV.pickF rfl rfl) rfl ?_
  refine WL.val (OV.move rfl) rfl ?_
  refine WL.known (t := 32) (b := false) rfl (by rfl) ?_
  refine WL.go (b := false) rfl rfl rfl ?_
  first
  | (refine WL.val (OV.fieldAddr0 (off := 0) rfl T.u34 rfl) rfl ?_)
  | (refine WL.val (OV.fieldAddr (off := 0) rfl T.u34 rfl) rfl ?_)
  refine WL.go (b := false) rfl rfl rfl ?_
  refine WL.val (OV.loadN (cs := tmC p.b) rfl T.u31 rfl T.z31 (fun _ hw j v hj => by rw [add_off]; exact own_part hw (.tail _ (.head _)) (o := 0) (cs' := tmC p.b) rfl j v hj)) rfl ?_
  refine WL.go (b := false) rfl rfl rfl ?_
  refine WL.call0 (v := .bool true) (vs := [tmV p.b]) (by kernel_rfl) rfl rfl (fun w' hw' => (var_calls p.b w').mono (fun en w'' ⟨q1, q2⟩ => ⟨by rw [q1, hv], q2⟩)) ?_
  refine WL.go (b := false) rfl rfl rfl ?_
  refine WL.val (OV.move rfl) rfl ?_
  refine WL.known (t := 36) (b := true) rfl (by rfl) ?_
  refine WL.go (b := true) rfl rfl rfl ?_
  first
  | (refine WL.val (OV.fieldAddr0 (off := 0) rfl T.u34 rfl) rfl ?_)
  | (refine WL.val (OV.fieldAddr (off := 0) rfl T.u34 rfl) rfl ?_)
  refine WL.go (b := true) rfl rfl rfl ?_
  first
  | (refine WL.val (OV.fieldAddr0 (off := 0) rfl T.u31 rfl) rfl ?_)
  | (refine WL.val (OV.fieldAddr (off := 0) rfl T.u31 rfl) rfl ?_)
  refine WL.go (b := true) rfl rfl rfl ?_
  refine WL.val (OV.load1 (v := .int .i64 x.b.kind) rfl T.u3 rfl (fun _ hw => (cell_at (hw.it _ (.head _)) (o := 0) rfl).1)) rfl ?_
  refine WL.go (b := true) rfl rfl rfl ?_
  refine WL.val ((OV.eql rfl rfl).cast (u := .bool true) (by rw [hk]; rfl)) rfl ?_
  refine WL.go (b := false) rfl rfl rfl ?_
  refine WL.val (OV.pickT rfl rfl) rfl ?_
  refine WL.val (OV.pickF rfl rfl) rfl ?_
  refine WL.nil ?_
  refine WX.next ?_
  refine WC.condT (show _ = some (Value.bool true) from by rfl) ?_
  refine WC.seq ?_
  refine WC.region ?_
  refine WL.val (OV.assign rfl) rfl ?_
  refine WL.val (OV.assign rfl) rfl ?_
  refine WL.nil ?_
  refine WX.next ?_
  refine WC.ret ?_
  refine WX.then_ret ?_
  exact WX.ret2 rfl rfl rfl rfl (fun w' hw => ⟨_, by rw [matchB, decide_eq_false (fun h => h.2.2 ⟨hv, hk⟩), Bool.false_and], hw.fr⟩)

set_option maxRecDepth 10000 in
set_option maxHeartbeats 2000000 in
theorem match_b (p x : At) (a1 a2 : Option Addr) (c1 c2 : Nat) (h1 : p.args.length ≤ 1048575) (h2 : x.args.length ≤ 1048575) (w : World) (hr1 : RT w a1 p.args) (hr2 : RT w a2 x.args) (hn : p.name = x.name) (hl : p.args.length = x.args.length) (hvk : ¬ (varB p.b = true ∧ x.b.kind = 0)) : Calls Tryz.prog 20 #[atV p a1 c1, atV x a2 c2, .slice none 0 0] w fun e w' => ∃ v, e = .returned (.tuple #[v, .bool (matchB p x)]) ∧ Fr0 w w' := by
  refine enterS (args := [atV p a1 c1, atV x a2 c2, .slice none 0 0]) (fun _ => False) Tryz.func20 rfl Tryz.ntmps20 rfl rfl ?_
  refine WC.seq ?_
  refine WC.region ?_
  refine WL.box rfl rfl rfl ?_
  intro b3
  refine WL.box rfl rfl rfl ?_
  intro b4
  refine WL.val (OV.assign rfl) rfl ?_
  refine WL.val (OV.assign rfl) rfl ?_
  refine WL.nil ?_
  refine WX.next ?_
  refine WC.seq ?_
  refine WC.seq ?_
  refine WC.region ?_
  first
  | (refine WL.val (OV.fieldAddr0 (off := 3) rfl T.u34 rfl) rfl ?_)
  | (refine WL.val (OV.fieldAddr (off := 3) rfl T.u34 rfl) rfl ?_)
  refine WL.val (OV.load1 (v := .string p.name) rfl T.u9 rfl (fun _ hw => (cell_at (hw.it _ (.tail _ (.head _))) (o := 3) rfl).1)) rfl ?_
  first
  | (refine WL.val (OV.fieldAddr0 (off := 3) rfl T.u34 rfl) rfl ?_)
  | (refine WL.val (OV.fieldAddr (off := 3) rfl T.u34 rfl) rfl ?_)
  refine WL.val (OV.load1 (v := .string x.name) rfl T.u9 rfl (fun _ hw => (cell_at (hw.it _ (.head _)) (o := 3) rfl).1)) rfl ?_
  refine WL.val ((OV.neqS rfl rfl).cast (u := .bool false) (by simp [hn])) rfl ?_
  refine WL.val (OV.move rfl) rfl ?_
  refine WL.known (t := 23) (b := false) rfl (by rfl) ?_
  refine WL.go (b := false) rfl rfl rfl ?_
  first
  | (refine WL.val (OV.fieldAddr0 (off := 4) rfl T.u34 rfl) rfl ?_)
  | (refine WL.val (OV.fieldAddr (off := 4) rfl T.u34 rfl) rfl ?_)
  refine WL.go (b := false) rfl rfl rfl ?_
  refine WL.val (OV.load1 (v := .slice a1 p.args.length c1) rfl T.u32 rfl (fun _ hw => (cell_at (hw.it _ (.tail _ (.head _))) (o := 4) rfl).1)) rfl ?_
  refine WL.go (b := false) rfl rfl rfl ?_
  first
  | (refine WL.val (OV.lenSlice rfl T.u32) rfl ?_)
  | (refine WL.val (OV.lenStr rfl T.u32) rfl ?_)
  refine WL.go (b := false) rfl rfl rfl ?_
  first
  | (refine WL.val (OV.fieldAddr0 (off := 4) rfl T.u34 rfl) rfl ?_)
  | (refine WL.val (OV.fieldAddr (off := 4) rfl T.u34 rfl) rfl ?_)
  refine WL.go (b := false) rfl rfl rfl ?_
  refine WL.val (OV.load1 (v := .slice a2 x.args.length c2) rfl T.u32 rfl (fun _ hw => (cell_at (hw.it _ (.head _)) (o := 4) rfl).1)) rfl ?_
  refine WL.go (b := false) rfl rfl rfl ?_
  first
  | (refine WL.val (OV.lenSlice rfl T.u32) rfl ?_)
  | (refine WL.val (OV.lenStr rfl T.u32) rfl ?_)
  refine WL.go (b := false) rfl rfl rfl ?_
  refine WL.val ((OV.neq rfl rfl).cast (u := .bool false) (by rw [decide_eq_true (by omega)]; rfl)) rfl ?_
  refine WL.val (OV.pickF rfl rfl) rfl ?_
  refine WL.val (OV.move rfl) rfl ?_
  refine WL.known (t := 32) (b := false) rfl (by rfl) ?_
  refine WL.go (b := false) rfl rfl rfl ?_
  first
  | (refine WL.val (OV.fieldAddr0 (off := 0) rfl T.u34 rfl) rfl ?_)
  | (refine WL.val (OV.fieldAddr (off := 0) rfl T.u34 rfl) rfl ?_)
  refine WL.go (b := false) rfl rfl rfl ?_
  refine WL.val (OV.loadN (cs := tmC p.b) rfl T.u31 rfl T.z31 (fun _ hw j v hj => by rw [add_off]; exact own_part hw (.tail _ (.head _)) (o := 0) (cs' := tmC p.b) rfl j v hj)) rfl ?_
  refine WL.go (b := false) rfl rfl rfl ?_
  refine WL.call0 (v := .bool (varB p.b)) (by kernel_rfl) rfl rfl (fun w' hw' => var_calls p.b w') ?_
  refine WL.go (b := false) rfl rfl rfl ?_
  refine WL.val (OV.move rfl) rfl ?_
  refine WL.split (t := 36) rfl (fun g36 => ?_) (fun g36 => ?_)
  · try simp only [decide_eq_true_eq, decide_eq_false_iff_not, Bool.not_eq_true', Bool.not_eq_false'] at g36
    refine WL.go (b := true) rfl rfl rfl ?_
    first
    | (refine WL.val (OV.fieldAddr0 (off := 0) rfl T.u34 rfl) rfl ?_)
    | (refine WL.val (OV.fieldAddr (off := 0) rfl T.u34 rfl) rfl ?_)
    refine WL.go (b := true) rfl rfl rfl ?_
    first
    | (refine WL.val (OV.fieldAddr0 (off := 0) rfl T.u31 rfl) rfl ?_)
    | (refine WL.val (OV.fieldAddr (off := 0) rfl T.u31 rfl) rfl ?_)
    refine WL.go (b := true) rfl rfl rfl ?_
    refine WL.val (OV.load1 (v := .int .i64 x.b.kind) rfl T.u3 rfl (fun _ hw => (cell_at (hw.it _ (.head _)) (o := 0) rfl).1)) rfl ?_
    refine WL.go (b := true) rfl rfl rfl ?_
    refine WL.val ((OV.eql rfl rfl).cast (u := .bool false) (by rw [decide_eq_false (fun hk => hvk ⟨by simpa using g36, hk⟩)])) rfl ?_
    refine WL.go (b := false) rfl rfl rfl ?_
    refine WL.val (OV.pickT rfl rfl) rfl ?_
    refine WL.val (OV.pickF rfl rfl) rfl ?_
    refine WL.nil ?_
    refine WX.next ?_
    refine WC.condF (show _ = some (Value.bool false) from by rfl) ?_
    refine WC.skip ?_
    refine WX.next ?_
    refine WC.seq ?_
    refine WC.region ?_
    refine WL.makeMap (iV) rfl ?_
    intro m43
    refine WL.val (OV.assign rfl) rfl ?_
    refine WL.nil ?_
    refine WX.next ?_
    refine WC.seq ?_
    refine WC.seq ?_
    refine WC.region ?_
    refine WL.val (OV.move rfl) rfl ?_
    first
    | (refine WL.val (OV.lenSlice rfl T.u48) rfl ?_)
    | (refine WL.val (OV.lenStr rfl T.u48) rfl ?_)
    refine WL.val (OV.move rfl) rfl ?_
    refine WL.nil ?_
    refine WX.next ?_
    refine WC.block ?_
    refine WC.loop1 (fun (i : Nat) => [(3, .pointer (some ⟨b3, 0, none⟩)), (4, .pointer (some ⟨b4, 0, none⟩)), (8, .map (some m43)), (45, .int .i64 0), (46, .int .i64 0)])
        (fun i w' => Sat w (fun _ => False) (fun b => b < w.heap.size) w (own m43 (mapK iV []) :: own b4 (.cells (atC x a2 c2).toArray 34 (0, 0)) :: own b3 (.cells (atC p a1 c1).toArray 34 (0, 0)) :: []) w') (fun _ => 0) 0 ⟨rfl, rfl, rfl, rfl, rfl, trivial⟩ (fun w' hw => hw) ?_
    intro i0
    refine WC.seq ?_
    refine WC.region ?_
    refine WL.val (OV.lss rfl rfl) rfl ?_
    refine WL.nil ?_
    refine WX.next ?_
    refine WC.seq ?_
    refine WC.condF (show _ = some (Value.bool false) from by rfl) ?_
    refine WC.exit ?_
    refine WX.then_exit ?_
    refine WX.then_exit ?_
    refine WX.block_hit ?_
    refine WX.next ?_
    refine WC.seq ?_
    refine WC.region ?_
    refine WL.val (OV.loadN (cs := atC x a2 c2) rfl T.u34 rfl T.z34 (fun _ hw j v hj => by rw [add_off, Nat.zero_add]; exact own_cells hw (.tail _ (.head _)) j v hj)) rfl ?_
    refine WL.callTA (ι := Nat × Nat) (vs := [atV x a2 c2]) (vv := fun q => .slice (some ⟨q.1, 0, none⟩) (plc x).length q.2) (pp := fun _ => True) [] (AA := fun q => [rowT (some ⟨q.1, 0, none⟩) q.2 (plc x)]) rfl (by kernel_rfl) rfl rfl (fun w' hw' _ => (places_calls x a2 c2 (by omega) w' (hr2.keeps hw'.keeps)).mono (fun en w'' ⟨b, lc, q1, q2⟩ => ⟨(b, lc), q1, trivial, q2⟩)) ?_
    rintro ⟨qx, xc⟩ _
    refine WL.val (OV.assign rfl) rfl ?_
    refine WL.nil ?_
    refine WX.next ?_
    refine WC.seq ?_
    refine WC.seq ?_
    refine WC.region ?_
    refine WL.val (OV.loadN (cs := atC p a1 c1) rfl T.u34 rfl T.z34 (fun _ hw j v hj => by rw [add_off, Nat.zero_add]; exact own_cells hw (.tail _ (.tail _ (.tail _ (.head _)))) j v hj)) rfl ?_
    refine WL.callTA (ι := Nat × Nat) (vs := [atV p a1 c1]) (vv := fun q => .slice (some ⟨q.1, 0, none⟩) (plc p).length q.2) (pp := fun _ => True) [] (AA := fun q => [rowT (some ⟨q.1, 0, none⟩) q.2 (plc p)]) rfl (by kernel_rfl) rfl rfl (fun w' hw' _ => (places_calls p a1 c1 (by omega) w' (hr1.keeps hw'.keeps)).mono (fun en w'' ⟨b, lc, q1, q2⟩ => ⟨(b, lc), q1, trivial, q2⟩)) ?_
    rintro ⟨qp, pc⟩ _
    first
    | (refine WL.val (OV.lenSlice rfl T.u32) rfl ?_)
    | (refine WL.val (OV.lenStr rfl T.u32) rfl ?_)
    refine WL.val (OV.move rfl) rfl ?_
    refine WL.nil ?_
    refine WX.next ?_
    refine WC.block ?_
    have hnp : (plc p).length = p.args.length + 1 := rfl
    have hnx : (plc x).length = x.args.length + 1 := rfl
    refine WC.focus (ow' := own m43 (mapK iV (kvT [])) :: rowT (some ⟨qp, 0, none⟩) pc (plc p) :: rowT (some ⟨qx, 0, none⟩) xc (plc x) :: own b4 (.cells (atC x a2 c2).toArray 34 (0, 0)) :: own b3 (.cells (atC p a1 c1).toArray 34 (0, 0)) :: []) (List.Perm.trans (List.Perm.of_eq rfl) (perm_pick [_, _, _, _, _] [2, 0, 1, 3, 4] (by decide) rfl)) ?_
    refine WC.loop2 (fun (i : Nat) (l : List (Int × Tm)) => [(8, .map (some m43)), (13, .slice (some ⟨qx, 0, none⟩) (plc x).length xc), (68, .slice (some ⟨qp, 0, none⟩) (plc p).length pc), (69, .int .i64 ((plc p).length : Int)), (70, .int .i64 (i : Int))])
        (fun i l w' => (i ≤ (plc p).length ∧ l.length ≤ i ∧ matchGo [] (plc p) (plc x) = matchGo l ((plc p).drop i) ((plc x).drop i)) ∧ Sat w (fun _ => False) (fun b => b < w.heap.size) w (own m43 (mapK iV (kvT l)) :: rowT (some ⟨qp, 0, none⟩) pc (plc p) :: rowT (some ⟨qx, 0, none⟩) xc (plc x) :: own b4 (.cells (atC x a2 c2).toArray 34 (0, 0)) :: own b3 (.cells (atC p a1 c1).toArray 34 (0, 0)) :: []) w')
        (fun i _ => (plc p).length - i) 0 [] ⟨rfl, rfl, rfl, rfl, rfl, trivial⟩ (fun w' hw => ⟨⟨by omega, Nat.le_refl _, rfl⟩, hw⟩) ?_
    intro i l
    refine WC.pure (fun hi => ?_)
    obtain ⟨hi, hll, hgo⟩ := hi
    refine WC.seq ?_
    refine WC.region ?_
    refine WL.val (OV.lss rfl rfl) rfl ?_
    refine WL.nil ?_
    refine WX.next ?_
    refine WC.seq ?_
    refine WC.cond rfl (fun c71 => ?_) (fun c71 => ?_)
    · try simp only [decide_eq_true_eq, decide_eq_false_iff_not, Bool.not_eq_true', Bool.not_eq_false'] at c71
      refine WC.skip ?_
      refine WX.next ?_
      refine WC.seq ?_
      refine WC.block ?_
      refine WC.seq ?_
      refine WC.region ?_
      refine WL.val (OV.move rfl) rfl ?_
      obtain ⟨t, htp⟩ : ∃ t, (plc p)[i]? = some t := ⟨_, List.getElem?_eq_getElem (by omega)⟩
      obtain ⟨u, htx⟩ : ∃ u, (plc x)[i]? = some u := ⟨_, List.getElem?_eq_getElem (by omega)⟩
      have hstep := go_drop (m := l) htp htx
      refine WL.val ((OV.indexSlice rfl rfl T.u32 T.z31 (by omega)).cast (u := .pointer (some ((⟨qp, 0, none⟩ : Addr).add (i * 3)))) (by rw [Int.toNat_natCast])) rfl ?_
      refine WL.val (OV.loadN (cs := tmC t) rfl T.u31 rfl T.z31 (fun _ hw j v hj => by have hj3 : j < 3 := (List.getElem?_eq_some_iff.1 hj).1; have h := row_cellsφE rfl (hw.it (rowT (some ⟨qp, 0, none⟩) pc (plc p)) (.tail _ (.head _))) (i * 3 + j) v (by rw [flat_get tmC_len _ i j t htp (by omega)]; exact hj); rwa [add_add] at h)) rfl ?_
      refine WL.alloc T.zr31 rfl ?_
      intro b15
      refine WL.val (OV.assign rfl) rfl ?_
      refine WL.storeAll (vs := tmC t) rfl rfl rfl T.z31 rfl ?_
      refine WL.nil ?_
      refine WX.next ?_
      refine WC.seq ?_
      refine WC.seq ?_
      refine WC.region ?_
      refine WL.val (OV.loadN (cs := tmC t) rfl T.u31 rfl T.z31 (fun _ hw j v hj => by rw [add_off, Nat.zero_add]; exact own_cells hw (.head _) j v hj)) rfl ?_
      refine WL.call0 (v := .bool (varB t)) (by kernel_rfl) rfl rfl (fun w' hw' => var_calls t w') ?_
      refine WL.val (OV.not rfl) rfl ?_
      refine WL.nil ?_
      refine WX.next ?_
      refine WC.cond rfl (fun c77 => ?_) (fun c77 => ?_)
      · try simp only [decide_eq_true_eq, decide_eq_false_iff_not, Bool.not_eq_true', Bool.not_eq_false'] at c77
        refine WC.seq ?_
        refine WC.seq ?_
        refine WC.drawn (fun w' => w'.heap[b15]? = some (.cells (tmC t).toArray 31 (0, 0)) ∧ (rowT (some ⟨qx, 0, none⟩) xc (plc x)).φ w') [] (by kernel_rfl) (by kernel_rfl) (m := 6) rfl ?_
        refine WH.take 0 rfl (by kernel_rfl) (by kernel_rfl) (by kernel_rfl) (by kernel_rfl) (fun _ hw => ⟨hw.it (own b15 (.cells (tmC t).toArray 31 (0, 0))) (by simp), hw.it (rowT (some ⟨qx, 0, none⟩) xc (plc x)) (by simp)⟩) (OV.loadN (cs := tmC t) rfl T.u31 rfl T.z31 (fun _ hw j v hj => by rw [add_off]; exact heap_part hw.1 (o := 0) (cs' := tmC t) rfl j v hj)) rfl (listed' := [true, false, false, false, false, false]) rfl ?_
        refine WH.free 1 rfl (by kernel_rfl) (by kernel_rfl) (by kernel_rfl) rfl (fun _ => (fun _ hw => ⟨hw.it (own b15 (.cells (tmC t).toArray 31 (0, 0))) (by simp), hw.it (rowT (some ⟨qx, 0, none⟩) xc (plc x)) (by simp)⟩)) (OV.move rfl) rfl (listed' := [true, true, false, false, false, false]) rfl ?_
        refine WH.free 2 rfl (by kernel_rfl) (by kernel_rfl) (by kernel_rfl) rfl (fun _ => (fun _ hw => ⟨hw.it (own b15 (.cells (tmC t).toArray 31 (0, 0))) (by simp), hw.it (rowT (some ⟨qx, 0, none⟩) xc (plc x)) (by simp)⟩)) (OV.move rfl) rfl (listed' := [true, true, true, false, false, false]) rfl ?_
        refine WH.free 3 rfl (by kernel_rfl) (by kernel_rfl) (by kernel_rfl) rfl (fun _ => (fun _ hw => ⟨hw.it (own b15 (.cells (tmC t).toArray 31 (0, 0))) (by simp), hw.it (rowT (some ⟨qx, 0, none⟩) xc (plc x)) (by simp)⟩)) ((OV.indexSlice rfl rfl T.u32 T.z31 (by omega)).cast (u := .pointer (some ((⟨qx, 0, none⟩ : Addr).add (i * 3)))) (by rw [Int.toNat_natCast])) rfl (listed' := [true, true, true, true, false, false]) rfl ?_
        refine WH.take 4 rfl (by kernel_rfl) (by kernel_rfl) (by kernel_rfl) (by kernel_rfl) (fun _ hw => ⟨hw.it (own b15 (.cells (tmC t).toArray 31 (0, 0))) (by simp), hw.it (rowT (some ⟨qx, 0, none⟩) xc (plc x)) (by simp)⟩) (OV.loadN (cs := tmC u) rfl T.u31 rfl T.z31 (fun _ hw j v hj => by have hj3 : j < 3 := (List.getElem?_eq_some_iff.1 hj).1; have h := row_cellsφE rfl hw.2 (i * 3 + j) v (by rw [flat_get tmC_len _ i j u htx (by omega)]; exact hj); rwa [add_add] at h)) rfl (listed' := [true, true, true, true, true, false]) rfl ?_
        refine WH.free 5 rfl (by kernel_rfl) (by kernel_rfl) (by kernel_rfl) rfl (fun _ => (fun _ hw => ⟨hw.it (own b15 (.cells (tmC t).toArray 31 (0, 0))) (by simp), hw.it (rowT (some ⟨qx, 0, none⟩) xc (plc x)) (by simp)⟩)) (OV.neqTm (a := t) (b := u) rfl rfl) rfl (listed' := [true, true, true, true, true, true]) rfl ?_
        refine WH.done (by kernel_rfl) ?_
        refine WX.next ?_
        refine WC.cond rfl (fun c83 => ?_) (fun c83 => ?_)
        · try simp only [decide_eq_true_eq, decide_eq_false_iff_not, Bool.not_eq_true', Bool.not_eq_false'] at c83
          refine WC.seq ?_
          refine WC.region ?_
          refine WL.val (OV.assign rfl) rfl ?_
          refine WL.val (OV.assign rfl) rfl ?_
          refine WL.nil ?_
          refine WX.next ?_
          refine WC.ret ?_
          refine WX.then_ret ?_
          refine WX.then_ret ?_
          refine WX.block_ret ?_
          refine WX.then_ret ?_
          refine WX.then_ret ?_
          refine WX.block_ret ?_
          refine WX.then_ret ?_
          have hv : varB t = false := by simpa using c77
          have hu : ¬ t = u := by simpa using c83
          exact WX.ret2 rfl rfl rfl rfl (fun w' hw => ⟨_, by rw [matchB, hgo, hstep, if_pos hv, if_neg hu, Bool.and_false], hw.fr⟩)
        · try simp only [decide_eq_true_eq, decide_eq_false_iff_not, Bool.not_eq_true', Bool.not_eq_false'] at c83
          refine WC.skip ?_
          refine WX.next ?_
          refine WC.exit ?_
          refine WX.then_exit ?_
          refine WX.block_hit ?_
          refine WX.next ?_
          refine WC.region ?_
          refine WL.val (OV.addN (j := 1) rfl rfl (by omega)) rfl ?_
          refine WL.val (OV.move rfl) rfl ?_
          refine WL.nil ?_
          have hv : varB t = false := by simpa using c77
          have hu : t = u := by simpa using c83
          exact WX.round2 (i + 1) l ⟨rfl, rfl, rfl, rfl, rfl, trivial⟩ (fun w' hw => ⟨⟨by omega, by omega, by rw [hgo, hstep, if_pos hv, if_pos hu]⟩, hw.drop⟩) (by show (plc p).length - (i + 1) < (plc p).length - i; omega)
      · try simp only [decide_eq_true_eq, decide_eq_false_iff_not, Bool.not_eq_true', Bool.not_eq_false'] at c77
        refine WC.skip ?_
        refine WX.next ?_
        refine WC.seq ?_
        refine WC.seq ?_
        refine WC.region ?_
        refine WL.val (OV.move rfl) rfl ?_
        first
        | (refine WL.val (OV.fieldAddr0 (off := 1) rfl T.u31 rfl) rfl ?_)
        | (refine WL.val (OV.fieldAddr (off := 1) rfl T.u31 rfl) rfl ?_)
        refine WL.val (OV.load1 (v := .int .i64 t.n) rfl T.u3 rfl (fun _ hw => (cell_at (hw.it _ (.head _)) (o := 1) rfl).1)) rfl ?_
        refine WL.val ((OV.lookupOk intKey T.u101 (show Program.zv Tryz.prog 31 = some (tmV T0) by kernel_rfl) rfl rfl (fun _ hw => hw.it (own m43 (mapK iV (kvT l))) (by simp))).cast (u := .tuple #[tmV ((gotT l t.n).getD T0), .bool (gotT l t.n).isSome]) (by rw [got_kvT]; cases gotT l t.n <;> rfl)) rfl ?_
        refine WL.val (OV.move rfl) rfl ?_
        refine WL.val (OV.extract rfl rfl) rfl ?_
        refine WL.val (OV.extract rfl rfl) rfl ?_
        refine WL.alloc T.zr31 rfl ?_
        intro b16
        refine WL.storeAll (vs := tmC ((gotT l t.n).getD T0)) rfl rfl rfl T.z31 rfl ?_
        refine WL.val (OV.assign rfl) rfl ?_
        refine WL.nil ?_
        refine WX.next ?_
        refine WC.seq ?_
        refine WC.drawn (fun w' => w'.heap[b16]? = some (.cells (tmC ((gotT l t.n).getD T0)).toArray 31 (0, 0)) ∧ (rowT (some ⟨qx, 0, none⟩) xc (plc x)).φ w') [] (by kernel_rfl) (by kernel_rfl) (m := 9) rfl ?_
        refine WH.free 0 rfl (by kernel_rfl) (by kernel_rfl) (by kernel_rfl) rfl (fun _ => (fun _ hw => ⟨hw.it (own b16 (.cells (tmC ((gotT l t.n).getD T0)).toArray 31 (0, 0))) (by simp), hw.it (rowT (some ⟨qx, 0, none⟩) xc (plc x)) (by simp)⟩)) (OV.move rfl) rfl (listed' := [true, false, false, false, false, false, false, false, false]) rfl ?_
        refine WH.free 1 rfl (by kernel_rfl) (by kernel_rfl) (by kernel_rfl) rfl (fun _ => (fun _ hw => ⟨hw.it (own b16 (.cells (tmC ((gotT l t.n).getD T0)).toArray 31 (0, 0))) (by simp), hw.it (rowT (some ⟨qx, 0, none⟩) xc (plc x)) (by simp)⟩)) (OV.move rfl) rfl (listed' := [true, true, false, false, false, false, false, false, false]) rfl ?_
        refine WH.split (t := 92) rfl (fun g92 => ?_) (fun g92 => ?_)
        · try simp only [decide_eq_true_eq, decide_eq_false_iff_not, Bool.not_eq_true', Bool.not_eq_false'] at g92
          refine WH.takeG 2 (b := true) rfl (by kernel_rfl) (by kernel_rfl) (by kernel_rfl) (by kernel_rfl) (fun _ hw => ⟨hw.it (own b16 (.cells (tmC ((gotT l t.n).getD T0)).toArray 31 (0, 0))) (by simp), hw.it (rowT (some ⟨qx, 0, none⟩) xc (plc x)) (by simp)⟩) rfl rfl rfl (OV.loadN (cs := tmC ((gotT l t.n).getD T0)) rfl T.u31 rfl T.z31 (fun _ hw j v hj => by rw [add_off]; exact heap_part hw.1 (o := 0) (cs' := tmC ((gotT l t.n).getD T0)) rfl j v hj)) rfl (listed' := [true, true, true, false, false, false, false, false, false]) rfl ?_
          refine WH.freeG 3 (b := true) rfl (by kernel_rfl) (by kernel_rfl) (by kernel_rfl) rfl (fun _ => (fun _ hw => ⟨hw.it (own b16 (.cells (tmC ((gotT l t.n).getD T0)).toArray 31 (0, 0))) (by simp), hw.it (rowT (some ⟨qx, 0, none⟩) xc (plc x)) (by simp)⟩)) rfl rfl rfl (OV.move rfl) rfl (listed' := [true, true, true, true, false, false, false, false, false]) rfl ?_
          refine WH.freeG 4 (b := true) rfl (by kernel_rfl) (by kernel_rfl) (by kernel_rfl) rfl (fun _ => (fun _ hw => ⟨hw.it (own b16 (.cells (tmC ((gotT l t.n).getD T0)).toArray 31 (0, 0))) (by simp), hw.it (rowT (some ⟨qx, 0, none⟩) xc (plc x)) (by simp)⟩)) rfl rfl rfl (OV.move rfl) rfl (listed' := [true, true, true, true, true, false, false, false, false]) rfl ?_
          refine WH.freeG 5 (b := true) rfl (by kernel_rfl) (by kernel_rfl) (by kernel_rfl) rfl (fun _ => (fun _ hw => ⟨hw.it (own b16 (.cells (tmC ((gotT l t.n).getD T0)).toArray 31 (0, 0))) (by simp), hw.it (rowT (some ⟨qx, 0, none⟩) xc (plc x)) (by simp)⟩)) rfl rfl rfl ((OV.indexSlice rfl rfl T.u32 T.z31 (by omega)).cast (u := .pointer (some ((⟨qx, 0, none⟩ : Addr).add (i * 3)))) (by rw [Int.toNat_natCast])) rfl (listed' := [true, true, true, true, true, true, false, false, false]) rfl ?_
          refine WH.takeG 6 (b := true) rfl (by kernel_rfl) (by kernel_rfl) (by kernel_rfl) (by kernel_rfl) (fun _ hw => ⟨hw.it (own b16 (.cells (tmC ((gotT l t.n).getD T0)).toArray 31 (0, 0))) (by simp), hw.it (rowT (some ⟨qx, 0, none⟩) xc (plc x)) (by simp)⟩) rfl rfl rfl (OV.loadN (cs := tmC u) rfl T.u31 rfl T.z31 (fun _ hw j v hj => by have hj3 : j < 3 := (List.getElem?_eq_some_iff.1 hj).1; have h := row_cellsφE rfl hw.2 (i * 3 + j) v (by rw [flat_get tmC_len _ i j u htx (by omega)]; exact hj); rwa [add_add] at h)) rfl (listed' := [true, true, true, true, true, true, true, false, false]) rfl ?_
          refine WH.freeG 7 (b := true) rfl (by kernel_rfl) (by kernel_rfl) (by kernel_rfl) rfl (fun _ => (fun _ hw => ⟨hw.it (own b16 (.cells (tmC ((gotT l t.n).getD T0)).toArray 31 (0, 0))) (by simp), hw.it (rowT (some ⟨qx, 0, none⟩) xc (plc x)) (by simp)⟩)) rfl rfl rfl (OV.neqTm (a := (gotT l t.n).getD T0) (b := u) rfl rfl) rfl (listed' := [true, true, true, true, true, true, true, true, false]) rfl ?_
          refine WH.free 8 rfl (by kernel_rfl) (by kernel_rfl) (by kernel_rfl) rfl (fun _ => (fun _ hw => ⟨hw.it (own b16 (.cells (tmC ((gotT l t.n).getD T0)).toArray 31 (0, 0))) (by simp), hw.it (rowT (some ⟨qx, 0, none⟩) xc (plc x)) (by simp)⟩)) (OV.pickT rfl rfl) rfl (listed' := [true, true, true, true, true, true, true, true, true]) rfl ?_
          refine WH.done (by kernel_rfl) ?_
          refine WX.next ?_
          refine WC.cond rfl (fun c99 => ?_) (fun c99 => ?_)
          · try simp only [decide_eq_true_eq, decide_eq_false_iff_not, Bool.not_eq_true', Bool.not_eq_false'] at c99
            refine WC.seq ?_
            refine WC.region ?_
            refine WL.val (OV.assign rfl) rfl ?_
            refine WL.val (OV.assign rfl) rfl ?_
            refine WL.nil ?_
            refine WX.next ?_
            refine WC.ret ?_
            refine WX.then_ret ?_
            refine WX.block_ret ?_
            refine WX.then_ret ?_
            refine WX.then_ret ?_
            refine WX.block_ret ?_
            refine WX.then_ret ?_
            have hv : ¬ varB t = false := by simpa using c77
            have hsm : (gotT l t.n).isSome = true ∧ (gotT l t.n).getD T0 ≠ u := ⟨by simpa using g92, by simpa using c99⟩
            exact WX.ret2 rfl rfl rfl rfl (fun w' hw => ⟨_, by rw [matchB, hgo, hstep, if_neg hv, if_pos hsm, Bool.and_false], hw.fr⟩)
          · try simp only [decide_eq_true_eq, decide_eq_false_iff_not, Bool.not_eq_true', Bool.not_eq_false'] at c99
            refine WC.skip ?_
            refine WX.next ?_
            refine WC.drawn (fun w' => w'.heap[b15]? = some (.cells (tmC t).toArray 31 (0, 0)) ∧ (rowT (some ⟨qx, 0, none⟩) xc (plc x)).φ w') [] (by kernel_rfl) (by kernel_rfl) (m := 8) rfl ?_
            refine WH.free 0 rfl (by kernel_rfl) (by kernel_rfl) (by kernel_rfl) rfl (fun _ => (fun _ hw => ⟨hw.it (own b15 (.cells (tmC t).toArray 31 (0, 0))) (by simp), hw.it (rowT (some ⟨qx, 0, none⟩) xc (plc x)) (by simp)⟩)) (OV.move rfl) rfl (listed' := [true, false, false, false, false, false, false, false]) rfl ?_
            first
            | (refine WH.free 1 rfl (by kernel_rfl) (by kernel_rfl) (by kernel_rfl) rfl (fun _ => (fun _ hw => ⟨hw.it (own b15 (.cells (tmC t).toArray 31 (0, 0))) (by simp), hw.it (rowT (some ⟨qx, 0, none⟩) xc (plc x)) (by simp)⟩)) (OV.fieldAddr0 (off := 1) rfl T.u31 rfl) rfl (listed' := [true, true, false, false, false, false, false, false]) rfl ?_)
            | (refine WH.free 1 rfl (by kernel_rfl) (by kernel_rfl) (by kernel_rfl) rfl (fun _ => (fun _ hw => ⟨hw.it (own b15 (.cells (tmC t).toArray 31 (0, 0))) (by simp), hw.it (rowT (some ⟨qx, 0, none⟩) xc (plc x)) (by simp)⟩)) (OV.fieldAddr (off := 1) rfl T.u31 rfl) rfl (listed' := [true, true, false, false, false, false, false, false]) rfl ?_)
            refine WH.take 2 rfl (by kernel_rfl) (by kernel_rfl) (by kernel_rfl) (by kernel_rfl) (fun _ hw => ⟨hw.it (own b15 (.cells (tmC t).toArray 31 (0, 0))) (by simp), hw.it (rowT (some ⟨qx, 0, none⟩) xc (plc x)) (by simp)⟩) (OV.load1 (v := .int .i64 t.n) rfl T.u3 rfl (fun _ hw => (cell_at hw.1 (o := 1) rfl).1)) rfl (listed' := [true, true, true, false, false, false, false, false]) rfl ?_
            refine WH.free 3 rfl (by kernel_rfl) (by kernel_rfl) (by kernel_rfl) rfl (fun _ => (fun _ hw => ⟨hw.it (own b15 (.cells (tmC t).toArray 31 (0, 0))) (by simp), hw.it (rowT (some ⟨qx, 0, none⟩) xc (plc x)) (by simp)⟩)) (OV.move rfl) rfl (listed' := [true, true, true, true, false, false, false, false]) rfl ?_
            refine WH.free 4 rfl (by kernel_rfl) (by kernel_rfl) (by kernel_rfl) rfl (fun _ => (fun _ hw => ⟨hw.it (own b15 (.cells (tmC t).toArray 31 (0, 0))) (by simp), hw.it (rowT (some ⟨qx, 0, none⟩) xc (plc x)) (by simp)⟩)) (OV.move rfl) rfl (listed' := [true, true, true, true, true, false, false, false]) rfl ?_
            refine WH.free 5 rfl (by kernel_rfl) (by kernel_rfl) (by kernel_rfl) rfl (fun _ => (fun _ hw => ⟨hw.it (own b15 (.cells (tmC t).toArray 31 (0, 0))) (by simp), hw.it (rowT (some ⟨qx, 0, none⟩) xc (plc x)) (by simp)⟩)) ((OV.indexSlice rfl rfl T.u32 T.z31 (by omega)).cast (u := .pointer (some ((⟨qx, 0, none⟩ : Addr).add (i * 3)))) (by rw [Int.toNat_natCast])) rfl (listed' := [true, true, true, true, true, true, false, false]) rfl ?_
            refine WH.take 6 rfl (by kernel_rfl) (by kernel_rfl) (by kernel_rfl) (by kernel_rfl) (fun _ hw => ⟨hw.it (own b15 (.cells (tmC t).toArray 31 (0, 0))) (by simp), hw.it (rowT (some ⟨qx, 0, none⟩) xc (plc x)) (by simp)⟩) (OV.loadN (cs := tmC u) rfl T.u31 rfl T.z31 (fun _ hw j v hj => by have hj3 : j < 3 := (List.getElem?_eq_some_iff.1 hj).1; have h := row_cellsφE rfl hw.2 (i * 3 + j) v (by rw [flat_get tmC_len _ i j u htx (by omega)]; exact hj); rwa [add_add] at h)) rfl (listed' := [true, true, true, true, true, true, true, false]) rfl ?_
            refine WH.only 7 rfl (by kernel_rfl) (listed' := [true, true, true, true, true, true, true, true]) rfl (fl' := false) rfl ?_
            refine WL.focus perm2 (WL.mapUpdate intKey T.u101 rfl rfl rfl ?_)
            refine WL.nil ?_
            refine WX.contD (by kernel_rfl) (fun _ => (fun _ hw => ⟨hw.it (own b15 (.cells (tmC t).toArray 31 (0, 0))) (by simp), hw.it (rowT (some ⟨qx, 0, none⟩) xc (plc x)) (by simp)⟩)) ?_
            refine WH.done (by kernel_rfl) ?_
            refine WX.block_normal ?_
            refine WX.next ?_
            refine WC.region ?_
            refine WL.val (OV.addN (j := 1) rfl rfl (by omega)) rfl ?_
            refine WL.val (OV.move rfl) rfl ?_
            refine WL.nil ?_
            have hv : ¬ varB t = false := by simpa using c77
            have hsm : ¬ ((gotT l t.n).isSome = true ∧ (gotT l t.n).getD T0 ≠ u) := fun h => h.2 (by simpa using c99)
            refine WX.round2 (i + 1) (upsT l t.n u) ⟨rfl, rfl, rfl, rfl, rfl, trivial⟩ (fun w' hw => ⟨⟨by omega, by have := upsT_len t.n u l; omega, by rw [hgo, hstep, if_neg hv, if_neg hsm]⟩, ?_⟩) (by show (plc p).length - (i + 1) < (plc p).length - i; omega)
            rw [ups_kvT] at hw
            exact hw.pick [[own m43 (mapK iV (kvT (upsT l t.n u)))], [own b16 (.cells (tmC ((gotT l t.n).getD T0)).toArray 31 (0, 0))], [own b15 (.cells (tmC t).toArray 31 (0, 0))], [rowT (some ⟨qp, 0, none⟩) pc (plc p)], [rowT (some ⟨qx, 0, none⟩) xc (plc x)], [own b4 (.cells (atC x a2 c2).toArray 34 (0, 0))], [own b3 (.cells (atC p a1 c1).toArray 34 (0, 0))]] [0, 3, 4, 5, 6] 7 rfl (by decide) (by decide)
        · try simp only [decide_eq_true_eq, decide_eq_false_iff_not, Bool.not_eq_true', Bool.not_eq_false'] at g92
          refine WH.skip 2 (b := false) rfl (by kernel_rfl) (by kernel_rfl) (by kernel_rfl) rfl (fun _ => (fun _ hw => ⟨hw.it (own b16 (.cells (tmC ((gotT l t.n).getD T0)).toArray 31 (0, 0))) (by simp), hw.it (rowT (some ⟨qx, 0, none⟩) xc (plc x)) (by simp)⟩)) rfl rfl rfl rfl (listed' := [true, true, true, false, false, false, false, false, false]) rfl ?_
          refine WH.skip 3 (b := false) rfl (by kernel_rfl) (by kernel_rfl) (by kernel_rfl) rfl (fun _ => (fun _ hw => ⟨hw.it (own b16 (.cells (tmC ((gotT l t.n).getD T0)).toArray 31 (0, 0))) (by simp), hw.it (rowT (some ⟨qx, 0, none⟩) xc (plc x)) (by simp)⟩)) rfl rfl rfl rfl (listed' := [true, true, true, true, false, false, false, false, false]) rfl ?_
          refine WH.skip 4 (b := false) rfl (by kernel_rfl) (by kernel_rfl) (by kernel_rfl) rfl (fun _ => (fun _ hw => ⟨hw.it (own b16 (.cells (tmC ((gotT l t.n).getD T0)).toArray 31 (0, 0))) (by simp), hw.it (rowT (some ⟨qx, 0, none⟩) xc (plc x)) (by simp)⟩)) rfl rfl rfl rfl (listed' := [true, true, true, true, true, false, false, false, false]) rfl ?_
          refine WH.skip 5 (b := false) rfl (by kernel_rfl) (by kernel_rfl) (by kernel_rfl) rfl (fun _ => (fun _ hw => ⟨hw.it (own b16 (.cells (tmC ((gotT l t.n).getD T0)).toArray 31 (0, 0))) (by simp), hw.it (rowT (some ⟨qx, 0, none⟩) xc (plc x)) (by simp)⟩)) rfl rfl rfl rfl (listed' := [true, true, true, true, true, true, false, false, false]) rfl ?_
          refine WH.skip 6 (b := false) rfl (by kernel_rfl) (by kernel_rfl) (by kernel_rfl) rfl (fun _ => (fun _ hw => ⟨hw.it (own b16 (.cells (tmC ((gotT l t.n).getD T0)).toArray 31 (0, 0))) (by simp), hw.it (rowT (some ⟨qx, 0, none⟩) xc (plc x)) (by simp)⟩)) rfl rfl rfl rfl (listed' := [true, true, true, true, true, true, true, false, false]) rfl ?_
          refine WH.skip 7 (b := false) rfl (by kernel_rfl) (by kernel_rfl) (by kernel_rfl) rfl (fun _ => (fun _ hw => ⟨hw.it (own b16 (.cells (tmC ((gotT l t.n).getD T0)).toArray 31 (0, 0))) (by simp), hw.it (rowT (some ⟨qx, 0, none⟩) xc (plc x)) (by simp)⟩)) rfl rfl rfl rfl (listed' := [true, true, true, true, true, true, true, true, false]) rfl ?_
          refine WH.free 8 rfl (by kernel_rfl) (by kernel_rfl) (by kernel_rfl) rfl (fun _ => (fun _ hw => ⟨hw.it (own b16 (.cells (tmC ((gotT l t.n).getD T0)).toArray 31 (0, 0))) (by simp), hw.it (rowT (some ⟨qx, 0, none⟩) xc (plc x)) (by simp)⟩)) (OV.pickF rfl rfl) rfl (listed' := [true, true, true, true, true, true, true, true, true]) rfl ?_
          refine WH.done (by kernel_rfl) ?_
          refine WX.next ?_
          refine WC.condF (show _ = some (Value.bool false) from by rfl) ?_
          refine WC.skip ?_
          refine WX.next ?_
          refine WC.drawn (fun w' => w'.heap[b15]? = some (.cells (tmC t).toArray 31 (0, 0)) ∧ (rowT (some ⟨qx, 0, none⟩) xc (plc x)).φ w') [] (by kernel_rfl) (by kernel_rfl) (m := 8) rfl ?_
          refine WH.free 0 rfl (by kernel_rfl) (by kernel_rfl) (by kernel_rfl) rfl (fun _ => (fun _ hw => ⟨hw.it (own b15 (.cells (tmC t).toArray 31 (0, 0))) (by simp), hw.it (rowT (some ⟨qx, 0, none⟩) xc (plc x)) (by simp)⟩)) (OV.move rfl) rfl (listed' := [true, false, false, false, false, false, false, false]) rfl ?_
          first
          | (refine WH.free 1 rfl (by kernel_rfl) (by kernel_rfl) (by kernel_rfl) rfl (fun _ => (fun _ hw => ⟨hw.it (own b15 (.cells (tmC t).toArray 31 (0, 0))) (by simp), hw.it (rowT (some ⟨qx, 0, none⟩) xc (plc x)) (by simp)⟩)) (OV.fieldAddr0 (off := 1) rfl T.u31 rfl) rfl (listed' := [true, true, false, false, false, false, false, false]) rfl ?_)
          | (refine WH.free 1 rfl (by kernel_rfl) (by kernel_rfl) (by kernel_rfl) rfl (fun _ => (fun _ hw => ⟨hw.it (own b15 (.cells (tmC t).toArray 31 (0, 0))) (by simp), hw.it (rowT (some ⟨qx, 0, none⟩) xc (plc x)) (by simp)⟩)) (OV.fieldAddr (off := 1) rfl T.u31 rfl) rfl (listed' := [true, true, false, false, false, false, false, false]) rfl ?_)
          refine WH.take 2 rfl (by kernel_rfl) (by kernel_rfl) (by kernel_rfl) (by kernel_rfl) (fun _ hw => ⟨hw.it (own b15 (.cells (tmC t).toArray 31 (0, 0))) (by simp), hw.it (rowT (some ⟨qx, 0, none⟩) xc (plc x)) (by simp)⟩) (OV.load1 (v := .int .i64 t.n) rfl T.u3 rfl (fun _ hw => (cell_at hw.1 (o := 1) rfl).1)) rfl (listed' := [true, true, true, false, false, false, false, false]) rfl ?_
          refine WH.free 3 rfl (by kernel_rfl) (by kernel_rfl) (by kernel_rfl) rfl (fun _ => (fun _ hw => ⟨hw.it (own b15 (.cells (tmC t).toArray 31 (0, 0))) (by simp), hw.it (rowT (some ⟨qx, 0, none⟩) xc (plc x)) (by simp)⟩)) (OV.move rfl) rfl (listed' := [true, true, true, true, false, false, false, false]) rfl ?_
          refine WH.free 4 rfl (by kernel_rfl) (by kernel_rfl) (by kernel_rfl) rfl (fun _ => (fun _ hw => ⟨hw.it (own b15 (.cells (tmC t).toArray 31 (0, 0))) (by simp), hw.it (rowT (some ⟨qx, 0, none⟩) xc (plc x)) (by simp)⟩)) (OV.move rfl) rfl (listed' := [true, true, true, true, true, false, false, false]) rfl ?_
          refine WH.free 5 rfl (by kernel_rfl) (by kernel_rfl) (by kernel_rfl) rfl (fun _ => (fun _ hw => ⟨hw.it (own b15 (.cells (tmC t).toArray 31 (0, 0))) (by simp), hw.it (rowT (some ⟨qx, 0, none⟩) xc (plc x)) (by simp)⟩)) ((OV.indexSlice rfl rfl T.u32 T.z31 (by omega)).cast (u := .pointer (some ((⟨qx, 0, none⟩ : Addr).add (i * 3)))) (by rw [Int.toNat_natCast])) rfl (listed' := [true, true, true, true, true, true, false, false]) rfl ?_
          refine WH.take 6 rfl (by kernel_rfl) (by kernel_rfl) (by kernel_rfl) (by kernel_rfl) (fun _ hw => ⟨hw.it (own b15 (.cells (tmC t).toArray 31 (0, 0))) (by simp), hw.it (rowT (some ⟨qx, 0, none⟩) xc (plc x)) (by simp)⟩) (OV.loadN (cs := tmC u) rfl T.u31 rfl T.z31 (fun _ hw j v hj => by have hj3 : j < 3 := (List.getElem?_eq_some_iff.1 hj).1; have h := row_cellsφE rfl hw.2 (i * 3 + j) v (by rw [flat_get tmC_len _ i j u htx (by omega)]; exact hj); rwa [add_add] at h)) rfl (listed' := [true, true, true, true, true, true, true, false]) rfl ?_
          refine WH.only 7 rfl (by kernel_rfl) (listed' := [true, true, true, true, true, true, true, true]) rfl (fl' := false) rfl ?_
          refine WL.focus perm2 (WL.mapUpdate intKey T.u101 rfl rfl rfl ?_)
          refine WL.nil ?_
          refine WX.contD (by kernel_rfl) (fun _ => (fun _ hw => ⟨hw.it (own b15 (.cells (tmC t).toArray 31 (0, 0))) (by simp), hw.it (rowT (some ⟨qx, 0, none⟩) xc (plc x)) (by simp)⟩)) ?_
          refine WH.done (by kernel_rfl) ?_
          refine WX.block_normal ?_
          refine WX.next ?_
          refine WC.region ?_
          refine WL.val (OV.addN (j := 1) rfl rfl (by omega)) rfl ?_
          refine WL.val (OV.move rfl) rfl ?_
          refine WL.nil ?_
          have hv : ¬ varB t = false := by simpa using c77
          have hsm : ¬ ((gotT l t.n).isSome = true ∧ (gotT l t.n).getD T0 ≠ u) := fun h => by simp [h.1] at g92
          refine WX.round2 (i + 1) (upsT l t.n u) ⟨rfl, rfl, rfl, rfl, rfl, trivial⟩ (fun w' hw => ⟨⟨by omega, by have := upsT_len t.n u l; omega, by rw [hgo, hstep, if_neg hv, if_neg hsm]⟩, ?_⟩) (by show (plc p).length - (i + 1) < (plc p).length - i; omega)
          rw [ups_kvT] at hw
          exact hw.pick [[own m43 (mapK iV (kvT (upsT l t.n u)))], [own b16 (.cells (tmC ((gotT l t.n).getD T0)).toArray 31 (0, 0))], [own b15 (.cells (tmC t).toArray 31 (0, 0))], [rowT (some ⟨qp, 0, none⟩) pc (plc p)], [rowT (some ⟨qx, 0, none⟩) xc (plc x)], [own b4 (.cells (atC x a2 c2).toArray 34 (0, 0))], [own b3 (.cells (atC p a1 c1).toArray 34 (0, 0))]] [0, 3, 4, 5, 6] 7 rfl (by decide) (by decide)
    · try simp only [decide_eq_true_eq, decide_eq_false_iff_not, Bool.not_eq_true', Bool.not_eq_false'] at c71
      refine WC.exit ?_
      refine WX.then_exit ?_
      refine WX.then_exit ?_
      refine WX.block_hit ?_
      refine WX.next ?_
      refine WC.seq ?_
      refine WC.region ?_
      refine WL.val (OV.move rfl) rfl ?_
      refine WL.focus (ow' := [] ++ (own m43 (mapK iV (kvT l)) :: rowT (some ⟨qp, 0, none⟩) pc (plc p) :: rowT (some ⟨qx, 0, none⟩) xc (plc x) :: own b4 (.cells (atC x a2 c2).toArray 34 (0, 0)) :: own b3 (.cells (atC p a1 c1).toArray 34 (0, 0)) :: [])) (List.Perm.refl _) ?_
      refine WL.callTA (ι := Nat × Nat × List Bd) (vs := [.map (some m43)]) (vv := fun q => .slice (some ⟨q.1, 0, none⟩) q.2.2.length q.2.1) (pp := fun _ => True) [] (AA := fun q => [rowB (some ⟨q.1, 0, none⟩) q.2.1 q.2.2]) rfl (by kernel_rfl) rfl rfl (fun w' hw' _ => (sorted_calls m43 l (by omega) w' (hw'.it (own m43 (mapK iV (kvT l))) (.head _))).mono (fun en w'' ⟨b, c, ys, q1, q2⟩ => ⟨(b, c, ys), q1, trivial, q2⟩)) ?_
      rintro ⟨sb, sc, ys⟩ _
      refine WL.val (OV.assign rfl) rfl ?_
      refine WL.val (OV.assign rfl) rfl ?_
      refine WL.nil ?_
      refine WX.next ?_
      refine WC.ret ?_
      exact WX.ret2 rfl rfl rfl rfl (fun w' hw => ⟨_, by rw [matchB, hgo, List.drop_eq_nil_of_le (by omega), decide_eq_true ⟨hn, hl, hvk⟩]; rfl, hw.fr⟩)
  · try simp only [decide_eq_true_eq, decide_eq_false_iff_not, Bool.not_eq_true', Bool.not_eq_false'] at g36
    refine WL.skip (b := false) rfl rfl rfl rfl ?_
    refine WL.skip (b := false) rfl rfl rfl rfl ?_
    refine WL.skip (b := false) rfl rfl rfl rfl ?_
    refine WL.skip (b := false) rfl rfl rfl rfl ?_
    refine WL.go (b := false) rfl rfl rfl ?_
    refine WL.val (OV.pickF rfl rfl) rfl ?_
    refine WL.val (OV.pickF rfl rfl) rfl ?_
    refine WL.nil ?_
    refine WX.next ?_
    refine WC.condF (show _ = some (Value.bool false) from by rfl) ?_
    refine WC.skip ?_
    refine WX.next ?_
    refine WC.seq ?_
    refine WC.region ?_
    refine WL.makeMap (iV) rfl ?_
    intro m43
    refine WL.val (OV.assign rfl) rfl ?_
    refine WL.nil ?_
    refine WX.next ?_
    refine WC.seq ?_
    refine WC.seq ?_
    refine WC.region ?_
    refine WL.val (OV.move rfl) rfl ?_
    first
    | (refine WL.val (OV.lenSlice rfl T.u48) rfl ?_)
    | (refine WL.val (OV.lenStr rfl T.u48) rfl ?_)
    refine WL.val (OV.move rfl) rfl ?_
    refine WL.nil ?_
    refine WX.next ?_
    refine WC.block ?_
    refine WC.loop1 (fun (i : Nat) => [(3, .pointer (some ⟨b3, 0, none⟩)), (4, .pointer (some ⟨b4, 0, none⟩)), (8, .map (some m43)), (45, .int .i64 0), (46, .int .i64 0)])
        (fun i w' => Sat w (fun _ => False) (fun b => b < w.heap.size) w (own m43 (mapK iV []) :: own b4 (.cells (atC x a2 c2).toArray 34 (0, 0)) :: own b3 (.cells (atC p a1 c1).toArray 34 (0, 0)) :: []) w') (fun _ => 0) 0 ⟨rfl, rfl, rfl, rfl, rfl, trivial⟩ (fun w' hw => hw) ?_
    intro i0
    refine WC.seq ?_
    refine WC.region ?_
    refine WL.val (OV.lss rfl rfl) rfl ?_
    refine WL.nil ?_
    refine WX.next ?_
    refine WC.seq ?_
    refine WC.condF (show _ = some (Value.bool false) from by rfl) ?_
    refine WC.exit ?_
    refine WX.then_exit ?_
    refine WX.then_exit ?_
    refine WX.block_hit ?_
    refine WX.next ?_
    refine WC.seq ?_
    refine WC.region ?_
    refine WL.val (OV.loadN (cs := atC x a2 c2) rfl T.u34 rfl T.z34 (fun _ hw j v hj => by rw [add_off, Nat.zero_add]; exact own_cells hw (.tail _ (.head _)) j v hj)) rfl ?_
    refine WL.callTA (ι := Nat × Nat) (vs := [atV x a2 c2]) (vv := fun q => .slice (some ⟨q.1, 0, none⟩) (plc x).length q.2) (pp := fun _ => True) [] (AA := fun q => [rowT (some ⟨q.1, 0, none⟩) q.2 (plc x)]) rfl (by kernel_rfl) rfl rfl (fun w' hw' _ => (places_calls x a2 c2 (by omega) w' (hr2.keeps hw'.keeps)).mono (fun en w'' ⟨b, lc, q1, q2⟩ => ⟨(b, lc), q1, trivial, q2⟩)) ?_
    rintro ⟨qx, xc⟩ _
    refine WL.val (OV.assign rfl) rfl ?_
    refine WL.nil ?_
    refine WX.next ?_
    refine WC.seq ?_
    refine WC.seq ?_
    refine WC.region ?_
    refine WL.val (OV.loadN (cs := atC p a1 c1) rfl T.u34 rfl T.z34 (fun _ hw j v hj => by rw [add_off, Nat.zero_add]; exact own_cells hw (.tail _ (.tail _ (.tail _ (.head _)))) j v hj)) rfl ?_
    refine WL.callTA (ι := Nat × Nat) (vs := [atV p a1 c1]) (vv := fun q => .slice (some ⟨q.1, 0, none⟩) (plc p).length q.2) (pp := fun _ => True) [] (AA := fun q => [rowT (some ⟨q.1, 0, none⟩) q.2 (plc p)]) rfl (by kernel_rfl) rfl rfl (fun w' hw' _ => (places_calls p a1 c1 (by omega) w' (hr1.keeps hw'.keeps)).mono (fun en w'' ⟨b, lc, q1, q2⟩ => ⟨(b, lc), q1, trivial, q2⟩)) ?_
    rintro ⟨qp, pc⟩ _
    first
    | (refine WL.val (OV.lenSlice rfl T.u32) rfl ?_)
    | (refine WL.val (OV.lenStr rfl T.u32) rfl ?_)
    refine WL.val (OV.move rfl) rfl ?_
    refine WL.nil ?_
    refine WX.next ?_
    refine WC.block ?_
    have hnp : (plc p).length = p.args.length + 1 := rfl
    have hnx : (plc x).length = x.args.length + 1 := rfl
    refine WC.focus (ow' := own m43 (mapK iV (kvT [])) :: rowT (some ⟨qp, 0, none⟩) pc (plc p) :: rowT (some ⟨qx, 0, none⟩) xc (plc x) :: own b4 (.cells (atC x a2 c2).toArray 34 (0, 0)) :: own b3 (.cells (atC p a1 c1).toArray 34 (0, 0)) :: []) (List.Perm.trans (List.Perm.of_eq rfl) (perm_pick [_, _, _, _, _] [2, 0, 1, 3, 4] (by decide) rfl)) ?_
    refine WC.loop2 (fun (i : Nat) (l : List (Int × Tm)) => [(8, .map (some m43)), (13, .slice (some ⟨qx, 0, none⟩) (plc x).length xc), (68, .slice (some ⟨qp, 0, none⟩) (plc p).length pc), (69, .int .i64 ((plc p).length : Int)), (70, .int .i64 (i : Int))])
        (fun i l w' => (i ≤ (plc p).length ∧ l.length ≤ i ∧ matchGo [] (plc p) (plc x) = matchGo l ((plc p).drop i) ((plc x).drop i)) ∧ Sat w (fun _ => False) (fun b => b < w.heap.size) w (own m43 (mapK iV (kvT l)) :: rowT (some ⟨qp, 0, none⟩) pc (plc p) :: rowT (some ⟨qx, 0, none⟩) xc (plc x) :: own b4 (.cells (atC x a2 c2).toArray 34 (0, 0)) :: own b3 (.cells (atC p a1 c1).toArray 34 (0, 0)) :: []) w')
        (fun i _ => (plc p).length - i) 0 [] ⟨rfl, rfl, rfl, rfl, rfl, trivial⟩ (fun w' hw => ⟨⟨by omega, Nat.le_refl _, rfl⟩, hw⟩) ?_
    intro i l
    refine WC.pure (fun hi => ?_)
    obtain ⟨hi, hll, hgo⟩ := hi
    refine WC.seq ?_
    refine WC.region ?_
    refine WL.val (OV.lss rfl rfl) rfl ?_
    refine WL.nil ?_
    refine WX.next ?_
    refine WC.seq ?_
    refine WC.cond rfl (fun c71 => ?_) (fun c71 => ?_)
    · try simp only [decide_eq_true_eq, decide_eq_false_iff_not, Bool.not_eq_true', Bool.not_eq_false'] at c71
      refine WC.skip ?_
      refine WX.next ?_
      refine WC.seq ?_
      refine WC.block ?_
      refine WC.seq ?_
      refine WC.region ?_
      refine WL.val (OV.move rfl) rfl ?_
      obtain ⟨t, htp⟩ : ∃ t, (plc p)[i]? = some t := ⟨_, List.getElem?_eq_getElem (by omega)⟩
      obtain ⟨u, htx⟩ : ∃ u, (plc x)[i]? = some u := ⟨_, List.getElem?_eq_getElem (by omega)⟩
      have hstep := go_drop (m := l) htp htx
      refine WL.val ((OV.indexSlice rfl rfl T.u32 T.z31 (by omega)).cast (u := .pointer (some ((⟨qp, 0, none⟩ : Addr).add (i * 3)))) (by rw [Int.toNat_natCast])) rfl ?_
      refine WL.val (OV.loadN (cs := tmC t) rfl T.u31 rfl T.z31 (fun _ hw j v hj => by have hj3 : j < 3 := (List.getElem?_eq_some_iff.1 hj).1; have h := row_cellsφE rfl (hw.it (rowT (some ⟨qp, 0, none⟩) pc (plc p)) (.tail _ (.head _))) (i * 3 + j) v (by rw [flat_get tmC_len _ i j t htp (by omega)]; exact hj); rwa [add_add] at h)) rfl ?_
      refine WL.alloc T.zr31 rfl ?_
      intro b15
      refine WL.val (OV.assign rfl) rfl ?_
      refine WL.storeAll (vs := tmC t) rfl rfl rfl T.z31 rfl ?_
      refine WL.nil ?_
      refine WX.next ?_
      refine WC.seq ?_
      refine WC.seq ?_
      refine WC.region ?_
      refine WL.val (OV.loadN (cs := tmC t) rfl T.u31 rfl T.z31 (fun _ hw j v hj => by rw [add_off, Nat.zero_add]; exact own_cells hw (.head _) j v hj)) rfl ?_
      refine WL.call0 (v := .bool (varB t)) (by kernel_rfl) rfl rfl (fun w' hw' => var_calls t w') ?_
      refine WL.val (OV.not rfl) rfl ?_
      refine WL.nil ?_
      refine WX.next ?_
      refine WC.cond rfl (fun c77 => ?_) (fun c77 => ?_)
      · try simp only [decide_eq_true_eq, decide_eq_false_iff_not, Bool.not_eq_true', Bool.not_eq_false'] at c77
        refine WC.seq ?_
        refine WC.seq ?_
        refine WC.drawn (fun w' => w'.heap[b15]? = some (.cells (tmC t).toArray 31 (0, 0)) ∧ (rowT (some ⟨qx, 0, none⟩) xc (plc x)).φ w') [] (by kernel_rfl) (by kernel_rfl) (m := 6) rfl ?_
        refine WH.take 0 rfl (by kernel_rfl) (by kernel_rfl) (by kernel_rfl) (by kernel_rfl) (fun _ hw => ⟨hw.it (own b15 (.cells (tmC t).toArray 31 (0, 0))) (by simp), hw.it (rowT (some ⟨qx, 0, none⟩) xc (plc x)) (by simp)⟩) (OV.loadN (cs := tmC t) rfl T.u31 rfl T.z31 (fun _ hw j v hj => by rw [add_off]; exact heap_part hw.1 (o := 0) (cs' := tmC t) rfl j v hj)) rfl (listed' := [true, false, false, false, false, false]) rfl ?_
        refine WH.free 1 rfl (by kernel_rfl) (by kernel_rfl) (by kernel_rfl) rfl (fun _ => (fun _ hw => ⟨hw.it (own b15 (.cells (tmC t).toArray 31 (0, 0))) (by simp), hw.it (rowT (some ⟨qx, 0, none⟩) xc (plc x)) (by simp)⟩)) (OV.move rfl) rfl (listed' := [true, true, false, false, false, false]) rfl ?_
        refine WH.free 2 rfl (by kernel_rfl) (by kernel_rfl) (by kernel_rfl) rfl (fun _ => (fun _ hw => ⟨hw.it (own b15 (.cells (tmC t).toArray 31 (0, 0))) (by simp), hw.it (rowT (some ⟨qx, 0, none⟩) xc (plc x)) (by simp)⟩)) (OV.move rfl) rfl (listed' := [true, true, true, false, false, false]) rfl ?_
        refine WH.free 3 rfl (by kernel_rfl) (by kernel_rfl) (by kernel_rfl) rfl (fun _ => (fun _ hw => ⟨hw.it (own b15 (.cells (tmC t).toArray 31 (0, 0))) (by simp), hw.it (rowT (some ⟨qx, 0, none⟩) xc (plc x)) (by simp)⟩)) ((OV.indexSlice rfl rfl T.u32 T.z31 (by omega)).cast (u := .pointer (some ((⟨qx, 0, none⟩ : Addr).add (i * 3)))) (by rw [Int.toNat_natCast])) rfl (listed' := [true, true, true, true, false, false]) rfl ?_
        refine WH.take 4 rfl (by kernel_rfl) (by kernel_rfl) (by kernel_rfl) (by kernel_rfl) (fun _ hw => ⟨hw.it (own b15 (.cells (tmC t).toArray 31 (0, 0))) (by simp), hw.it (rowT (some ⟨qx, 0, none⟩) xc (plc x)) (by simp)⟩) (OV.loadN (cs := tmC u) rfl T.u31 rfl T.z31 (fun _ hw j v hj => by have hj3 : j < 3 := (List.getElem?_eq_some_iff.1 hj).1; have h := row_cellsφE rfl hw.2 (i * 3 + j) v (by rw [flat_get tmC_len _ i j u htx (by omega)]; exact hj); rwa [add_add] at h)) rfl (listed' := [true, true, true, true, true, false]) rfl ?_
        refine WH.free 5 rfl (by kernel_rfl) (by kernel_rfl) (by kernel_rfl) rfl (fun _ => (fun _ hw => ⟨hw.it (own b15 (.cells (tmC t).toArray 31 (0, 0))) (by simp), hw.it (rowT (some ⟨qx, 0, none⟩) xc (plc x)) (by simp)⟩)) (OV.neqTm (a := t) (b := u) rfl rfl) rfl (listed' := [true, true, true, true, true, true]) rfl ?_
        refine WH.done (by kernel_rfl) ?_
        refine WX.next ?_
        refine WC.cond rfl (fun c83 => ?_) (fun c83 => ?_)
        · try simp only [decide_eq_true_eq, decide_eq_false_iff_not, Bool.not_eq_true', Bool.not_eq_false'] at c83
          refine WC.seq ?_
          refine WC.region ?_
          refine WL.val (OV.assign rfl) rfl ?_
          refine WL.val (OV.assign rfl) rfl ?_
          refine WL.nil ?_
          refine WX.next ?_
          refine WC.ret ?_
          refine WX.then_ret ?_
          refine WX.then_ret ?_
          refine WX.block_ret ?_
          refine WX.then_ret ?_
          refine WX.then_ret ?_
          refine WX.block_ret ?_
          refine WX.then_ret ?_
          have hv : varB t = false := by simpa using c77
          have hu : ¬ t = u := by simpa using c83
          exact WX.ret2 rfl rfl rfl rfl (fun w' hw => ⟨_, by rw [matchB, hgo, hstep, if_pos hv, if_neg hu, Bool.and_false], hw.fr⟩)
        · try simp only [decide_eq_true_eq, decide_eq_false_iff_not, Bool.not_eq_true', Bool.not_eq_false'] at c83
          refine WC.skip ?_
          refine WX.next ?_
          refine WC.exit ?_
          refine WX.then_exit ?_
          refine WX.block_hit ?_
          refine WX.next ?_
          refine WC.region ?_
          refine WL.val (OV.addN (j := 1) rfl rfl (by omega)) rfl ?_
          refine WL.val (OV.move rfl) rfl ?_
          refine WL.nil ?_
          have hv : varB t = false := by simpa using c77
          have hu : t = u := by simpa using c83
          exact WX.round2 (i + 1) l ⟨rfl, rfl, rfl, rfl, rfl, trivial⟩ (fun w' hw => ⟨⟨by omega, by omega, by rw [hgo, hstep, if_pos hv, if_pos hu]⟩, hw.drop⟩) (by show (plc p).length - (i + 1) < (plc p).length - i; omega)
      · try simp only [decide_eq_true_eq, decide_eq_false_iff_not, Bool.not_eq_true', Bool.not_eq_false'] at c77
        refine WC.skip ?_
        refine WX.next ?_
        refine WC.seq ?_
        refine WC.seq ?_
        refine WC.region ?_
        refine WL.val (OV.move rfl) rfl ?_
        first
        | (refine WL.val (OV.fieldAddr0 (off := 1) rfl T.u31 rfl) rfl ?_)
        | (refine WL.val (OV.fieldAddr (off := 1) rfl T.u31 rfl) rfl ?_)
        refine WL.val (OV.load1 (v := .int .i64 t.n) rfl T.u3 rfl (fun _ hw => (cell_at (hw.it _ (.head _)) (o := 1) rfl).1)) rfl ?_
        refine WL.val ((OV.lookupOk intKey T.u101 (show Program.zv Tryz.prog 31 = some (tmV T0) by kernel_rfl) rfl rfl (fun _ hw => hw.it (own m43 (mapK iV (kvT l))) (by simp))).cast (u := .tuple #[tmV ((gotT l t.n).getD T0), .bool (gotT l t.n).isSome]) (by rw [got_kvT]; cases gotT l t.n <;> rfl)) rfl ?_
        refine WL.val (OV.move rfl) rfl ?_
        refine WL.val (OV.extract rfl rfl) rfl ?_
        refine WL.val (OV.extract rfl rfl) rfl ?_
        refine WL.alloc T.zr31 rfl ?_
        intro b16
        refine WL.storeAll (vs := tmC ((gotT l t.n).getD T0)) rfl rfl rfl T.z31 rfl ?_
        refine WL.val (OV.assign rfl) rfl ?_
        refine WL.nil ?_
        refine WX.next ?_
        refine WC.seq ?_
        refine WC.drawn (fun w' => w'.heap[b16]? = some (.cells (tmC ((gotT l t.n).getD T0)).toArray 31 (0, 0)) ∧ (rowT (some ⟨qx, 0, none⟩) xc (plc x)).φ w') [] (by kernel_rfl) (by kernel_rfl) (m := 9) rfl ?_
        refine WH.free 0 rfl (by kernel_rfl) (by kernel_rfl) (by kernel_rfl) rfl (fun _ => (fun _ hw => ⟨hw.it (own b16 (.cells (tmC ((gotT l t.n).getD T0)).toArray 31 (0, 0))) (by simp), hw.it (rowT (some ⟨qx, 0, none⟩) xc (plc x)) (by simp)⟩)) (OV.move rfl) rfl (listed' := [true, false, false, false, false, false, false, false, false]) rfl ?_
        refine WH.free 1 rfl (by kernel_rfl) (by kernel_rfl) (by kernel_rfl) rfl (fun _ => (fun _ hw => ⟨hw.it (own b16 (.cells (tmC ((gotT l t.n).getD T0)).toArray 31 (0, 0))) (by simp), hw.it (rowT (some ⟨qx, 0, none⟩) xc (plc x)) (by simp)⟩)) (OV.move rfl) rfl (listed' := [true, true, false, false, false, false, false, false, false]) rfl ?_
        refine WH.split (t := 92) rfl (fun g92 => ?_) (fun g92 => ?_)
        · try simp only [decide_eq_true_eq, decide_eq_false_iff_not, Bool.not_eq_true', Bool.not_eq_false'] at g92
          refine WH.takeG 2 (b := true) rfl (by kernel_rfl) (by kernel_rfl) (by kernel_rfl) (by kernel_rfl) (fun _ hw => ⟨hw.it (own b16 (.cells (tmC ((gotT l t.n).getD T0)).toArray 31 (0, 0))) (by simp), hw.it (rowT (some ⟨qx, 0, none⟩) xc (plc x)) (by simp)⟩) rfl rfl rfl (OV.loadN (cs := tmC ((gotT l t.n).getD T0)) rfl T.u31 rfl T.z31 (fun _ hw j v hj => by rw [add_off]; exact heap_part hw.1 (o := 0) (cs' := tmC ((gotT l t.n).getD T0)) rfl j v hj)) rfl (listed' := [true, true, true, false, false, false, false, false, false]) rfl ?_
          refine WH.freeG 3 (b := true) rfl (by kernel_rfl) (by kernel_rfl) (by kernel_rfl) rfl (fun _ => (fun _ hw => ⟨hw.it (own b16 (.cells (tmC ((gotT l t.n).getD T0)).toArray 31 (0, 0))) (by simp), hw.it (rowT (some ⟨qx, 0, none⟩) xc (plc x)) (by simp)⟩)) rfl rfl rfl (OV.move rfl) rfl (listed' := [true, true, true, true, false, false, false, false, false]) rfl ?_
          refine WH.freeG 4 (b := true) rfl (by kernel_rfl) (by kernel_rfl) (by kernel_rfl) rfl (fun _ => (fun _ hw => ⟨hw.it (own b16 (.cells (tmC ((gotT l t.n).getD T0)).toArray 31 (0, 0))) (by simp), hw.it (rowT (some ⟨qx, 0, none⟩) xc (plc x)) (by simp)⟩)) rfl rfl rfl (OV.move rfl) rfl (listed' := [true, true, true, true, true, false, false, false, false]) rfl ?_
          refine WH.freeG 5 (b := true) rfl (by kernel_rfl) (by kernel_rfl) (by kernel_rfl) rfl (fun _ => (fun _ hw => ⟨hw.it (own b16 (.cells (tmC ((gotT l t.n).getD T0)).toArray 31 (0, 0))) (by simp), hw.it (rowT (some ⟨qx, 0, none⟩) xc (plc x)) (by simp)⟩)) rfl rfl rfl ((OV.indexSlice rfl rfl T.u32 T.z31 (by omega)).cast (u := .pointer (some ((⟨qx, 0, none⟩ : Addr).add (i * 3)))) (by rw [Int.toNat_natCast])) rfl (listed' := [true, true, true, true, true, true, false, false, false]) rfl ?_
          refine WH.takeG 6 (b := true) rfl (by kernel_rfl) (by kernel_rfl) (by kernel_rfl) (by kernel_rfl) (fun _ hw => ⟨hw.it (own b16 (.cells (tmC ((gotT l t.n).getD T0)).toArray 31 (0, 0))) (by simp), hw.it (rowT (some ⟨qx, 0, none⟩) xc (plc x)) (by simp)⟩) rfl rfl rfl (OV.loadN (cs := tmC u) rfl T.u31 rfl T.z31 (fun _ hw j v hj => by have hj3 : j < 3 := (List.getElem?_eq_some_iff.1 hj).1; have h := row_cellsφE rfl hw.2 (i * 3 + j) v (by rw [flat_get tmC_len _ i j u htx (by omega)]; exact hj); rwa [add_add] at h)) rfl (listed' := [true, true, true, true, true, true, true, false, false]) rfl ?_
          refine WH.freeG 7 (b := true) rfl (by kernel_rfl) (by kernel_rfl) (by kernel_rfl) rfl (fun _ => (fun _ hw => ⟨hw.it (own b16 (.cells (tmC ((gotT l t.n).getD T0)).toArray 31 (0, 0))) (by simp), hw.it (rowT (some ⟨qx, 0, none⟩) xc (plc x)) (by simp)⟩)) rfl rfl rfl (OV.neqTm (a := (gotT l t.n).getD T0) (b := u) rfl rfl) rfl (listed' := [true, true, true, true, true, true, true, true, false]) rfl ?_
          refine WH.free 8 rfl (by kernel_rfl) (by kernel_rfl) (by kernel_rfl) rfl (fun _ => (fun _ hw => ⟨hw.it (own b16 (.cells (tmC ((gotT l t.n).getD T0)).toArray 31 (0, 0))) (by simp), hw.it (rowT (some ⟨qx, 0, none⟩) xc (plc x)) (by simp)⟩)) (OV.pickT rfl rfl) rfl (listed' := [true, true, true, true, true, true, true, true, true]) rfl ?_
          refine WH.done (by kernel_rfl) ?_
          refine WX.next ?_
          refine WC.cond rfl (fun c99 => ?_) (fun c99 => ?_)
          · try simp only [decide_eq_true_eq, decide_eq_false_iff_not, Bool.not_eq_true', Bool.not_eq_false'] at c99
            refine WC.seq ?_
            refine WC.region ?_
            refine WL.val (OV.assign rfl) rfl ?_
            refine WL.val (OV.assign rfl) rfl ?_
            refine WL.nil ?_
            refine WX.next ?_
            refine WC.ret ?_
            refine WX.then_ret ?_
            refine WX.block_ret ?_
            refine WX.then_ret ?_
            refine WX.then_ret ?_
            refine WX.block_ret ?_
            refine WX.then_ret ?_
            have hv : ¬ varB t = false := by simpa using c77
            have hsm : (gotT l t.n).isSome = true ∧ (gotT l t.n).getD T0 ≠ u := ⟨by simpa using g92, by simpa using c99⟩
            exact WX.ret2 rfl rfl rfl rfl (fun w' hw => ⟨_, by rw [matchB, hgo, hstep, if_neg hv, if_pos hsm, Bool.and_false], hw.fr⟩)
          · try simp only [decide_eq_true_eq, decide_eq_false_iff_not, Bool.not_eq_true', Bool.not_eq_false'] at c99
            refine WC.skip ?_
            refine WX.next ?_
            refine WC.drawn (fun w' => w'.heap[b15]? = some (.cells (tmC t).toArray 31 (0, 0)) ∧ (rowT (some ⟨qx, 0, none⟩) xc (plc x)).φ w') [] (by kernel_rfl) (by kernel_rfl) (m := 8) rfl ?_
            refine WH.free 0 rfl (by kernel_rfl) (by kernel_rfl) (by kernel_rfl) rfl (fun _ => (fun _ hw => ⟨hw.it (own b15 (.cells (tmC t).toArray 31 (0, 0))) (by simp), hw.it (rowT (some ⟨qx, 0, none⟩) xc (plc x)) (by simp)⟩)) (OV.move rfl) rfl (listed' := [true, false, false, false, false, false, false, false]) rfl ?_
            first
            | (refine WH.free 1 rfl (by kernel_rfl) (by kernel_rfl) (by kernel_rfl) rfl (fun _ => (fun _ hw => ⟨hw.it (own b15 (.cells (tmC t).toArray 31 (0, 0))) (by simp), hw.it (rowT (some ⟨qx, 0, none⟩) xc (plc x)) (by simp)⟩)) (OV.fieldAddr0 (off := 1) rfl T.u31 rfl) rfl (listed' := [true, true, false, false, false, false, false, false]) rfl ?_)
            | (refine WH.free 1 rfl (by kernel_rfl) (by kernel_rfl) (by kernel_rfl) rfl (fun _ => (fun _ hw => ⟨hw.it (own b15 (.cells (tmC t).toArray 31 (0, 0))) (by simp), hw.it (rowT (some ⟨qx, 0, none⟩) xc (plc x)) (by simp)⟩)) (OV.fieldAddr (off := 1) rfl T.u31 rfl) rfl (listed' := [true, true, false, false, false, false, false, false]) rfl ?_)
            refine WH.take 2 rfl (by kernel_rfl) (by kernel_rfl) (by kernel_rfl) (by kernel_rfl) (fun _ hw => ⟨hw.it (own b15 (.cells (tmC t).toArray 31 (0, 0))) (by simp), hw.it (rowT (some ⟨qx, 0, none⟩) xc (plc x)) (by simp)⟩) (OV.load1 (v := .int .i64 t.n) rfl T.u3 rfl (fun _ hw => (cell_at hw.1 (o := 1) rfl).1)) rfl (listed' := [true, true, true, false, false, false, false, false]) rfl ?_
            refine WH.free 3 rfl (by kernel_rfl) (by kernel_rfl) (by kernel_rfl) rfl (fun _ => (fun _ hw => ⟨hw.it (own b15 (.cells (tmC t).toArray 31 (0, 0))) (by simp), hw.it (rowT (some ⟨qx, 0, none⟩) xc (plc x)) (by simp)⟩)) (OV.move rfl) rfl (listed' := [true, true, true, true, false, false, false, false]) rfl ?_
            refine WH.free 4 rfl (by kernel_rfl) (by kernel_rfl) (by kernel_rfl) rfl (fun _ => (fun _ hw => ⟨hw.it (own b15 (.cells (tmC t).toArray 31 (0, 0))) (by simp), hw.it (rowT (some ⟨qx, 0, none⟩) xc (plc x)) (by simp)⟩)) (OV.move rfl) rfl (listed' := [true, true, true, true, true, false, false, false]) rfl ?_
            refine WH.free 5 rfl (by kernel_rfl) (by kernel_rfl) (by kernel_rfl) rfl (fun _ => (fun _ hw => ⟨hw.it (own b15 (.cells (tmC t).toArray 31 (0, 0))) (by simp), hw.it (rowT (some ⟨qx, 0, none⟩) xc (plc x)) (by simp)⟩)) ((OV.indexSlice rfl rfl T.u32 T.z31 (by omega)).cast (u := .pointer (some ((⟨qx, 0, none⟩ : Addr).add (i * 3)))) (by rw [Int.toNat_natCast])) rfl (listed' := [true, true, true, true, true, true, false, false]) rfl ?_
            refine WH.take 6 rfl (by kernel_rfl) (by kernel_rfl) (by kernel_rfl) (by kernel_rfl) (fun _ hw => ⟨hw.it (own b15 (.cells (tmC t).toArray 31 (0, 0))) (by simp), hw.it (rowT (some ⟨qx, 0, none⟩) xc (plc x)) (by simp)⟩) (OV.loadN (cs := tmC u) rfl T.u31 rfl T.z31 (fun _ hw j v hj => by have hj3 : j < 3 := (List.getElem?_eq_some_iff.1 hj).1; have h := row_cellsφE rfl hw.2 (i * 3 + j) v (by rw [flat_get tmC_len _ i j u htx (by omega)]; exact hj); rwa [add_add] at h)) rfl (listed' := [true, true, true, true, true, true, true, false]) rfl ?_
            refine WH.only 7 rfl (by kernel_rfl) (listed' := [true, true, true, true, true, true, true, true]) rfl (fl' := false) rfl ?_
            refine WL.focus perm2 (WL.mapUpdate intKey T.u101 rfl rfl rfl ?_)
            refine WL.nil ?_
            refine WX.contD (by kernel_rfl) (fun _ => (fun _ hw => ⟨hw.it (own b15 (.cells (tmC t).toArray 31 (0, 0))) (by simp), hw.it (rowT (some ⟨qx, 0, none⟩) xc (plc x)) (by simp)⟩)) ?_
            refine WH.done (by kernel_rfl) ?_
            refine WX.block_normal ?_
            refine WX.next ?_
            refine WC.region ?_
            refine WL.val (OV.addN (j := 1) rfl rfl (by omega)) rfl ?_
            refine WL.val (OV.move rfl) rfl ?_
            refine WL.nil ?_
            have hv : ¬ varB t = false := by simpa using c77
            have hsm : ¬ ((gotT l t.n).isSome = true ∧ (gotT l t.n).getD T0 ≠ u) := fun h => h.2 (by simpa using c99)
            refine WX.round2 (i + 1) (upsT l t.n u) ⟨rfl, rfl, rfl, rfl, rfl, trivial⟩ (fun w' hw => ⟨⟨by omega, by have := upsT_len t.n u l; omega, by rw [hgo, hstep, if_neg hv, if_neg hsm]⟩, ?_⟩) (by show (plc p).length - (i + 1) < (plc p).length - i; omega)
            rw [ups_kvT] at hw
            exact hw.pick [[own m43 (mapK iV (kvT (upsT l t.n u)))], [own b16 (.cells (tmC ((gotT l t.n).getD T0)).toArray 31 (0, 0))], [own b15 (.cells (tmC t).toArray 31 (0, 0))], [rowT (some ⟨qp, 0, none⟩) pc (plc p)], [rowT (some ⟨qx, 0, none⟩) xc (plc x)], [own b4 (.cells (atC x a2 c2).toArray 34 (0, 0))], [own b3 (.cells (atC p a1 c1).toArray 34 (0, 0))]] [0, 3, 4, 5, 6] 7 rfl (by decide) (by decide)
        · try simp only [decide_eq_true_eq, decide_eq_false_iff_not, Bool.not_eq_true', Bool.not_eq_false'] at g92
          refine WH.skip 2 (b := false) rfl (by kernel_rfl) (by kernel_rfl) (by kernel_rfl) rfl (fun _ => (fun _ hw => ⟨hw.it (own b16 (.cells (tmC ((gotT l t.n).getD T0)).toArray 31 (0, 0))) (by simp), hw.it (rowT (some ⟨qx, 0, none⟩) xc (plc x)) (by simp)⟩)) rfl rfl rfl rfl (listed' := [true, true, true, false, false, false, false, false, false]) rfl ?_
          refine WH.skip 3 (b := false) rfl (by kernel_rfl) (by kernel_rfl) (by kernel_rfl) rfl (fun _ => (fun _ hw => ⟨hw.it (own b16 (.cells (tmC ((gotT l t.n).getD T0)).toArray 31 (0, 0))) (by simp), hw.it (rowT (some ⟨qx, 0, none⟩) xc (plc x)) (by simp)⟩)) rfl rfl rfl rfl (listed' := [true, true, true, true, false, false, false, false, false]) rfl ?_
          refine WH.skip 4 (b := false) rfl (by kernel_rfl) (by kernel_rfl) (by kernel_rfl) rfl (fun _ => (fun _ hw => ⟨hw.it (own b16 (.cells (tmC ((gotT l t.n).getD T0)).toArray 31 (0, 0))) (by simp), hw.it (rowT (some ⟨qx, 0, none⟩) xc (plc x)) (by simp)⟩)) rfl rfl rfl rfl (listed' := [true, true, true, true, true, false, false, false, false]) rfl ?_
          refine WH.skip 5 (b := false) rfl (by kernel_rfl) (by kernel_rfl) (by kernel_rfl) rfl (fun _ => (fun _ hw => ⟨hw.it (own b16 (.cells (tmC ((gotT l t.n).getD T0)).toArray 31 (0, 0))) (by simp), hw.it (rowT (some ⟨qx, 0, none⟩) xc (plc x)) (by simp)⟩)) rfl rfl rfl rfl (listed' := [true, true, true, true, true, true, false, false, false]) rfl ?_
          refine WH.skip 6 (b := false) rfl (by kernel_rfl) (by kernel_rfl) (by kernel_rfl) rfl (fun _ => (fun _ hw => ⟨hw.it (own b16 (.cells (tmC ((gotT l t.n).getD T0)).toArray 31 (0, 0))) (by simp), hw.it (rowT (some ⟨qx, 0, none⟩) xc (plc x)) (by simp)⟩)) rfl rfl rfl rfl (listed' := [true, true, true, true, true, true, true, false, false]) rfl ?_
          refine WH.skip 7 (b := false) rfl (by kernel_rfl) (by kernel_rfl) (by kernel_rfl) rfl (fun _ => (fun _ hw => ⟨hw.it (own b16 (.cells (tmC ((gotT l t.n).getD T0)).toArray 31 (0, 0))) (by simp), hw.it (rowT (some ⟨qx, 0, none⟩) xc (plc x)) (by simp)⟩)) rfl rfl rfl rfl (listed' := [true, true, true, true, true, true, true, true, false]) rfl ?_
          refine WH.free 8 rfl (by kernel_rfl) (by kernel_rfl) (by kernel_rfl) rfl (fun _ => (fun _ hw => ⟨hw.it (own b16 (.cells (tmC ((gotT l t.n).getD T0)).toArray 31 (0, 0))) (by simp), hw.it (rowT (some ⟨qx, 0, none⟩) xc (plc x)) (by simp)⟩)) (OV.pickF rfl rfl) rfl (listed' := [true, true, true, true, true, true, true, true, true]) rfl ?_
          refine WH.done (by kernel_rfl) ?_
          refine WX.next ?_
          refine WC.condF (show _ = some (Value.bool false) from by rfl) ?_
          refine WC.skip ?_
          refine WX.next ?_
          refine WC.drawn (fun w' => w'.heap[b15]? = some (.cells (tmC t).toArray 31 (0, 0)) ∧ (rowT (some ⟨qx, 0, none⟩) xc (plc x)).φ w') [] (by kernel_rfl) (by kernel_rfl) (m := 8) rfl ?_
          refine WH.free 0 rfl (by kernel_rfl) (by kernel_rfl) (by kernel_rfl) rfl (fun _ => (fun _ hw => ⟨hw.it (own b15 (.cells (tmC t).toArray 31 (0, 0))) (by simp), hw.it (rowT (some ⟨qx, 0, none⟩) xc (plc x)) (by simp)⟩)) (OV.move rfl) rfl (listed' := [true, false, false, false, false, false, false, false]) rfl ?_
          first
          | (refine WH.free 1 rfl (by kernel_rfl) (by kernel_rfl) (by kernel_rfl) rfl (fun _ => (fun _ hw => ⟨hw.it (own b15 (.cells (tmC t).toArray 31 (0, 0))) (by simp), hw.it (rowT (some ⟨qx, 0, none⟩) xc (plc x)) (by simp)⟩)) (OV.fieldAddr0 (off := 1) rfl T.u31 rfl) rfl (listed' := [true, true, false, false, false, false, false, false]) rfl ?_)
          | (refine WH.free 1 rfl (by kernel_rfl) (by kernel_rfl) (by kernel_rfl) rfl (fun _ => (fun _ hw => ⟨hw.it (own b15 (.cells (tmC t).toArray 31 (0, 0))) (by simp), hw.it (rowT (some ⟨qx, 0, none⟩) xc (plc x)) (by simp)⟩)) (OV.fieldAddr (off := 1) rfl T.u31 rfl) rfl (listed' := [true, true, false, false, false, false, false, false]) rfl ?_)
          refine WH.take 2 rfl (by kernel_rfl) (by kernel_rfl) (by kernel_rfl) (by kernel_rfl) (fun _ hw => ⟨hw.it (own b15 (.cells (tmC t).toArray 31 (0, 0))) (by simp), hw.it (rowT (some ⟨qx, 0, none⟩) xc (plc x)) (by simp)⟩) (OV.load1 (v := .int .i64 t.n) rfl T.u3 rfl (fun _ hw => (cell_at hw.1 (o := 1) rfl).1)) rfl (listed' := [true, true, true, false, false, false, false, false]) rfl ?_
          refine WH.free 3 rfl (by kernel_rfl) (by kernel_rfl) (by kernel_rfl) rfl (fun _ => (fun _ hw => ⟨hw.it (own b15 (.cells (tmC t).toArray 31 (0, 0))) (by simp), hw.it (rowT (some ⟨qx, 0, none⟩) xc (plc x)) (by simp)⟩)) (OV.move rfl) rfl (listed' := [true, true, true, true, false, false, false, false]) rfl ?_
          refine WH.free 4 rfl (by kernel_rfl) (by kernel_rfl) (by kernel_rfl) rfl (fun _ => (fun _ hw => ⟨hw.it (own b15 (.cells (tmC t).toArray 31 (0, 0))) (by simp), hw.it (rowT (some ⟨qx, 0, none⟩) xc (plc x)) (by simp)⟩)) (OV.move rfl) rfl (listed' := [true, true, true, true, true, false, false, false]) rfl ?_
          refine WH.free 5 rfl (by kernel_rfl) (by kernel_rfl) (by kernel_rfl) rfl (fun _ => (fun _ hw => ⟨hw.it (own b15 (.cells (tmC t).toArray 31 (0, 0))) (by simp), hw.it (rowT (some ⟨qx, 0, none⟩) xc (plc x)) (by simp)⟩)) ((OV.indexSlice rfl rfl T.u32 T.z31 (by omega)).cast (u := .pointer (some ((⟨qx, 0, none⟩ : Addr).add (i * 3)))) (by rw [Int.toNat_natCast])) rfl (listed' := [true, true, true, true, true, true, false, false]) rfl ?_
          refine WH.take 6 rfl (by kernel_rfl) (by kernel_rfl) (by kernel_rfl) (by kernel_rfl) (fun _ hw => ⟨hw.it (own b15 (.cells (tmC t).toArray 31 (0, 0))) (by simp), hw.it (rowT (some ⟨qx, 0, none⟩) xc (plc x)) (by simp)⟩) (OV.loadN (cs := tmC u) rfl T.u31 rfl T.z31 (fun _ hw j v hj => by have hj3 : j < 3 := (List.getElem?_eq_some_iff.1 hj).1; have h := row_cellsφE rfl hw.2 (i * 3 + j) v (by rw [flat_get tmC_len _ i j u htx (by omega)]; exact hj); rwa [add_add] at h)) rfl (listed' := [true, true, true, true, true, true, true, false]) rfl ?_
          refine WH.only 7 rfl (by kernel_rfl) (listed' := [true, true, true, true, true, true, true, true]) rfl (fl' := false) rfl ?_
          refine WL.focus perm2 (WL.mapUpdate intKey T.u101 rfl rfl rfl ?_)
          refine WL.nil ?_
          refine WX.contD (by kernel_rfl) (fun _ => (fun _ hw => ⟨hw.it (own b15 (.cells (tmC t).toArray 31 (0, 0))) (by simp), hw.it (rowT (some ⟨qx, 0, none⟩) xc (plc x)) (by simp)⟩)) ?_
          refine WH.done (by kernel_rfl) ?_
          refine WX.block_normal ?_
          refine WX.next ?_
          refine WC.region ?_
          refine WL.val (OV.addN (j := 1) rfl rfl (by omega)) rfl ?_
          refine WL.val (OV.move rfl) rfl ?_
          refine WL.nil ?_
          have hv : ¬ varB t = false := by simpa using c77
          have hsm : ¬ ((gotT l t.n).isSome = true ∧ (gotT l t.n).getD T0 ≠ u) := fun h => by simp [h.1] at g92
          refine WX.round2 (i + 1) (upsT l t.n u) ⟨rfl, rfl, rfl, rfl, rfl, trivial⟩ (fun w' hw => ⟨⟨by omega, by have := upsT_len t.n u l; omega, by rw [hgo, hstep, if_neg hv, if_neg hsm]⟩, ?_⟩) (by show (plc p).length - (i + 1) < (plc p).length - i; omega)
          rw [ups_kvT] at hw
          exact hw.pick [[own m43 (mapK iV (kvT (upsT l t.n u)))], [own b16 (.cells (tmC ((gotT l t.n).getD T0)).toArray 31 (0, 0))], [own b15 (.cells (tmC t).toArray 31 (0, 0))], [rowT (some ⟨qp, 0, none⟩) pc (plc p)], [rowT (some ⟨qx, 0, none⟩) xc (plc x)], [own b4 (.cells (atC x a2 c2).toArray 34 (0, 0))], [own b3 (.cells (atC p a1 c1).toArray 34 (0, 0))]] [0, 3, 4, 5, 6] 7 rfl (by decide) (by decide)
    · try simp only [decide_eq_true_eq, decide_eq_false_iff_not, Bool.not_eq_true', Bool.not_eq_false'] at c71
      refine WC.exit ?_
      refine WX.then_exit ?_
      refine WX.then_exit ?_
      refine WX.block_hit ?_
      refine WX.next ?_
      refine WC.seq ?_
      refine WC.region ?_
      refine WL.val (OV.move rfl) rfl ?_
      refine WL.focus (ow' := [] ++ (own m43 (mapK iV (kvT l)) :: rowT (some ⟨qp, 0, none⟩) pc (plc p) :: rowT (some ⟨qx, 0, none⟩) xc (plc x) :: own b4 (.cells (atC x a2 c2).toArray 34 (0, 0)) :: own b3 (.cells (atC p a1 c1).toArray 34 (0, 0)) :: [])) (List.Perm.refl _) ?_
      refine WL.callTA (ι := Nat × Nat × List Bd) (vs := [.map (some m43)]) (vv := fun q => .slice (some ⟨q.1, 0, none⟩) q.2.2.length q.2.1) (pp := fun _ => True) [] (AA := fun q => [rowB (some ⟨q.1, 0, none⟩) q.2.1 q.2.2]) rfl (by kernel_rfl) rfl rfl (fun w' hw' _ => (sorted_calls m43 l (by omega) w' (hw'.it (own m43 (mapK iV (kvT l))) (.head _))).mono (fun en w'' ⟨b, c, ys, q1, q2⟩ => ⟨(b, c, ys), q1, trivial, q2⟩)) ?_
      rintro ⟨sb, sc, ys⟩ _
      refine WL.val (OV.assign rfl) rfl ?_
      refine WL.val (OV.assign rfl) rfl ?_
      refine WL.nil ?_
      refine WX.next ?_
      refine WC.ret ?_
      exact WX.ret2 rfl rfl rfl rfl (fun w' hw => ⟨_, by rw [matchB, hgo, List.drop_eq_nil_of_le (by omega), decide_eq_true ⟨hn, hl, hvk⟩]; rfl, hw.fr⟩)

theorem match_calls (p x : At) (a1 a2 : Option Addr) (c1 c2 : Nat) (h1 : p.args.length ≤ 1048575) (h2 : x.args.length ≤ 1048575) (w : World) (hr1 : RT w a1 p.args) (hr2 : RT w a2 x.args) : Calls Tryz.prog 20 #[atV p a1 c1, atV x a2 c2, .slice none 0 0] w fun e w' => ∃ v, e = .returned (.tuple #[v, .bool (matchB p x)]) ∧ Fr0 w w' := by
  by_cases hn : p.name = x.name
  · by_cases hl : p.args.length = x.args.length
    · by_cases hv : varB p.b = true ∧ x.b.kind = 0
      · exact match_a3 p x a1 a2 c1 c2 h1 h2 w hr1 hr2 hn hl hv.1 hv.2
      · exact match_b p x a1 a2 c1 c2 h1 h2 w hr1 hr2 hn hl hv
    · exact match_a2 p x a1 a2 c1 c2 h1 h2 w hr1 hr2 hn hl
  · exact match_a1 p x a1 a2 c1 c2 h1 h2 w hr1 hr2 hn

end Go.Proofs.YtgiiifadbnpfkaaGreatDoor

namespace Go.Proofs.YtgiiifadbnpfkaaGreatDoor
open Go Go.Hw
set_option linter.unusedSimpArgs false
set_option linter.unusedVariables false
/-- What the pattern asks of a row: columns and numbers. -/
def ckOf (vs : List Tm) : Nat → List Tm → List (Int × Int)
  | _, [] => []
  | i, t :: ts => if varB t = true then ckOf vs (i + 1) ts else ((i : Int), (((numOf vs t).getD 0 : Nat) : Int)) :: ckOf vs (i + 1) ts
/-- All fixed terms have numbers. -/
def allKnown (vs : List Tm) (ts : List Tm) : Prop := ∀ t ∈ ts, varB t = false → (numOf vs t).isSome = true
theorem ck_snoc (vs : List Tm) : ∀ (i : Nat) (ts : List Tm) (t : Tm), ckOf vs i (ts ++ [t]) = ckOf vs i ts ++ (if varB t = true then [] else [(((i + ts.length : Nat) : Int), (((numOf vs t).getD 0 : Nat) : Int))])
  | i, [], t => by simp [ckOf]
  | i, u :: ts, t => by
    simp only [List.cons_append, ckOf]
    rw [ck_snoc vs (i + 1) ts t]
    have e : i + 1 + ts.length = i + (u :: ts).length := by simp; omega
    split <;> simp [e]
theorem ck_len (vs : List Tm) : ∀ (i : Nat) (ts : List Tm), (ckOf vs i ts).length ≤ ts.length
  | _, [] => by simp [ckOf]
  | i, t :: ts => by
    have := ck_len vs (i + 1) ts
    unfold ckOf; split <;> simp <;> omega
theorem ck_col (vs : List Tm) : ∀ (i : Nat) (ts : List Tm), ∀ q ∈ ckOf vs i ts, (i : Int) ≤ q.1 ∧ q.1 < ((i + ts.length : Nat) : Int)
  | i, [], q, h => by simp [ckOf] at h
  | i, t :: ts, q, h => by
    unfold ckOf at h
    split at h
    · have := ck_col vs (i + 1) ts q h
      simp only [List.length_cons]; omega
    · rcases List.mem_cons.1 h with h | h
      · subst h; simp only [List.length_cons]; omega
      · have := ck_col vs (i + 1) ts q h
        simp only [List.length_cons]; omega
def foundF (F : List (At × Nat)) (parts : Int) (p : At) : List At := sortA ((selF F parts).filter (matchB p))
theorem match_pred {p x : At} (h : matchB p x = true) : predOf p = predOf x := by
  unfold matchB at h
  rw [Bool.and_eq_true, decide_eq_true_eq] at h
  unfold predOf; rw [h.1.1, h.1.2.1]
/-- What matches has the pattern's fixed terms in their places. -/
theorem go_fix : ∀ {ts us : List Tm} {m : List (Int × Tm)}, matchGo m ts us = true → ∀ (i : Nat) (t u : Tm), ts[i]? = some t → us[i]? = some u → varB t = false → t = u
  | [], _, _, _, i, t, u, h, _, _ => by simp at h
  | _ :: _, [], _, _, i, t, u, _, h, _ => by simp at h
  | s :: ts, v :: us, m, h, i, t, u, ht, hu, hv => by
    unfold matchGo at h
    cases i with
    | zero =>
      simp only [List.getElem?_cons_zero, Option.some.injEq] at ht hu
      subst ht; subst hu
      rw [if_pos hv] at h
      by_cases he : s = v
      · exact he
      · rw [if_neg he] at h; cases h
    | succ i =>
      simp only [List.getElem?_cons_succ] at ht hu
      split at h
      · split at h
        · exact go_fix h i t u ht hu hv
        · cases h
      · split at h
        · cases h
        · exact go_fix h i t u ht hu hv
theorem match_fix {p x : At} (h : matchB p x = true) {i : Nat} {t u : Tm} (ht : (plc p)[i]? = some t) (hu : (plc x)[i]? = some u) (hv : varB t = false) : t = u := by
  unfold matchB at h
  rw [Bool.and_eq_true] at h
  exact go_fix h.2 i t u ht hu hv

end Go.Proofs.YtgiiifadbnpfkaaGreatDoor

namespace Go.Proofs.YtgiiifadbnpfkaaGreatDoor
open Go Go.Hw
set_option linter.unusedSimpArgs false
set_option linter.unusedVariables false
theorem ck_get (vs : List Tm) : ∀ (i : Nat) (ts : List Tm), ∀ q ∈ ckOf vs i ts, ∃ (j : Nat) (t : Tm), q.1 = ((i + j : Nat) : Int) ∧ ts[j]? = some t ∧ varB t = false ∧ q.2 = (((numOf vs t).getD 0 : Nat) : Int)
  | i, [], q, h => by simp [ckOf] at h
  | i, t :: ts, q, h => by
    unfold ckOf at h
    split at h
    · obtain ⟨j, u, h1, h2, h3, h4⟩ := ck_get vs (i + 1) ts q h
      exact ⟨j + 1, u, by rw [h1]; congr 1; omega, by simpa using h2, h3, h4⟩
    · rename_i hv
      rcases List.mem_cons.1 h with h | h
      · subst h; exact ⟨0, t, by simp, rfl, by simpa using hv, rfl⟩
      · obtain ⟨j, u, h1, h2, h3, h4⟩ := ck_get vs (i + 1) ts q h
        exact ⟨j + 1, u, by rw [h1]; congr 1; omega, by simpa using h2, h3, h4⟩
theorem zip_fst_snd (l : List (Int × Int)) : (l.map (·.1)).zip (l.map (·.2)) = l := by
  induction l with
  | nil => rfl
  | cons q l ih => simp [ih]
theorem plc_atom (vs : List Tm) (p : Pd) (l : List Int) (h : 0 < l.length) : plc (atomOf vs p l) = l.map (valAt vs) := by
  cases l with
  | nil => simp at h
  | cons a l => rfl
/-- What the pattern matches fits what it asks. -/
theorem match_fits {g : BaseG} (ok : BaseOK g) {x : Pd × RelG} (hx : x ∈ g.rs) {q : List Int × Nat} (hq : q ∈ rp x.2) {p : At} (h : matchB p (atomOf g.vs x.1 q.1) = true) :
    fitsL q.1 ((ckOf g.vs 0 (plc p)).map (·.1)) ((ckOf g.vs 0 (plc p)).map (·.2)) := by
  obtain ⟨hl, hin⟩ := rel_row ok hx hq
  refine ⟨by simp, fun c hc => ?_⟩
  rw [zip_fst_snd] at hc
  obtain ⟨j, t, h1, h2, h3, h4⟩ := ck_get g.vs 0 (plc p) c hc
  rw [Nat.zero_add] at h1
  have hp := match_pred h
  have hpl : (plc p).length = q.1.length := by
    have h5 := congrArg Pd.ar hp
    rw [pred_atom ok hx hq] at h5
    show p.args.length + 1 = _
    have h6 : p.args.length = x.1.ar := h5
    omega
  have hj : j < q.1.length := by have := (List.getElem?_eq_some_iff.1 h2).1; omega
  have hu : (plc (atomOf g.vs x.1 q.1))[j]? = some (valAt g.vs q.1[j]) := by
    rw [plc_atom _ _ _ (by omega), List.getElem?_map, List.getElem?_eq_getElem hj]; rfl
  have ht := match_fix h h2 hu h3
  obtain ⟨n, hn, hv⟩ := inVs_get hin hj
  have hgd : q.1.getD j 0 = q.1[j] := by rw [List.getD_eq_getElem?_getD, List.getElem?_eq_getElem hj]; rfl
  rw [hgd] at hn hv
  have hnum : numOf g.vs t = some n := by rw [ht]; exact numOf_nodup ok.vn hv
  refine ⟨by omega, by omega, ?_⟩
  rw [h4, h1, hnum, Int.toNat_natCast, hgd, hn]
  rfl
theorem known_of {g : BaseG} (ok : BaseOK g) {x : Pd × RelG} (hx : x ∈ g.rs) {q : List Int × Nat} (hq : q ∈ rp x.2) {p : At} (h : matchB p (atomOf g.vs x.1 q.1) = true) : allKnown g.vs (plc p) := by
  obtain ⟨hl, hin⟩ := rel_row ok hx hq
  intro t ht hv
  obtain ⟨j, h2⟩ := List.mem_iff_getElem?.1 ht
  have hp := match_pred h
  have hj : j < q.1.length := by
    have h5 := congrArg Pd.ar hp
    rw [pred_atom ok hx hq] at h5
    have h6 : p.args.length = x.1.ar := h5
    have h7 := (List.getElem?_eq_some_iff.1 h2).1
    have h8 : (plc p).length = p.args.length + 1 := rfl
    omega
  have hu : (plc (atomOf g.vs x.1 q.1))[j]? = some (valAt g.vs q.1[j]) := by
    rw [plc_atom _ _ _ (by omega), List.getElem?_map, List.getElem?_eq_getElem hj]; rfl
  have ht2 := match_fix h h2 hu hv
  obtain ⟨n, hn, hval⟩ := inVs_get hin hj
  have hgd : q.1.getD j 0 = q.1[j] := by rw [List.getD_eq_getElem?_getD, List.getElem?_eq_getElem hj]; rfl
  rw [hgd] at hval
  rw [ht2, numOf_nodup ok.vn hval]; rfl
theorem flat_none {α β : Type} {f : α → List β} {l : List α} (h : ∀ x ∈ l, f x = []) : l.flatMap f = [] := by
  induction l with
  | nil => rfl
  | cons x l ih => rw [List.flatMap_cons, h x (.head _), ih fun y hy => h y (.tail _ hy)]; rfl
/-- Only the pattern's own relation has what it matches. -/
theorem found_rel {g : BaseG} (ok : BaseOK g) {p : At} {x : Pd × RelG} {r1 r2 : List (Pd × RelG)} (hs : g.rs = r1 ++ x :: r2) (hx : x.1 = predOf p) (parts : Int) :
    ((selF (factsB g) parts).filter (matchB p)).Perm (((selR (rp x.2) parts ((ckOf g.vs 0 (plc p)).map (·.1)) ((ckOf g.vs 0 (plc p)).map (·.2))).map (atomOf g.vs x.1)).filter (matchB p)) := by
  have hxm : x ∈ g.rs := by rw [hs]; simp
  have hsub : ∀ y ∈ g.rs, (((rp y.2).map fun q => (atomOf g.vs y.1 q.1, q.2)).filter fun q => inP parts q.2).map (·.1) = ((rp y.2).filter fun q => inP parts q.2).map fun q => atomOf g.vs y.1 q.1 := by
    intro y _
    rw [List.filter_map, List.map_map]; rfl
  have hno : ∀ y ∈ g.rs, y.1 ≠ predOf p → (((rp y.2).filter fun q => inP parts q.2).map fun q => atomOf g.vs y.1 q.1).filter (matchB p) = [] := by
    intro y hy hne
    rw [List.filter_eq_nil_iff]
    intro z hz hm
    obtain ⟨q, hq, rfl⟩ := List.mem_map.1 hz
    have h1 := match_pred hm
    rw [pred_atom ok hy (List.mem_filter.1 hq).1] at h1
    exact hne h1.symm
  have e1 : (selF (factsB g) parts).filter (matchB p) = g.rs.flatMap fun y => (((rp y.2).filter fun q => inP parts q.2).map fun q => atomOf g.vs y.1 q.1).filter (matchB p) := by
    unfold selF factsB
    rw [List.filter_flatMap, List.map_flatMap, List.filter_flatMap]
    have : ∀ l : List (Pd × RelG), (∀ y ∈ l, y ∈ g.rs) → l.flatMap (fun a => List.filter (matchB p) ((((rp a.2).map fun q => (atomOf g.vs a.1 q.1, q.2)).filter fun q => inP parts q.2).map (·.1))) = l.flatMap fun y => (((rp y.2).filter fun q => inP parts q.2).map fun q => atomOf g.vs y.1 q.1).filter (matchB p) := by
      intro l hl
      induction l with
      | nil => rfl
      | cons y l ih => rw [List.flatMap_cons, List.flatMap_cons, hsub y (hl y (.head _)), ih fun z hz => hl z (.tail _ hz)]
    exact this g.rs fun y hy => hy
  have hrn := ok.rn
  rw [hs, List.map_append, List.map_cons, List.nodup_append] at hrn
  have e2 : g.rs.flatMap (fun y => (((rp y.2).filter fun q => inP parts q.2).map fun q => atomOf g.vs y.1 q.1).filter (matchB p)) = (((rp x.2).filter fun q => inP parts q.2).map fun q => atomOf g.vs x.1 q.1).filter (matchB p) := by
    rw [hs, List.flatMap_append, List.flatMap_cons, flat_none, flat_none, List.append_nil, List.nil_append]
    · intro y hy
      refine hno y (by rw [hs]; simp [hy]) (fun e => ?_)
      have h3 := (List.nodup_cons.1 hrn.2.1).1
      exact h3 (by rw [hx, ← e]; exact List.mem_map.2 ⟨y, hy, rfl⟩)
    · intro y hy
      refine hno y (by rw [hs]; simp [hy]) (fun e => ?_)
      exact hrn.2.2 y.1 (List.mem_map.2 ⟨y, hy, rfl⟩) x.1 (.head _) (by rw [e, hx])
  rw [e1, e2]
  have h4 : (selR (rp x.2) parts ((ckOf g.vs 0 (plc p)).map (·.1)) ((ckOf g.vs 0 (plc p)).map (·.2))).Perm (((rp x.2).filter fun q => inP parts q.2 && decide (fitsL q.1 ((ckOf g.vs 0 (plc p)).map (·.1)) ((ckOf g.vs 0 (plc p)).map (·.2)))).map (·.1)) := sortR_perm _
  refine List.Perm.trans ?_ ((h4.map _).filter _).symm
  refine List.Perm.of_eq ?_
  rw [List.map_map, List.filter_map, List.filter_map, List.filter_filter, List.filter_filter]
  refine congrArg _ (List.filter_congr fun q hq => ?_)
  cases hm : matchB p (atomOf g.vs x.1 q.1) with
  | false => simp [hm, Function.comp]
  | true =>
    have := match_fits ok hxm hq hm
    simp [hm, Function.comp, this]
/-- No relation of the pattern's own: nothing is found. -/
theorem found_none {g : BaseG} (ok : BaseOK g) {p : At} (h : relOf g.rs (predOf p) = none) (parts : Int) : (selF (factsB g) parts).filter (matchB p) = [] := by
  rw [List.filter_eq_nil_iff]
  intro z hz hm
  obtain ⟨⟨y, n⟩, hq, rfl⟩ := List.mem_map.1 hz
  have h1 := (mem_facts1 ok y).1 (List.mem_map.2 ⟨(y, n), (List.mem_filter.1 hq).1, rfl⟩)
  obtain ⟨gr, l, h2, _⟩ := h1
  rw [← match_pred hm, h] at h2; cases h2
theorem found_unknown {g : BaseG} (ok : BaseOK g) {p : At} (h : ¬ allKnown g.vs (plc p)) (parts : Int) : (selF (factsB g) parts).filter (matchB p) = [] := by
  rw [List.filter_eq_nil_iff]
  intro z hz hm
  obtain ⟨⟨y, n⟩, hq, rfl⟩ := List.mem_map.1 hz
  obtain ⟨x, hx, hq2⟩ := List.mem_flatMap.1 (show (y, n) ∈ g.rs.flatMap _ from (List.mem_filter.1 hq).1)
  obtain ⟨q, hq3, he⟩ := List.mem_map.1 hq2
  simp only [Prod.mk.injEq] at he
  refine h (known_of ok hx hq3 (p := p) ?_)
  rw [he.1]; exact hm

end Go.Proofs.YtgiiifadbnpfkaaGreatDoor
