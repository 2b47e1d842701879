/- Contracts of functions of the program: what each returns and leaves in memory. Printed by gen.py and walk.py. -/
import Derived.Test.YtijplknkpkmblaaGreatDoorZ3
namespace Go.Proofs.YtijplknkpkmblaaGreatDoor
open Go Go.Hw
set_option linter.unusedSimpArgs false
set_option linter.unusedVariables false
set_option maxRecDepth 10000 in
theorem roomy_calls (l : List Int) (a : Option Addr) (m c : Nat) (hm : m ≤ 1099511627776) (w : World) (hr : RI w a m l) : Calls Tryz.prog 18 #[.slice a m c] w fun e w' => ∃ y : Col, e = .returned (encC y) ∧ y.l = l ++ [71, 72, 73] ∧ Turns [] [row 3 1 y.a y.l.length y.c (ints y.l)] w w' := by
  refine enterS (args := [.slice a m c]) (fun _ => False) Tryz.func18 rfl Tryz.ntmps18 rfl rfl ?_
  refine WC.seq ?_
  refine WC.region ?_
  refine WL.val (OV.assign rfl) rfl ?_
  refine WL.nil ?_
  refine WX.next ?_
  refine WC.seq ?_
  refine WC.region ?_
  refine WL.val (OV.assign rfl) rfl ?_
  refine WL.nil ?_
  refine WX.next ?_
  refine WC.seq ?_
  have hml := hr.1
  refine WC.weak (S' := Sat w (fun _ => False) (fun b => b < w.heap.size) w ([row 3 1 none 0 0 []])) (fun w' hw => hw.rowNil 3 1) ?_
  refine WC.region ?_
  refine WL.val (OV.move rfl) rfl ?_
  refine WL.val (OV.move rfl) rfl ?_
  refine WL.append (news := ints l) rfl rfl T.apI (fun _ hw => Src.of_ri hml hr.2.1 (fun _ hw => hr.keeps hw.keeps)) (ints_one _) ⟨by omega, by unfold maxLen; omega⟩ rfl ?_
  intro a6 c6
  rw [Nat.zero_add]
  refine WL.val (OV.assign rfl) rfl ?_
  refine WL.nil ?_
  refine WX.next ?_
  refine WC.seq ?_
  refine WC.region ?_
  refine WL.val (OV.move rfl) rfl ?_
  refine WL.buildSliceN (xs := [.const (.int .i64 71), .const (.int .i64 72), .const (.int .i64 73)]) (vs := ints [71, 72, 73]) rfl T.u32 T.z3 T.zr3 rfl rfl rfl (by decide) rfl ?_
  intro b8
  refine WL.focus perm1 (WL.append (news := ints [71, 72, 73]) rfl rfl T.apI (fun _ _ => own_src (.tail _ (.head _)) rfl) (ints_one _) ⟨by omega, by unfold maxLen; omega⟩ rfl ?_)
  intro a9 c9
  refine WL.val (OV.assign rfl) rfl ?_
  refine WL.nil ?_
  refine WX.next ?_
  refine WC.ret ?_
  have hl : (l ++ [71, 72, 73]).length = m + 3 := by simp [hml]
  exact WX.ret1 rfl rfl rfl (fun w' hw => ⟨⟨a9, c9, l ++ [71, 72, 73]⟩, by rw [encC, hl], rfl, by
    have h2 := hw.pick [[_], [_]] [0] 2 rfl (by decide) (by decide)
    show Turns [] [row 3 1 a9 (l ++ [71, 72, 73]).length c9 (ints (l ++ [71, 72, 73]))] w w'
    rw [hl, show ints (l ++ [71, 72, 73]) = [] ++ ints l ++ ints [71, 72, 73] by simp [ints]]
    exact Sat.turned0 h2⟩)

set_option maxRecDepth 10000 in
theorem begin_calls (wd : Nat) (hwd : wd ≤ 9223372036854775807) (w : World) : Calls Tryz.prog 7 #[.int .i64 (wd : Int)] w fun e w' => ∃ g q, e = .returned (.tuple #[.agg #[ptr g.r, ptr q.p], .bool true]) ∧ RelOK g ∧ RefOK q ∧ g.width = wd ∧ q.width = wd ∧ rp g = [] ∧ refL q = [] ∧ Turns [] (relA g ++ refA q) w w' := by
  refine enterS (args := [.int .i64 (wd : Int)]) (fun _ => False) Tryz.func7 rfl Tryz.ntmps7 rfl rfl ?_
  refine WC.seq ?_
  refine WC.region ?_
  refine WL.alloc T.zr28 rfl ?_
  intro b2
  refine WL.val (OV.assign rfl) rfl ?_
  refine WL.nil ?_
  refine WX.next ?_
  refine WC.seq ?_
  refine WC.region ?_
  refine WL.val (OV.move rfl) rfl ?_
  refine WL.callTA (ι := Nat × Nat × Nat) (vv := fun q => .tuple #[ptr q.1, .int .i64 0]) (pp := fun _ => True) [] (AA := fun q => relA (RelG.empty q.1 q.2.1 q.2.2 wd)) rfl (by kernel_rfl) rfl rfl (fun w' hw' hH => (new_calls wd w').mono (fun en w'' ⟨r, mb, ib, h1, h2⟩ => ⟨(r, mb, ib), h1, trivial, h2⟩)) ?_
  rintro ⟨r, mb, ib⟩ _
  have ok0 : RelOK (RelG.empty r mb ib wd) := RelOK.empty hwd
  refine WL.val (OV.move rfl) rfl ?_
  refine WL.val (OV.extract rfl rfl) rfl ?_
  refine WL.val (OV.extract rfl rfl) rfl ?_
  refine WL.val (OV.assign rfl) rfl ?_
  refine WL.val (OV.assign rfl) rfl ?_
  refine WL.nil ?_
  refine WX.next ?_
  refine WC.seq ?_
  refine WC.region ?_
  refine WL.val (OV.move rfl) rfl ?_
  refine WL.callTA (ι := Nat) (vv := fun q => .tuple #[ptr q, .int .i64 0]) (pp := fun _ => True) [] (AA := fun q => refA (RefG.empty q wd)) rfl (by kernel_rfl) rfl rfl (fun w' hw' hH => (refNew_calls wd w').mono (fun en w'' ⟨p, h1, h2⟩ => ⟨p, h1, trivial, h2⟩)) ?_
  intro p _
  refine WL.val (OV.move rfl) rfl ?_
  refine WL.val (OV.extract rfl rfl) rfl ?_
  refine WL.val (OV.extract rfl rfl) rfl ?_
  refine WL.val (OV.assign rfl) rfl ?_
  refine WL.val (OV.assign rfl) rfl ?_
  refine WL.nil ?_
  refine WX.next ?_
  refine WC.seq ?_
  refine WC.seq ?_
  refine WC.region ?_
  refine WL.val (OV.move rfl) rfl ?_
  refine WL.val ((OV.neqPN (pa := some ⟨r, 0, none⟩) T.u25 rfl rfl).cast (u := .bool true) rfl) rfl ?_
  refine WL.val (OV.move rfl) rfl ?_
  refine WL.known (t := 20) (b := true) rfl (by rfl) ?_
  refine WL.go (b := true) rfl rfl rfl ?_
  refine WL.val (OV.move rfl) rfl ?_
  refine WL.go (b := true) rfl rfl rfl ?_
  refine WL.focus (ow' := relA (RelG.empty r mb ib wd) ++ (refA (RefG.empty p wd) ++ [own b2 (.cells [Value.pointer none, .pointer none].toArray 28 (0, 0))])) app_swap (WL.callTA (ι := FB) (vv := fun F => F.fn) (pp := fun F => RelOK (colG (RelG.empty r mb ib wd) F.col)) (relA (RelG.empty r mb ib wd)) (AA := fun F => relA (colG (RelG.empty r mb ib wd) F.col) ++ boxA F) rfl (by kernel_rfl) rfl rfl (fun w' hw' hH => (find_calls (RelG.empty r mb ib wd) ok0 7 [] [] none 0 0 none 0 0 i64s_nil i64s_nil (by omega) (by omega) w' (RI.nil _) (RI.nil _) (fun b hb => by cases hb) (fun b hb => by cases hb) hH).mono (fun en w'' ⟨F, h1, h2, h3, h4, h5, h6⟩ => ⟨F, h1, h5, h6⟩)) ?_)
  intro F okF
  refine WL.go (b := true) rfl rfl rfl ?_
  refine WL.val (OV.eqlFN T.u42 rfl rfl) rfl ?_
  refine WL.val (OV.pickT rfl rfl) rfl ?_
  refine WL.nil ?_
  refine WX.next ?_
  refine WC.condF (show _ = some (Value.bool false) from by rfl) ?_
  refine WC.skip ?_
  refine WX.next ?_
  refine WC.seq ?_
  refine WC.region ?_
  refine WL.val (OV.move rfl) rfl ?_
  refine WL.val (OV.move rfl) rfl ?_
  refine WL.val (OV.buildStruct (xs := [(0, .tmp 26), (1, .tmp 27)]) (pl := [(0, 1), (1, 1)]) (cs := [ptr r, ptr p]) T.u28 T.zr28 (by kernel_rfl) rfl (fill_cons (us := [_]) rfl rfl (by first | decide | simp) (fill_cons (us := [_]) rfl rfl (by first | decide | simp) rfl))) rfl ?_
  refine WL.val (OV.move rfl) rfl ?_
  refine WL.val (OV.move rfl) rfl ?_
  refine WL.val (OV.eql rfl rfl) rfl ?_
  refine WL.val (OV.move rfl) rfl ?_
  refine WL.known (t := 32) (b := true) rfl (by rfl) ?_
  refine WL.go (b := true) rfl rfl rfl ?_
  refine WL.val (OV.move rfl) rfl ?_
  refine WL.go (b := true) rfl rfl rfl ?_
  refine WL.val ((OV.eqlPN (pa := some ⟨r, 0, none⟩) T.u25 rfl rfl).cast (u := .bool false) rfl) rfl ?_
  refine WL.go (b := true) rfl rfl rfl ?_
  refine WL.val (OV.move rfl) rfl ?_
  refine WL.go (b := true) rfl rfl rfl ?_
  refine WL.val (OV.neq rfl rfl) rfl ?_
  refine WL.go (b := true) rfl rfl rfl ?_
  refine WL.val (OV.eqlB T.u4 rfl rfl) rfl ?_
  refine WL.val (OV.pickT rfl rfl) rfl ?_
  refine WL.focus (ow' := own b2 (.cells [Value.pointer none, .pointer none].toArray 28 (0, 0)) :: (relA (colG (RelG.empty r mb ib wd) F.col) ++ boxA F ++ refA (RefG.empty p wd))) (List.perm_append_comm (l₁ := [_])|>.trans (by rw [List.append_assoc]; exact .refl _)) (WL.storeAll (vs := [ptr r, ptr p]) rfl rfl rfl T.z28 rfl ?_)
  refine WL.val (OV.assign rfl) rfl ?_
  refine WL.nil ?_
  refine WX.next ?_
  refine WC.ret ?_
  refine WX.retC2 (cs := [ptr r, ptr p]) rfl rfl rfl rfl T.u28 rfl T.z28 (fun w' hw j v hj => cell_own hw (.head _) (by simpa using hj)) (fun w' hw => ⟨colG (RelG.empty r mb ib wd) F.col, RefG.empty p wd, rfl, okF, RefOK.empty hwd, rfl, rfl, rfl, rfl, ?_⟩)
  exact (hw.pick [[_], relA (colG (RelG.empty r mb ib wd) F.col), boxA F, refA (RefG.empty p wd)] [1, 3] 4 rfl (by decide) (by decide)).turned0

set_option maxRecDepth 10000 in
theorem begin_neg (wd : Int) (hwd : wd < 0) (w : World) : Calls Tryz.prog 7 #[.int .i64 wd] w fun e w' => e = .returned (.tuple #[.agg #[.pointer none, .pointer none], .bool true]) ∧ Fr0 w w' := by
  refine enterS (args := [.int .i64 wd]) (fun _ => False) Tryz.func7 rfl Tryz.ntmps7 rfl rfl ?_
  refine WC.seq ?_
  refine WC.region ?_
  refine WL.alloc T.zr28 rfl ?_
  intro b2
  refine WL.val (OV.assign rfl) rfl ?_
  refine WL.nil ?_
  refine WX.next ?_
  refine WC.seq ?_
  refine WC.region ?_
  refine WL.val (OV.move rfl) rfl ?_
  refine WL.call0 (v := .tuple #[.pointer none, .int .i64 71]) (by kernel_rfl) rfl rfl (fun w' hw' => new_neg wd hwd w') ?_
  refine WL.val (OV.move rfl) rfl ?_
  refine WL.val (OV.extract rfl rfl) rfl ?_
  refine WL.val (OV.extract rfl rfl) rfl ?_
  refine WL.val (OV.assign rfl) rfl ?_
  refine WL.val (OV.assign rfl) rfl ?_
  refine WL.nil ?_
  refine WX.next ?_
  refine WC.seq ?_
  refine WC.region ?_
  refine WL.val (OV.move rfl) rfl ?_
  refine WL.call0 (v := .tuple #[.pointer none, .int .i64 71]) (by kernel_rfl) rfl rfl (fun w' hw' => refNew_neg wd hwd w') ?_
  refine WL.val (OV.move rfl) rfl ?_
  refine WL.val (OV.extract rfl rfl) rfl ?_
  refine WL.val (OV.extract rfl rfl) rfl ?_
  refine WL.val (OV.assign rfl) rfl ?_
  refine WL.val (OV.assign rfl) rfl ?_
  refine WL.nil ?_
  refine WX.next ?_
  refine WC.seq ?_
  refine WC.seq ?_
  refine WC.region ?_
  refine WL.val (OV.move rfl) rfl ?_
  refine WL.val ((OV.neqPN (pa := none) T.u25 rfl rfl).cast (u := .bool false) rfl) rfl ?_
  refine WL.val (OV.move rfl) rfl ?_
  refine WL.known (t := 20) (b := false) rfl (by rfl) ?_
  refine WL.skip (b := false) rfl rfl rfl rfl ?_
  refine WL.skip (b := false) rfl rfl rfl rfl ?_
  refine WL.skip (b := false) rfl rfl rfl rfl ?_
  refine WL.val (OV.pickF rfl rfl) rfl ?_
  refine WL.nil ?_
  refine WX.next ?_
  refine WC.condF (show _ = some (Value.bool false) from by rfl) ?_
  refine WC.skip ?_
  refine WX.next ?_
  refine WC.seq ?_
  refine WC.region ?_
  refine WL.val (OV.move rfl) rfl ?_
  refine WL.val (OV.move rfl) rfl ?_
  refine WL.val (OV.buildStruct (xs := [(0, .tmp 26), (1, .tmp 27)]) (pl := [(0, 1), (1, 1)]) (cs := [.pointer none, .pointer none]) T.u28 T.zr28 (by kernel_rfl) rfl (fill_cons (us := [_]) rfl rfl (by first | decide | simp) (fill_cons (us := [_]) rfl rfl (by first | decide | simp) rfl))) rfl ?_
  refine WL.val (OV.move rfl) rfl ?_
  refine WL.val (OV.move rfl) rfl ?_
  refine WL.val (OV.eql rfl rfl) rfl ?_
  refine WL.val (OV.move rfl) rfl ?_
  refine WL.known (t := 32) (b := true) rfl (by rfl) ?_
  refine WL.go (b := true) rfl rfl rfl ?_
  refine WL.val (OV.move rfl) rfl ?_
  refine WL.go (b := true) rfl rfl rfl ?_
  refine WL.val ((OV.eqlPN (pa := none) T.u25 rfl rfl).cast (u := .bool true) rfl) rfl ?_
  refine WL.go (b := true) rfl rfl rfl ?_
  refine WL.val (OV.move rfl) rfl ?_
  refine WL.go (b := true) rfl rfl rfl ?_
  refine WL.val (OV.neq rfl rfl) rfl ?_
  refine WL.go (b := true) rfl rfl rfl ?_
  refine WL.val (OV.eqlB T.u4 rfl rfl) rfl ?_
  refine WL.val (OV.pickT rfl rfl) rfl ?_
  refine WL.storeAll (vs := [.pointer none, .pointer none]) rfl rfl rfl T.z28 rfl ?_
  refine WL.val (OV.assign rfl) rfl ?_
  refine WL.nil ?_
  refine WX.next ?_
  refine WC.ret ?_
  exact WX.retC2 (cs := [.pointer none, .pointer none]) rfl rfl rfl rfl T.u28 rfl T.z28 (fun w' hw j v hj => cell_own hw (.head _) (by simpa using hj)) (fun w' hw => ⟨rfl, hw.fr⟩)

end Go.Proofs.YtijplknkpkmblaaGreatDoor
