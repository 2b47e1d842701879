/- Contracts of functions of the program: what each returns and leaves in memory. Printed by gen.py and walk.py. -/
import Derived.Test.YtplebagdajdcnaaDoorP6
namespace Go.Proofs.YtplebagdajdcnaaDoor
open Go Go.Hw
set_option linter.unusedSimpArgs false
set_option linter.unusedVariables false
set_option maxRecDepth 10000 in
set_option maxHeartbeats 1000000 in
theorem stream_calls (l1 l2 l3 : List (List UInt8)) (a1 a2 a3 : Option Addr) (n1 n2 n3 c1 c2 c3 : Nat) (asked : Int) (hk : -9223372036854775808 ≤ asked ∧ asked ≤ 9223372036854775807) (hs1 : l1.flatten.length ≤ 1099511627776) (hs2 : l2.flatten.length ≤ 1099511627776) (hs3 : l3.flatten.length ≤ 1099511627776) (hn1 : n1 ≤ 1099511627776) (hn2 : n2 ≤ 1099511627776) (hn3 : n3 ≤ 1099511627776) (w : World) (h1 : RL w a1 n1 l1) (h2 : RL w a2 n2 l2) (h3 : RL w a3 n3 l3) (hF : Tab w 1 h0W) (hK : Tab w 3 kW) : Calls Tryd.prog 9 #[.slice a1 n1 c1, .slice a2 n2 c2, .slice a3 n3 c3, .int .i64 asked] w fun e w' => e = .returned (.bool true) ∧ Fr0 w w' := by
  refine enterS (args := [.slice a1 n1 c1, .slice a2 n2 c2, .slice a3 n3 c3, .int .i64 asked]) (fun _ => False) Tryd.func9 rfl Tryd.ntmps9 rfl rfl ?_
  refine WC.seq ?_
  refine WC.region ?_
  refine WL.val (OV.assign rfl) rfl ?_
  refine WL.nil ?_
  refine WX.next ?_
  refine WC.seq ?_
  refine WC.seq ?_
  refine WC.region ?_
  refine WL.val (OV.move rfl) rfl ?_
  refine WL.val (OV.lss rfl rfl) rfl ?_
  refine WL.nil ?_
  refine WX.next ?_
  refine WC.cond rfl (fun c16 => ?_) (fun c16 => ?_)
  · simp only [decide_eq_true_eq, decide_eq_false_iff_not, Bool.not_eq_true', Bool.not_eq_false'] at c16
    refine WC.region ?_
    refine WL.val (OV.move rfl) rfl ?_
    refine WL.val (OV.addI rfl rfl (by omega)) rfl ?_
    refine WL.val ((OV.neg rfl).cast (u := .int .i64 (-(asked + 1))) (by rw [wrap_i64 (by omega)])) rfl ?_
    refine WL.val (OV.assign rfl) rfl ?_
    refine WL.nil ?_
    refine WX.next ?_
    refine WC.seq ?_
    refine WC.region ?_
    refine WL.callF (it := fun b => own b (.cells (HC [] (List.replicate 64 0)).toArray 71 (0, 0))) (by kernel_rfl) rfl rfl (fun w' hw => new_calls w' (hF.sat hw)) ?_
    intro b20 _
    refine WL.val (OV.assign rfl) rfl ?_
    refine WL.nil ?_
    refine WX.next ?_
    refine WC.seq ?_
    refine WC.seq ?_
    refine WC.region ?_
    refine WL.val (OV.move rfl) rfl ?_
    refine WL.val (OV.eqlNil T.u46 rfl rfl) rfl ?_
    refine WL.val (OV.move rfl) rfl ?_
    refine WL.known (t := 23) (b := false) rfl (by rfl) ?_
    refine WL.go (b := false) rfl rfl rfl ?_
    refine WL.call0 (by kernel_rfl) rfl rfl (fun w' hw => head_calls w' (hF.sat hw) (hK.sat hw)) ?_
    refine WL.go (b := false) rfl rfl rfl ?_
    refine WL.val (OV.not rfl) rfl ?_
    refine WL.val (OV.pickF rfl rfl) rfl ?_
    refine WL.nil ?_
    refine WX.next ?_
    refine WC.condF rfl ?_
    refine WC.skip ?_
    refine WX.next ?_
    refine WC.seq ?_
    refine WC.region ?_
    refine WL.val (OV.move rfl) rfl ?_
    refine WL.val (OV.move rfl) rfl ?_
    refine WL.val (OV.move rfl) rfl ?_
    refine (WL.callM (ι := List UInt8) (vv := fun _ => .tuple #[]) (pp := fun p' => HP ([] ++ l1.flatten) p') (oo := fun p' => Obj.cells (HC ([] ++ l1.flatten) p').toArray 71) (by kernel_rfl) rfl rfl (fun w' hw => (feed_calls [] (List.replicate 64 0) b20 w.heap.size l1 a1 n1 c1 _ (by omega) (by (try simp only [List.length_append, List.length_nil]); omega) (by omega) ((hw.lt _ (.head _) b20 rfl).2.2.resolve_left (fun h => h)) w' hp_nil (h1.toB.sat hw) (hw.it _ (.head _)) (hK.ne (by decide) hw (.head _)) (hK.sat hw)).mono (fun _ _ ⟨x, h1, h2, h3, h4⟩ => ⟨x, h1, h2, h3, h4⟩)) ?_)
    intro p30 hp30
    rw [List.nil_append] at hp30
    rw [List.nil_append]
    refine WL.nil ?_
    refine WX.next ?_
    refine WC.seq ?_
    refine WC.region ?_
    refine WL.val (OV.move rfl) rfl ?_
    refine WL.callF (it := fun b => own b (.cells (HC l1.flatten p30).toArray 71 (0, 0))) (by kernel_rfl) rfl rfl (fun w' hw => copy_calls l1.flatten p30 b20 w' hp30 (hw.it _ (.head _))) ?_
    intro bc32 _
    refine WL.val (OV.assign rfl) rfl ?_
    refine WL.nil ?_
    refine WX.next ?_
    refine WC.seq ?_
    refine WC.seq ?_
    refine WC.region ?_
    refine WL.val (OV.move rfl) rfl ?_
    refine WL.val (OV.eqlNil T.u46 rfl rfl) rfl ?_
    refine WL.nil ?_
    refine WX.next ?_
    refine WC.condF rfl ?_
    refine WC.skip ?_
    refine WX.next ?_
    refine WC.seq ?_
    refine WC.region ?_
    refine WL.val (OV.move rfl) rfl ?_
    refine WL.val (OV.move rfl) rfl ?_
    refine WL.val (OV.move rfl) rfl ?_
    refine (WL.callM (ι := List UInt8) (vv := fun _ => .tuple #[]) (pp := fun p' => HP (l1.flatten ++ l2.flatten) p') (oo := fun p' => Obj.cells (HC (l1.flatten ++ l2.flatten) p').toArray 71) (by kernel_rfl) rfl rfl (fun w' hw => (feed_calls l1.flatten p30 bc32 w.heap.size l2 a2 n2 c2 _ (by omega) (by (try simp only [List.length_append, List.length_nil]); omega) (by omega) ((hw.lt _ (.head _) bc32 rfl).2.2.resolve_left (fun h => h)) w' hp30 (h2.toB.sat hw) (hw.it _ (.head _)) (hK.ne (by decide) hw (.head _)) (hK.sat hw)).mono (fun _ _ ⟨x, h1, h2, h3, h4⟩ => ⟨x, h1, h2, h3, h4⟩)) ?_)
    intro p38 hp38
    refine WL.nil ?_
    refine WX.next ?_
    refine WC.seq ?_
    refine WC.region ?_
    refine WL.val (OV.move rfl) rfl ?_
    refine WL.callF (it := fun b => own b (.cells (HC (l1.flatten ++ l2.flatten) p38).toArray 71 (0, 0))) (by kernel_rfl) rfl rfl (fun w' hw => copy_calls (l1.flatten ++ l2.flatten) p38 bc32 w' hp38 (hw.it _ (.head _))) ?_
    intro b40 _
    refine WL.val (OV.assign rfl) rfl ?_
    refine WL.nil ?_
    refine WX.next ?_
    refine WC.seq ?_
    refine WC.region ?_
    refine WL.val (OV.move rfl) rfl ?_
    refine WL.val (OV.move rfl) rfl ?_
    refine WL.val (OV.move rfl) rfl ?_
    refine WL.focus perm2 (WL.callM (ι := List UInt8) (vv := fun _ => .tuple #[]) (pp := fun p' => HP (l1.flatten ++ l3.flatten) p') (oo := fun p' => Obj.cells (HC (l1.flatten ++ l3.flatten) p').toArray 71) (by kernel_rfl) rfl rfl (fun w' hw => (feed_calls l1.flatten p30 b20 w.heap.size l3 a3 n3 c3 _ (by omega) (by (try simp only [List.length_append, List.length_nil]); omega) (by omega) ((hw.lt _ (.head _) b20 rfl).2.2.resolve_left (fun h => h)) w' hp30 (h3.toB.sat hw) (hw.it _ (.head _)) (hK.ne (by decide) hw (.head _)) (hK.sat hw)).mono (fun _ _ ⟨x, h1, h2, h3, h4⟩ => ⟨x, h1, h2, h3, h4⟩)) ?_)
    intro p44 hp44
    refine WL.nil ?_
    refine WX.next ?_
    refine WC.seq ?_
    refine WC.seq ?_
    refine WC.region ?_
    refine WL.val (OV.move rfl) rfl ?_
    refine WL.val (OV.eqlNil T.u46 rfl rfl) rfl ?_
    refine WL.nil ?_
    refine WX.next ?_
    refine WC.condF rfl ?_
    refine WC.skip ?_
    refine WX.next ?_
    refine WC.seq ?_
    refine WC.region ?_
    refine WL.val (OV.move rfl) rfl ?_
    refine WL.val (OV.move rfl) rfl ?_
    refine WL.val (OV.move rfl) rfl ?_
    refine WL.focus perm2 (WL.callM (ι := List UInt8) (vv := fun _ => .tuple #[]) (pp := fun p' => HP ((l1.flatten ++ l2.flatten) ++ l3.flatten) p') (oo := fun p' => Obj.cells (HC ((l1.flatten ++ l2.flatten) ++ l3.flatten) p').toArray 71) (by kernel_rfl) rfl rfl (fun w' hw => (feed_calls (l1.flatten ++ l2.flatten) p38 bc32 w.heap.size l3 a3 n3 c3 _ (by omega) (by (try simp only [List.length_append, List.length_nil]); omega) (by omega) ((hw.lt _ (.head _) bc32 rfl).2.2.resolve_left (fun h => h)) w' hp38 (h3.toB.sat hw) (hw.it _ (.head _)) (hK.ne (by decide) hw (.head _)) (hK.sat hw)).mono (fun _ _ ⟨x, h1, h2, h3, h4⟩ => ⟨x, h1, h2, h3, h4⟩)) ?_)
    intro p50 hp50
    refine WL.nil ?_
    refine WX.next ?_
    refine WC.seq ?_
    refine WC.region ?_
    refine WL.val (OV.move rfl) rfl ?_
    refine WL.callF (it := fun q : Option Addr × Nat => row 5 1 q.1 l1.flatten.length q.2 (u8s l1.flatten)) (by kernel_rfl) rfl rfl (fun w' hw => joinAll_calls l1 a1 n1 c1 (by omega) (by omega) w' (h1.sat hw)) ?_
    rintro ⟨a52, c52⟩ _
    refine WL.val (OV.move rfl) rfl ?_
    refine WL.callF (it := fun q : Option Addr × Nat => row 5 1 q.1 l2.flatten.length q.2 (u8s l2.flatten)) (by kernel_rfl) rfl rfl (fun w' hw => joinAll_calls l2 a2 n2 c2 (by omega) (by omega) w' (h2.sat hw)) ?_
    rintro ⟨a54, c54⟩ _
    refine WL.focus perm1 (WL.append (bytes := 1) rfl rfl (by kernel_rfl) (fun _ hw => row_src (.tail _ (.head _)) hw) (u8s_one _) (by simp only [maxLen]; omega) rfl ?_)
    intro a55 c55
    rw [← u8s_append]
    refine WL.val (OV.assign rfl) rfl ?_
    refine WL.nil ?_
    refine WX.next ?_
    refine WC.seq ?_
    refine WC.region ?_
    refine WL.val (OV.move rfl) rfl ?_
    refine WL.callF (it := fun q : Option Addr × Nat => row 5 1 q.1 l1.flatten.length q.2 (u8s l1.flatten)) (by kernel_rfl) rfl rfl (fun w' hw => joinAll_calls l1 a1 n1 c1 (by omega) (by omega) w' (h1.sat hw)) ?_
    rintro ⟨a57, c57⟩ _
    refine WL.val (OV.move rfl) rfl ?_
    refine WL.callF (it := fun q : Option Addr × Nat => row 5 1 q.1 l3.flatten.length q.2 (u8s l3.flatten)) (by kernel_rfl) rfl rfl (fun w' hw => joinAll_calls l3 a3 n3 c3 (by omega) (by omega) w' (h3.sat hw)) ?_
    rintro ⟨a59, c59⟩ _
    refine WL.focus perm1 (WL.append (bytes := 1) rfl rfl (by kernel_rfl) (fun _ hw => row_src (.tail _ (.head _)) hw) (u8s_one _) (by simp only [maxLen]; omega) rfl ?_)
    intro a60 c60
    rw [← u8s_append]
    refine WL.val (OV.assign rfl) rfl ?_
    refine WL.nil ?_
    refine WX.next ?_
    refine WC.seq ?_
    refine WC.region ?_
    refine WL.val (OV.move rfl) rfl ?_
    refine WL.callF (it := fun q : Option Addr × Nat => row 5 1 q.1 l1.flatten.length q.2 (u8s l1.flatten)) (by kernel_rfl) rfl rfl (fun w' hw => joinAll_calls l1 a1 n1 c1 (by omega) (by omega) w' (h1.sat hw)) ?_
    rintro ⟨a62, c62⟩ _
    refine WL.val (OV.move rfl) rfl ?_
    refine WL.callF (it := fun q : Option Addr × Nat => row 5 1 q.1 l2.flatten.length q.2 (u8s l2.flatten)) (by kernel_rfl) rfl rfl (fun w' hw => joinAll_calls l2 a2 n2 c2 (by omega) (by omega) w' (h2.sat hw)) ?_
    rintro ⟨a64, c64⟩ _
    refine WL.focus perm1 (WL.append (bytes := 1) rfl rfl (by kernel_rfl) (fun _ hw => row_src (.tail _ (.head _)) hw) (u8s_one _) (by simp only [maxLen]; omega) rfl ?_)
    intro a65 c65
    rw [← u8s_append]
    refine WL.val (OV.move rfl) rfl ?_
    refine WL.callF (it := fun q : Option Addr × Nat => row 5 1 q.1 l3.flatten.length q.2 (u8s l3.flatten)) (by kernel_rfl) rfl rfl (fun w' hw => joinAll_calls l3 a3 n3 c3 (by omega) (by omega) w' (h3.sat hw)) ?_
    rintro ⟨a67, c67⟩ _
    refine WL.focus perm1 (WL.append (bytes := 1) rfl rfl (by kernel_rfl) (fun _ hw => row_src (.tail _ (.head _)) hw) (u8s_one _) (by simp only [maxLen]; omega) rfl ?_)
    intro a68 c68
    rw [← u8s_append]
    refine WL.val (OV.assign rfl) rfl ?_
    refine WL.nil ?_
    refine WX.next ?_
    refine WC.seq ?_
    refine WC.seq ?_
    refine WC.region ?_
    refine WL.val (OV.move rfl) rfl ?_
    refine WL.call0 (by kernel_rfl) rfl rfl (fun w' hw => hsum_calls (l1.flatten ++ l3.flatten) p44 b20 (by (try simp only [List.length_append, List.length_nil]); omega) w' hp44 (hw.it _ (.tail _ (.tail _ (.tail _ (.tail _ (.tail _ (.tail _ (.tail _ (.tail _ (.head _)))))))))) (hK.sat hw)) ?_
    refine WL.val (OV.move rfl) rfl ?_
    refine WL.call0 (by kernel_rfl) rfl rfl (fun w' hw => sum_calls (l1.flatten ++ l3.flatten) a60 ((l1.flatten.length + l3.flatten.length)) c60 (RB.of_row hw (.tail _ (.tail _ (.tail _ (.head _))))).2 (by omega) w' (RB.of_row hw (.tail _ (.tail _ (.tail _ (.head _))))).1 (hF.sat hw) (hK.sat hw)) ?_
    refine WL.val ((OV.neqA T.u25 T.u5 T.z5 (by kernel_rfl) rfl rfl (shaD_length _) (shaD_length _)).cast (u := .bool false) (by simp)) rfl ?_
    refine WL.val (OV.move rfl) rfl ?_
    refine WL.known (t := 74) (b := false) rfl (by rfl) ?_
    refine WL.go (b := false) rfl rfl rfl ?_
    refine WL.val (OV.move rfl) rfl ?_
    refine WL.go (b := false) rfl rfl rfl ?_
    refine WL.call0 (by kernel_rfl) rfl rfl (fun w' hw => hsum_calls (l1.flatten ++ l2.flatten) p38 b40 (by (try simp only [List.length_append, List.length_nil]); omega) w' hp38 (hw.it _ (.tail _ (.tail _ (.tail _ (.tail _ (.tail _ (.tail _ (.tail _ (.tail _ (.tail _ (.head _))))))))))) (hK.sat hw)) ?_
    refine WL.go (b := false) rfl rfl rfl ?_
    refine WL.val (OV.move rfl) rfl ?_
    refine WL.go (b := false) rfl rfl rfl ?_
    refine WL.call0 (by kernel_rfl) rfl rfl (fun w' hw => sum_calls (l1.flatten ++ l2.flatten) a55 ((l1.flatten.length + l2.flatten.length)) c55 (RB.of_row hw (.tail _ (.tail _ (.tail _ (.tail _ (.tail _ (.head _))))))).2 (by omega) w' (RB.of_row hw (.tail _ (.tail _ (.tail _ (.tail _ (.tail _ (.head _))))))).1 (hF.sat hw) (hK.sat hw)) ?_
    refine WL.go (b := false) rfl rfl rfl ?_
    refine WL.val ((OV.neqA T.u25 T.u5 T.z5 (by kernel_rfl) rfl rfl (shaD_length _) (shaD_length _)).cast (u := .bool false) (by simp)) rfl ?_
    refine WL.val (OV.pickF rfl rfl) rfl ?_
    refine WL.val (OV.move rfl) rfl ?_
    refine WL.known (t := 81) (b := false) rfl (by rfl) ?_
    refine WL.go (b := false) rfl rfl rfl ?_
    refine WL.val (OV.move rfl) rfl ?_
    refine WL.go (b := false) rfl rfl rfl ?_
    refine WL.call0 (by kernel_rfl) rfl rfl (fun w' hw => hsum_calls ((l1.flatten ++ l2.flatten) ++ l3.flatten) p50 bc32 (by (try simp only [List.length_append, List.length_nil]); omega) w' hp50 (hw.it _ (.tail _ (.tail _ (.tail _ (.tail _ (.tail _ (.tail _ (.tail _ (.head _))))))))) (hK.sat hw)) ?_
    refine WL.go (b := false) rfl rfl rfl ?_
    refine WL.val (OV.move rfl) rfl ?_
    refine WL.go (b := false) rfl rfl rfl ?_
    refine WL.call0 (by kernel_rfl) rfl rfl (fun w' hw => sum_calls ((l1.flatten ++ l2.flatten) ++ l3.flatten) a68 ((l1.flatten.length + l2.flatten.length + l3.flatten.length)) c68 (RB.of_row hw (.head _)).2 (by omega) w' (RB.of_row hw (.head _)).1 (hF.sat hw) (hK.sat hw)) ?_
    refine WL.go (b := false) rfl rfl rfl ?_
    refine WL.val ((OV.neqA T.u25 T.u5 T.z5 (by kernel_rfl) rfl rfl (shaD_length _) (shaD_length _)).cast (u := .bool false) (by simp)) rfl ?_
    refine WL.val (OV.pickF rfl rfl) rfl ?_
    refine WL.nil ?_
    refine WX.next ?_
    refine WC.condF rfl ?_
    refine WC.skip ?_
    refine WX.next ?_
    refine WC.seq ?_
    refine WC.region ?_
    refine WL.val (OV.move rfl) rfl ?_
    refine WL.call0 (by kernel_rfl) rfl rfl (fun w' hw => len_calls (l1.flatten ++ l3.flatten) p44 b20 w' hp44 (hw.it _ (.tail _ (.tail _ (.tail _ (.tail _ (.tail _ (.tail _ (.tail _ (.tail _ (.head _))))))))))) ?_
    refine WL.val (OV.move rfl) rfl ?_
    first
    | (refine WL.val (OV.lenSlice rfl T.u22) rfl ?_)
    | (refine WL.val (OV.lenStr rfl T.u22) rfl ?_)
    refine WL.val ((OV.eql rfl rfl).cast (u := .bool true) (by rw [decide_eq_true (by simp only [List.length_append])])) rfl ?_
    refine WL.val (OV.move rfl) rfl ?_
    refine WL.known (t := 93) (b := true) rfl (by rfl) ?_
    refine WL.go (b := true) rfl rfl rfl ?_
    refine WL.val (OV.move rfl) rfl ?_
    refine WL.go (b := true) rfl rfl rfl ?_
    refine WL.call0 (by kernel_rfl) rfl rfl (fun w' hw => len_calls (l1.flatten ++ l2.flatten) p38 b40 w' hp38 (hw.it _ (.tail _ (.tail _ (.tail _ (.tail _ (.tail _ (.tail _ (.tail _ (.tail _ (.tail _ (.head _)))))))))))) ?_
    refine WL.go (b := true) rfl rfl rfl ?_
    refine WL.val (OV.move rfl) rfl ?_
    refine WL.go (b := true) rfl rfl rfl ?_
    first
    | (refine WL.val (OV.lenSlice rfl T.u22) rfl ?_)
    | (refine WL.val (OV.lenStr rfl T.u22) rfl ?_)
    refine WL.go (b := true) rfl rfl rfl ?_
    refine WL.val ((OV.eql rfl rfl).cast (u := .bool true) (by rw [decide_eq_true (by simp only [List.length_append])])) rfl ?_
    refine WL.val (OV.pickT rfl rfl) rfl ?_
    refine WL.val (OV.move rfl) rfl ?_
    refine WL.known (t := 100) (b := true) rfl (by rfl) ?_
    refine WL.go (b := true) rfl rfl rfl ?_
    refine WL.val (OV.move rfl) rfl ?_
    refine WL.go (b := true) rfl rfl rfl ?_
    refine WL.call0 (by kernel_rfl) rfl rfl (fun w' hw => len_calls ((l1.flatten ++ l2.flatten) ++ l3.flatten) p50 bc32 w' hp50 (hw.it _ (.tail _ (.tail _ (.tail _ (.tail _ (.tail _ (.tail _ (.tail _ (.head _)))))))))) ?_
    refine WL.go (b := true) rfl rfl rfl ?_
    refine WL.val (OV.move rfl) rfl ?_
    refine WL.go (b := true) rfl rfl rfl ?_
    first
    | (refine WL.val (OV.lenSlice rfl T.u22) rfl ?_)
    | (refine WL.val (OV.lenStr rfl T.u22) rfl ?_)
    refine WL.go (b := true) rfl rfl rfl ?_
    refine WL.val ((OV.eql rfl rfl).cast (u := .bool true) (by rw [decide_eq_true (by simp only [List.length_append])])) rfl ?_
    refine WL.val (OV.pickT rfl rfl) rfl ?_
    refine WL.val (OV.assign rfl) rfl ?_
    refine WL.nil ?_
    refine WX.next ?_
    refine WC.ret ?_
    exact WX.ret1 rfl rfl rfl (fun w hw => ⟨rfl, hw.fr⟩)
  · simp only [decide_eq_true_eq, decide_eq_false_iff_not, Bool.not_eq_true', Bool.not_eq_false'] at c16
    refine WC.skip ?_
    refine WX.next ?_
    refine WC.seq ?_
    refine WC.region ?_
    refine WL.callF (it := fun b => own b (.cells (HC [] (List.replicate 64 0)).toArray 71 (0, 0))) (by kernel_rfl) rfl rfl (fun w' hw => new_calls w' (hF.sat hw)) ?_
    intro b20 _
    refine WL.val (OV.assign rfl) rfl ?_
    refine WL.nil ?_
    refine WX.next ?_
    refine WC.seq ?_
    refine WC.seq ?_
    refine WC.region ?_
    refine WL.val (OV.move rfl) rfl ?_
    refine WL.val (OV.eqlNil T.u46 rfl rfl) rfl ?_
    refine WL.val (OV.move rfl) rfl ?_
    refine WL.known (t := 23) (b := false) rfl (by rfl) ?_
    refine WL.go (b := false) rfl rfl rfl ?_
    refine WL.call0 (by kernel_rfl) rfl rfl (fun w' hw => head_calls w' (hF.sat hw) (hK.sat hw)) ?_
    refine WL.go (b := false) rfl rfl rfl ?_
    refine WL.val (OV.not rfl) rfl ?_
    refine WL.val (OV.pickF rfl rfl) rfl ?_
    refine WL.nil ?_
    refine WX.next ?_
    refine WC.condF rfl ?_
    refine WC.skip ?_
    refine WX.next ?_
    refine WC.seq ?_
    refine WC.region ?_
    refine WL.val (OV.move rfl) rfl ?_
    refine WL.val (OV.move rfl) rfl ?_
    refine WL.val (OV.move rfl) rfl ?_
    refine (WL.callM (ι := List UInt8) (vv := fun _ => .tuple #[]) (pp := fun p' => HP ([] ++ l1.flatten) p') (oo := fun p' => Obj.cells (HC ([] ++ l1.flatten) p').toArray 71) (by kernel_rfl) rfl rfl (fun w' hw => (feed_calls [] (List.replicate 64 0) b20 w.heap.size l1 a1 n1 c1 _ (by omega) (by (try simp only [List.length_append, List.length_nil]); omega) (by omega) ((hw.lt _ (.head _) b20 rfl).2.2.resolve_left (fun h => h)) w' hp_nil (h1.toB.sat hw) (hw.it _ (.head _)) (hK.ne (by decide) hw (.head _)) (hK.sat hw)).mono (fun _ _ ⟨x, h1, h2, h3, h4⟩ => ⟨x, h1, h2, h3, h4⟩)) ?_)
    intro p30 hp30
    rw [List.nil_append] at hp30
    rw [List.nil_append]
    refine WL.nil ?_
    refine WX.next ?_
    refine WC.seq ?_
    refine WC.region ?_
    refine WL.val (OV.move rfl) rfl ?_
    refine WL.callF (it := fun b => own b (.cells (HC l1.flatten p30).toArray 71 (0, 0))) (by kernel_rfl) rfl rfl (fun w' hw => copy_calls l1.flatten p30 b20 w' hp30 (hw.it _ (.head _))) ?_
    intro bc32 _
    refine WL.val (OV.assign rfl) rfl ?_
    refine WL.nil ?_
    refine WX.next ?_
    refine WC.seq ?_
    refine WC.seq ?_
    refine WC.region ?_
    refine WL.val (OV.move rfl) rfl ?_
    refine WL.val (OV.eqlNil T.u46 rfl rfl) rfl ?_
    refine WL.nil ?_
    refine WX.next ?_
    refine WC.condF rfl ?_
    refine WC.skip ?_
    refine WX.next ?_
    refine WC.seq ?_
    refine WC.region ?_
    refine WL.val (OV.move rfl) rfl ?_
    refine WL.val (OV.move rfl) rfl ?_
    refine WL.val (OV.move rfl) rfl ?_
    refine (WL.callM (ι := List UInt8) (vv := fun _ => .tuple #[]) (pp := fun p' => HP (l1.flatten ++ l2.flatten) p') (oo := fun p' => Obj.cells (HC (l1.flatten ++ l2.flatten) p').toArray 71) (by kernel_rfl) rfl rfl (fun w' hw => (feed_calls l1.flatten p30 bc32 w.heap.size l2 a2 n2 c2 _ (by omega) (by (try simp only [List.length_append, List.length_nil]); omega) (by omega) ((hw.lt _ (.head _) bc32 rfl).2.2.resolve_left (fun h => h)) w' hp30 (h2.toB.sat hw) (hw.it _ (.head _)) (hK.ne (by decide) hw (.head _)) (hK.sat hw)).mono (fun _ _ ⟨x, h1, h2, h3, h4⟩ => ⟨x, h1, h2, h3, h4⟩)) ?_)
    intro p38 hp38
    refine WL.nil ?_
    refine WX.next ?_
    refine WC.seq ?_
    refine WC.region ?_
    refine WL.val (OV.move rfl) rfl ?_
    refine WL.callF (it := fun b => own b (.cells (HC (l1.flatten ++ l2.flatten) p38).toArray 71 (0, 0))) (by kernel_rfl) rfl rfl (fun w' hw => copy_calls (l1.flatten ++ l2.flatten) p38 bc32 w' hp38 (hw.it _ (.head _))) ?_
    intro b40 _
    refine WL.val (OV.assign rfl) rfl ?_
    refine WL.nil ?_
    refine WX.next ?_
    refine WC.seq ?_
    refine WC.region ?_
    refine WL.val (OV.move rfl) rfl ?_
    refine WL.val (OV.move rfl) rfl ?_
    refine WL.val (OV.move rfl) rfl ?_
    refine WL.focus perm2 (WL.callM (ι := List UInt8) (vv := fun _ => .tuple #[]) (pp := fun p' => HP (l1.flatten ++ l3.flatten) p') (oo := fun p' => Obj.cells (HC (l1.flatten ++ l3.flatten) p').toArray 71) (by kernel_rfl) rfl rfl (fun w' hw => (feed_calls l1.flatten p30 b20 w.heap.size l3 a3 n3 c3 _ (by omega) (by (try simp only [List.length_append, List.length_nil]); omega) (by omega) ((hw.lt _ (.head _) b20 rfl).2.2.resolve_left (fun h => h)) w' hp30 (h3.toB.sat hw) (hw.it _ (.head _)) (hK.ne (by decide) hw (.head _)) (hK.sat hw)).mono (fun _ _ ⟨x, h1, h2, h3, h4⟩ => ⟨x, h1, h2, h3, h4⟩)) ?_)
    intro p44 hp44
    refine WL.nil ?_
    refine WX.next ?_
    refine WC.seq ?_
    refine WC.seq ?_
    refine WC.region ?_
    refine WL.val (OV.move rfl) rfl ?_
    refine WL.val (OV.eqlNil T.u46 rfl rfl) rfl ?_
    refine WL.nil ?_
    refine WX.next ?_
    refine WC.condF rfl ?_
    refine WC.skip ?_
    refine WX.next ?_
    refine WC.seq ?_
    refine WC.region ?_
    refine WL.val (OV.move rfl) rfl ?_
    refine WL.val (OV.move rfl) rfl ?_
    refine WL.val (OV.move rfl) rfl ?_
    refine WL.focus perm2 (WL.callM (ι := List UInt8) (vv := fun _ => .tuple #[]) (pp := fun p' => HP ((l1.flatten ++ l2.flatten) ++ l3.flatten) p') (oo := fun p' => Obj.cells (HC ((l1.flatten ++ l2.flatten) ++ l3.flatten) p').toArray 71) (by kernel_rfl) rfl rfl (fun w' hw => (feed_calls (l1.flatten ++ l2.flatten) p38 bc32 w.heap.size l3 a3 n3 c3 _ (by omega) (by (try simp only [List.length_append, List.length_nil]); omega) (by omega) ((hw.lt _ (.head _) bc32 rfl).2.2.resolve_left (fun h => h)) w' hp38 (h3.toB.sat hw) (hw.it _ (.head _)) (hK.ne (by decide) hw (.head _)) (hK.sat hw)).mono (fun _ _ ⟨x, h1, h2, h3, h4⟩ => ⟨x, h1, h2, h3, h4⟩)) ?_)
    intro p50 hp50
    refine WL.nil ?_
    refine WX.next ?_
    refine WC.seq ?_
    refine WC.region ?_
    refine WL.val (OV.move rfl) rfl ?_
    refine WL.callF (it := fun q : Option Addr × Nat => row 5 1 q.1 l1.flatten.length q.2 (u8s l1.flatten)) (by kernel_rfl) rfl rfl (fun w' hw => joinAll_calls l1 a1 n1 c1 (by omega) (by omega) w' (h1.sat hw)) ?_
    rintro ⟨a52, c52⟩ _
    refine WL.val (OV.move rfl) rfl ?_
    refine WL.callF (it := fun q : Option Addr × Nat => row 5 1 q.1 l2.flatten.length q.2 (u8s l2.flatten)) (by kernel_rfl) rfl rfl (fun w' hw => joinAll_calls l2 a2 n2 c2 (by omega) (by omega) w' (h2.sat hw)) ?_
    rintro ⟨a54, c54⟩ _
    refine WL.focus perm1 (WL.append (bytes := 1) rfl rfl (by kernel_rfl) (fun _ hw => row_src (.tail _ (.head _)) hw) (u8s_one _) (by simp only [maxLen]; omega) rfl ?_)
    intro a55 c55
    rw [← u8s_append]
    refine WL.val (OV.assign rfl) rfl ?_
    refine WL.nil ?_
    refine WX.next ?_
    refine WC.seq ?_
    refine WC.region ?_
    refine WL.val (OV.move rfl) rfl ?_
    refine WL.callF (it := fun q : Option Addr × Nat => row 5 1 q.1 l1.flatten.length q.2 (u8s l1.flatten)) (by kernel_rfl) rfl rfl (fun w' hw => joinAll_calls l1 a1 n1 c1 (by omega) (by omega) w' (h1.sat hw)) ?_
    rintro ⟨a57, c57⟩ _
    refine WL.val (OV.move rfl) rfl ?_
    refine WL.callF (it := fun q : Option Addr × Nat => row 5 1 q.1 l3.flatten.length q.2 (u8s l3.flatten)) (by kernel_rfl) rfl rfl (fun w' hw => joinAll_calls l3 a3 n3 c3 (by omega) (by omega) w' (h3.sat hw)) ?_
    rintro ⟨a59, c59⟩ _
    refine WL.focus perm1 (WL.append (bytes := 1) rfl rfl (by kernel_rfl) (fun _ hw => row_src (.tail _ (.head _)) hw) (u8s_one _) (by simp only [maxLen]; omega) rfl ?_)
    intro a60 c60
    rw [← u8s_append]
    refine WL.val (OV.assign rfl) rfl ?_
    refine WL.nil ?_
    refine WX.next ?_
    refine WC.seq ?_
    refine WC.region ?_
    refine WL.val (OV.move rfl) rfl ?_
    refine WL.callF (it := fun q : Option Addr × Nat => row 5 1 q.1 l1.flatten.length q.2 (u8s l1.flatten)) (by kernel_rfl) rfl rfl (fun w' hw => joinAll_calls l1 a1 n1 c1 (by omega) (by omega) w' (h1.sat hw)) ?_
    rintro ⟨a62, c62⟩ _
    refine WL.val (OV.move rfl) rfl ?_
    refine WL.callF (it := fun q : Option Addr × Nat => row 5 1 q.1 l2.flatten.length q.2 (u8s l2.flatten)) (by kernel_rfl) rfl rfl (fun w' hw => joinAll_calls l2 a2 n2 c2 (by omega) (by omega) w' (h2.sat hw)) ?_
    rintro ⟨a64, c64⟩ _
    refine WL.focus perm1 (WL.append (bytes := 1) rfl rfl (by kernel_rfl) (fun _ hw => row_src (.tail _ (.head _)) hw) (u8s_one _) (by simp only [maxLen]; omega) rfl ?_)
    intro a65 c65
    rw [← u8s_append]
    refine WL.val (OV.move rfl) rfl ?_
    refine WL.callF (it := fun q : Option Addr × Nat => row 5 1 q.1 l3.flatten.length q.2 (u8s l3.flatten)) (by kernel_rfl) rfl rfl (fun w' hw => joinAll_calls l3 a3 n3 c3 (by omega) (by omega) w' (h3.sat hw)) ?_
    rintro ⟨a67, c67⟩ _
    refine WL.focus perm1 (WL.append (bytes := 1) rfl rfl (by kernel_rfl) (fun _ hw => row_src (.tail _ (.head _)) hw) (u8s_one _) (by simp only [maxLen]; omega) rfl ?_)
    intro a68 c68
    rw [← u8s_append]
    refine WL.val (OV.assign rfl) rfl ?_
    refine WL.nil ?_
    refine WX.next ?_
    refine WC.seq ?_
    refine WC.seq ?_
    refine WC.region ?_
    refine WL.val (OV.move rfl) rfl ?_
    refine WL.call0 (by kernel_rfl) rfl rfl (fun w' hw => hsum_calls (l1.flatten ++ l3.flatten) p44 b20 (by (try simp only [List.length_append, List.length_nil]); omega) w' hp44 (hw.it _ (.tail _ (.tail _ (.tail _ (.tail _ (.tail _ (.tail _ (.tail _ (.tail _ (.head _)))))))))) (hK.sat hw)) ?_
    refine WL.val (OV.move rfl) rfl ?_
    refine WL.call0 (by kernel_rfl) rfl rfl (fun w' hw => sum_calls (l1.flatten ++ l3.flatten) a60 ((l1.flatten.length + l3.flatten.length)) c60 (RB.of_row hw (.tail _ (.tail _ (.tail _ (.head _))))).2 (by omega) w' (RB.of_row hw (.tail _ (.tail _ (.tail _ (.head _))))).1 (hF.sat hw) (hK.sat hw)) ?_
    refine WL.val ((OV.neqA T.u25 T.u5 T.z5 (by kernel_rfl) rfl rfl (shaD_length _) (shaD_length _)).cast (u := .bool false) (by simp)) rfl ?_
    refine WL.val (OV.move rfl) rfl ?_
    refine WL.known (t := 74) (b := false) rfl (by rfl) ?_
    refine WL.go (b := false) rfl rfl rfl ?_
    refine WL.val (OV.move rfl) rfl ?_
    refine WL.go (b := false) rfl rfl rfl ?_
    refine WL.call0 (by kernel_rfl) rfl rfl (fun w' hw => hsum_calls (l1.flatten ++ l2.flatten) p38 b40 (by (try simp only [List.length_append, List.length_nil]); omega) w' hp38 (hw.it _ (.tail _ (.tail _ (.tail _ (.tail _ (.tail _ (.tail _ (.tail _ (.tail _ (.tail _ (.head _))))))))))) (hK.sat hw)) ?_
    refine WL.go (b := false) rfl rfl rfl ?_
    refine WL.val (OV.move rfl) rfl ?_
    refine WL.go (b := false) rfl rfl rfl ?_
    refine WL.call0 (by kernel_rfl) rfl rfl (fun w' hw => sum_calls (l1.flatten ++ l2.flatten) a55 ((l1.flatten.length + l2.flatten.length)) c55 (RB.of_row hw (.tail _ (.tail _ (.tail _ (.tail _ (.tail _ (.head _))))))).2 (by omega) w' (RB.of_row hw (.tail _ (.tail _ (.tail _ (.tail _ (.tail _ (.head _))))))).1 (hF.sat hw) (hK.sat hw)) ?_
    refine WL.go (b := false) rfl rfl rfl ?_
    refine WL.val ((OV.neqA T.u25 T.u5 T.z5 (by kernel_rfl) rfl rfl (shaD_length _) (shaD_length _)).cast (u := .bool false) (by simp)) rfl ?_
    refine WL.val (OV.pickF rfl rfl) rfl ?_
    refine WL.val (OV.move rfl) rfl ?_
    refine WL.known (t := 81) (b := false) rfl (by rfl) ?_
    refine WL.go (b := false) rfl rfl rfl ?_
    refine WL.val (OV.move rfl) rfl ?_
    refine WL.go (b := false) rfl rfl rfl ?_
    refine WL.call0 (by kernel_rfl) rfl rfl (fun w' hw => hsum_calls ((l1.flatten ++ l2.flatten) ++ l3.flatten) p50 bc32 (by (try simp only [List.length_append, List.length_nil]); omega) w' hp50 (hw.it _ (.tail _ (.tail _ (.tail _ (.tail _ (.tail _ (.tail _ (.tail _ (.head _))))))))) (hK.sat hw)) ?_
    refine WL.go (b := false) rfl rfl rfl ?_
    refine WL.val (OV.move rfl) rfl ?_
    refine WL.go (b := false) rfl rfl rfl ?_
    refine WL.call0 (by kernel_rfl) rfl rfl (fun w' hw => sum_calls ((l1.flatten ++ l2.flatten) ++ l3.flatten) a68 ((l1.flatten.length + l2.flatten.length + l3.flatten.length)) c68 (RB.of_row hw (.head _)).2 (by omega) w' (RB.of_row hw (.head _)).1 (hF.sat hw) (hK.sat hw)) ?_
    refine WL.go (b := false) rfl rfl rfl ?_
    refine WL.val ((OV.neqA T.u25 T.u5 T.z5 (by kernel_rfl) rfl rfl (shaD_length _) (shaD_length _)).cast (u := .bool false) (by simp)) rfl ?_
    refine WL.val (OV.pickF rfl rfl) rfl ?_
    refine WL.nil ?_
    refine WX.next ?_
    refine WC.condF rfl ?_
    refine WC.skip ?_
    refine WX.next ?_
    refine WC.seq ?_
    refine WC.region ?_
    refine WL.val (OV.move rfl) rfl ?_
    refine WL.call0 (by kernel_rfl) rfl rfl (fun w' hw => len_calls (l1.flatten ++ l3.flatten) p44 b20 w' hp44 (hw.it _ (.tail _ (.tail _ (.tail _ (.tail _ (.tail _ (.tail _ (.tail _ (.tail _ (.head _))))))))))) ?_
    refine WL.val (OV.move rfl) rfl ?_
    first
    | (refine WL.val (OV.lenSlice rfl T.u22) rfl ?_)
    | (refine WL.val (OV.lenStr rfl T.u22) rfl ?_)
    refine WL.val ((OV.eql rfl rfl).cast (u := .bool true) (by rw [decide_eq_true (by simp only [List.length_append])])) rfl ?_
    refine WL.val (OV.move rfl) rfl ?_
    refine WL.known (t := 93) (b := true) rfl (by rfl) ?_
    refine WL.go (b := true) rfl rfl rfl ?_
    refine WL.val (OV.move rfl) rfl ?_
    refine WL.go (b := true) rfl rfl rfl ?_
    refine WL.call0 (by kernel_rfl) rfl rfl (fun w' hw => len_calls (l1.flatten ++ l2.flatten) p38 b40 w' hp38 (hw.it _ (.tail _ (.tail _ (.tail _ (.tail _ (.tail _ (.tail _ (.tail _ (.tail _ (.tail _ (.head _)))))))))))) ?_
    refine WL.go (b := true) rfl rfl rfl ?_
    refine WL.val (OV.move rfl) rfl ?_
    refine WL.go (b := true) rfl rfl rfl ?_
    first
    | (refine WL.val (OV.lenSlice rfl T.u22) rfl ?_)
    | (refine WL.val (OV.lenStr rfl T.u22) rfl ?_)
    refine WL.go (b := true) rfl rfl rfl ?_
    refine WL.val ((OV.eql rfl rfl).cast (u := .bool true) (by rw [decide_eq_true (by simp only [List.length_append])])) rfl ?_
    refine WL.val (OV.pickT rfl rfl) rfl ?_
    refine WL.val (OV.move rfl) rfl ?_
    refine WL.known (t := 100) (b := true) rfl (by rfl) ?_
    refine WL.go (b := true) rfl rfl rfl ?_
    refine WL.val (OV.move rfl) rfl ?_
    refine WL.go (b := true) rfl rfl rfl ?_
    refine WL.call0 (by kernel_rfl) rfl rfl (fun w' hw => len_calls ((l1.flatten ++ l2.flatten) ++ l3.flatten) p50 bc32 w' hp50 (hw.it _ (.tail _ (.tail _ (.tail _ (.tail _ (.tail _ (.tail _ (.tail _ (.head _)))))))))) ?_
    refine WL.go (b := true) rfl rfl rfl ?_
    refine WL.val (OV.move rfl) rfl ?_
    refine WL.go (b := true) rfl rfl rfl ?_
    first
    | (refine WL.val (OV.lenSlice rfl T.u22) rfl ?_)
    | (refine WL.val (OV.lenStr rfl T.u22) rfl ?_)
    refine WL.go (b := true) rfl rfl rfl ?_
    refine WL.val ((OV.eql rfl rfl).cast (u := .bool true) (by rw [decide_eq_true (by simp only [List.length_append])])) rfl ?_
    refine WL.val (OV.pickT rfl rfl) rfl ?_
    refine WL.val (OV.assign rfl) rfl ?_
    refine WL.nil ?_
    refine WX.next ?_
    refine WC.ret ?_
    exact WX.ret1 rfl rfl rfl (fun w hw => ⟨rfl, hw.fr⟩)

end Go.Proofs.YtplebagdajdcnaaDoor
