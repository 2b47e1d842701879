/- Contracts of functions of the program: what each returns and leaves in memory. Printed by gen.py and walk.py. -/
import Derived.Test.YtplebagdajdcnaaDoorP5
namespace Go.Proofs.YtplebagdajdcnaaDoor
open Go Go.Hw
set_option linter.unusedSimpArgs false
set_option linter.unusedVariables false
theorem flat_snoc {ls : List (List UInt8)} {i : Nat} (h : i < ls.length) : (ls.take i).flatten ++ ls.getD i [] = (ls.take (i + 1)).flatten := by
  rw [List.take_add_one, List.getD_eq_getElem?_getD, List.getElem?_eq_getElem h, List.flatten_append]
  simp only [Option.toList, List.flatten_cons, List.flatten_nil, List.append_nil, Option.getD_some]
theorem flat_le (ls : List (List UInt8)) (i : Nat) : (ls.take i).flatten.length ≤ ls.flatten.length := by
  have h : ls.flatten = (ls.take i).flatten ++ (ls.drop i).flatten := by rw [← List.flatten_append, List.take_append_drop]
  rw [h, List.length_append]; omega
theorem flat_step {ls : List (List UInt8)} {i : Nat} (h : i < ls.length) : (ls.take i).flatten.length + (ls.getD i []).length ≤ ls.flatten.length := by
  have h1 := flat_le ls (i + 1)
  rw [← flat_snoc h, List.length_append] at h1
  exact h1

set_option maxRecDepth 10000 in
theorem joinAll_calls (ls : List (List UInt8)) (a : Option Addr) (n c : Nat) (hsz : ls.flatten.length ≤ 1099511627776) (hn : n ≤ 1099511627776) (w : World) (hls : RL w a n ls) : Calls Tryd.prog 28 #[.slice a n c] w fun e w' => ∃ q : Option Addr × Nat, e = .returned (.slice q.1 ls.flatten.length q.2) ∧ True ∧ Fr0 w w' ∧ New w w' (row 5 1 q.1 ls.flatten.length q.2 (u8s ls.flatten)) := by
  refine enterS (args := [.slice a n c]) (fun _ => False) Tryd.func28 rfl Tryd.ntmps28 rfl rfl ?_
  refine WC.seq ?_
  refine WC.region ?_
  refine WL.val (OV.assign rfl) rfl ?_
  refine WL.nil ?_
  refine WX.next ?_
  refine WC.seq ?_
  refine WC.region ?_
  refine WL.val (OV.assign rfl) rfl ?_
  refine WL.nil ?_
  refine WX.next ?_
  refine WC.seq ?_
  refine WC.seq ?_
  refine WC.region ?_
  refine WL.val (OV.assign rfl) rfl ?_
  refine WL.nil ?_
  refine WX.next ?_
  refine WC.block ?_
  refine WC.nilRow 5 ?_
  refine WC.loop3 (fun (i : Nat) (a' : Option Addr) (c' : Nat) => [(0, .slice a n c), (3, .slice a' (ls.take i).flatten.length c'), (4, .int .i64 (i : Int))])
      (fun i a' c' w' => i ≤ n ∧ Sat w (fun _ => False) (fun b => b < w.heap.size) w [row 5 1 a' (ls.take i).flatten.length c' (u8s (ls.take i).flatten)] w')
      (fun i _ _ => n - i) 0 none 0 ⟨rfl, rfl, rfl, trivial⟩ (fun w' hw => ⟨by omega, hw⟩) ?_
  intro i ai ci
  refine WC.pure (fun hi => ?_)
  have hle := flat_le ls i
  refine WC.seq ?_
  refine WC.seq ?_
  refine WC.region ?_
  refine WL.val (OV.move rfl) rfl ?_
  refine WL.val (OV.move rfl) rfl ?_
  first
  | (refine WL.val (OV.lenSlice rfl T.u29) rfl ?_)
  | (refine WL.val (OV.lenStr rfl T.u29) rfl ?_)
  refine WL.val (OV.lss rfl rfl) rfl ?_
  refine WL.nil ?_
  refine WX.next ?_
  refine WC.cond rfl (fun c8 => ?_) (fun c8 => ?_)
  · simp only [decide_eq_true_eq, decide_eq_false_iff_not, Bool.not_eq_true', Bool.not_eq_false'] at c8
    refine WC.skip ?_
    refine WX.next ?_
    refine WC.seq ?_
    refine WC.block ?_
    refine WC.region ?_
    refine WL.val (OV.move rfl) rfl ?_
    refine WL.val (OV.move rfl) rfl ?_
    refine WL.val (OV.move rfl) rfl ?_
    have hin : i < ls.length := by rw [hls.1]; omega
    obtain ⟨q, rfl⟩ := hls.some (by omega)
    obtain ⟨a', m', c', hcell, hrb, hmc⟩ := hls.get (i := i) (by omega)
    have hst := flat_step hin
    have hrl := hrb.1
    refine WL.val (OV.indexSliceA (i := i) rfl rfl T.u29 T.z22 (by omega)) rfl ?_
    refine WL.val (OV.load1 rfl T.u22 rfl (fun _ hw => snapL hw hcell)) rfl ?_
    refine WL.append (bytes := 1) rfl rfl (by kernel_rfl) (fun _ hw => hrb.src) (u8s_one _) (by simp only [maxLen]; omega) rfl ?_
    intro a16 c16
    rw [← u8s_append, flat_snoc hin]
    refine WL.val (OV.assign rfl) rfl ?_
    refine WL.nil ?_
    refine WX.block_normal ?_
    refine WX.next ?_
    refine WC.region ?_
    refine WL.val (OV.move rfl) rfl ?_
    refine WL.val (OV.addN (j := 1) rfl rfl (by omega)) rfl ?_
    refine WL.val (OV.assign rfl) rfl ?_
    refine WL.nil ?_
    have hnx : (ls.take (i + 1)).flatten.length = (ls.take i).flatten.length + m' := by rw [← flat_snoc hin, List.length_append, hrl]
    exact WX.round3 (i + 1) a16 c16 ⟨rfl, by rw [hnx]; rfl, rfl, trivial⟩ (fun w' hw => ⟨by omega, by rw [hnx]; exact hw.first⟩) (by show n - (i + 1) < n - i; omega)
  · simp only [decide_eq_true_eq, decide_eq_false_iff_not, Bool.not_eq_true', Bool.not_eq_false'] at c8
    refine WC.exit ?_
    refine WX.then_exit ?_
    refine WX.then_exit ?_
    refine WX.block_hit ?_
    refine WX.next ?_
    refine WC.seq ?_
    refine WC.region ?_
    refine WL.val (OV.move rfl) rfl ?_
    refine WL.val (OV.assign rfl) rfl ?_
    refine WL.nil ?_
    refine WX.next ?_
    refine WC.ret ?_
    rw [List.take_of_length_le (by rw [hls.1]; omega)]
    exact WX.ret1 rfl rfl rfl (fun w' hw => ⟨(ai, ci), rfl, trivial, hw.fr, by exact hw.new0 (.head _)⟩)

set_option maxRecDepth 10000 in
theorem feed_calls (all part : List UInt8) (hb B : Nat) (ls : List (List UInt8)) (a : Option Addr) (n c : Nat) (asked : Int) (h0 : 0 ≤ asked) (hsz : all.length + ls.flatten.length < 288230376151711744) (hn : n ≤ 1099511627776) (hB : B ≤ hb) (w : World) (hP : HP all part) (hls0 : RLB B w a n ls) (hc : w.heap[hb]? = some (.cells (HC all part).toArray 71 (0, 0))) (hne : hb ≠ 3) (hK : Tab w 3 kW) : Calls Tryd.prog 26 #[.pointer (some ⟨hb, 0, none⟩), .slice a n c, .int .i64 asked] w fun e w' => ∃ part' : List UInt8, e = .returned (.tuple #[]) ∧ HP (all ++ ls.flatten) part' ∧ Fr (fun i => i = hb) w w' ∧ w'.heap[hb]? = some (.cells (HC (all ++ ls.flatten) part').toArray 71 (0, 0)) := by
  refine enterOwn hc (args := [.pointer (some ⟨hb, 0, none⟩), .slice a n c, .int .i64 asked]) Tryd.func26 rfl Tryd.ntmps26 rfl rfl ?_
  refine WC.seq ?_
  refine WC.region ?_
  refine WL.val (OV.assign rfl) rfl ?_
  refine WL.nil ?_
  refine WX.next ?_
  refine WC.block ?_
  have hlsn := hls0.1.1
  refine WC.loop2 (fun (i : Nat) (p' : List UInt8) => [(0, .pointer (some ⟨hb, 0, none⟩)), (1, .slice a n c), (2, .int .i64 asked), (6, .int .i64 (i : Int))])
      (fun i p' w' => (i ≤ n ∧ HP (all ++ (ls.take i).flatten) p') ∧ Sat w (fun i => i = hb) (fun i => i < w.heap.size ∧ i ≠ hb) w [own hb (.cells (HC (all ++ (ls.take i).flatten) p').toArray 71 (0, 0))] w')
      (fun i _ => n - i) 0 part ⟨rfl, rfl, rfl, rfl, trivial⟩ (fun w' hw => ⟨⟨by omega, by rw [List.take_zero, List.flatten_nil, List.append_nil]; exact hP⟩, by rw [List.take_zero, List.flatten_nil, List.append_nil]; exact hw⟩) ?_
  intro i p'
  refine WC.pure (fun hi => ?_)
  obtain ⟨hi, hp⟩ := hi
  have hle := flat_le ls i
  refine WC.seq ?_
  refine WC.seq ?_
  refine WC.region ?_
  refine WL.val (OV.move rfl) rfl ?_
  refine WL.val (OV.move rfl) rfl ?_
  first
  | (refine WL.val (OV.lenSlice rfl T.u29) rfl ?_)
  | (refine WL.val (OV.lenStr rfl T.u29) rfl ?_)
  refine WL.val (OV.lss rfl rfl) rfl ?_
  refine WL.nil ?_
  refine WX.next ?_
  refine WC.cond rfl (fun c10 => ?_) (fun c10 => ?_)
  · simp only [decide_eq_true_eq, decide_eq_false_iff_not, Bool.not_eq_true', Bool.not_eq_false'] at c10
    refine WC.skip ?_
    refine WX.next ?_
    refine WC.seq ?_
    refine WC.block ?_
    refine WC.seq ?_
    refine WC.region ?_
    refine WL.val (OV.move rfl) rfl ?_
    refine WL.val (OV.move rfl) rfl ?_
    refine WL.val (OV.move rfl) rfl ?_
    have hin : i < ls.length := by rw [hls0.1.1]; omega
    obtain ⟨q, rfl⟩ := hls0.1.some (by omega)
    obtain ⟨a', m', c', hcell, hrb, hmc, hqb, hab⟩ := hls0.get (i := i) (by omega)
    have hst := flat_step hin
    have hrl := hrb.1
    have hbb : ∀ q, a' = some q → 0 < m' → q.block ≠ hb := fun q hq hm => by have := hab q hq hm; omega
    refine WL.val (OV.indexSliceA (i := i) rfl rfl T.u29 T.z22 (by omega)) rfl ?_
    refine WL.val (OV.load1 rfl T.u22 rfl (fun _ hw => snapO hw (by omega) hcell)) rfl ?_
    refine WL.callM (ι := List UInt8) (vv := fun _ => .tuple #[]) (pp := fun p' => HP ((all ++ (ls.take i).flatten) ++ ls.getD i []) p') (oo := fun p' => Obj.cells (HC ((all ++ (ls.take i).flatten) ++ ls.getD i []) p').toArray 71) (by kernel_rfl) rfl rfl (fun w' hw => (write_calls (all ++ (ls.take i).flatten) p' hb (ls.getD i []) a' m' c' hmc (by rw [List.length_append]; omega) w' hp (hrb.satO hbb hw) hbb (hw.it _ (.head _)) hne (hK.satO hw hne)).mono (fun _ _ ⟨x, h1, h2, h3, h4⟩ => ⟨x, h1, h2, h3, h4⟩)) ?_
    intro p18 hp18
    rw [List.append_assoc, flat_snoc hin] at hp18
    rw [List.append_assoc, flat_snoc hin]
    refine WL.nil ?_
    refine WX.next ?_
    refine WC.seq ?_
    refine WC.region ?_
    refine WL.val (OV.move rfl) rfl ?_
    refine WL.val (OV.remN rfl rfl (by omega)) rfl ?_
    refine WL.val (OV.move rfl) rfl ?_
    refine WL.val (OV.remN rfl rfl (by omega)) rfl ?_
    refine WL.val (OV.eql rfl rfl) rfl ?_
    refine WL.nil ?_
    refine WX.next ?_
    refine WC.cond rfl (fun c23 => ?_) (fun c23 => ?_)
    · simp only [decide_eq_true_eq, decide_eq_false_iff_not, Bool.not_eq_true', Bool.not_eq_false'] at c23
      refine WC.seq ?_
      refine WC.region ?_
      refine WL.val (OV.move rfl) rfl ?_
      refine WL.call0 (by kernel_rfl) rfl rfl (fun w' hw => hsum_calls (all ++ (ls.take (i + 1)).flatten) p18 hb (by have := flat_le ls (i + 1); rw [List.length_append]; omega) w' hp18 (hw.it _ (.head _)) (hK.satO hw hne)) ?_
      refine WL.nil ?_
      refine WX.next ?_
      refine WC.region ?_
      refine WL.val (OV.move rfl) rfl ?_
      refine WL.call0 (by kernel_rfl) rfl rfl (fun w' hw => len_calls (all ++ (ls.take (i + 1)).flatten) p18 hb w' hp18 (hw.it _ (.head _))) ?_
      refine WL.nil ?_
      refine WX.block_normal ?_
      refine WX.next ?_
      refine WC.region ?_
      refine WL.val (OV.move rfl) rfl ?_
      refine WL.val (OV.addN (j := 1) rfl rfl (by omega)) rfl ?_
      refine WL.val (OV.assign rfl) rfl ?_
      refine WL.nil ?_
      exact WX.round2 (i + 1) p18 ⟨rfl, rfl, rfl, rfl, trivial⟩ (fun w' hw => ⟨⟨by omega, hp18⟩, hw⟩) (by show n - (i + 1) < n - i; omega)
    · simp only [decide_eq_true_eq, decide_eq_false_iff_not, Bool.not_eq_true', Bool.not_eq_false'] at c23
      refine WC.skip ?_
      refine WX.block_normal ?_
      refine WX.next ?_
      refine WC.region ?_
      refine WL.val (OV.move rfl) rfl ?_
      refine WL.val (OV.addN (j := 1) rfl rfl (by omega)) rfl ?_
      refine WL.val (OV.assign rfl) rfl ?_
      refine WL.nil ?_
      exact WX.round2 (i + 1) p18 ⟨rfl, rfl, rfl, rfl, trivial⟩ (fun w' hw => ⟨⟨by omega, hp18⟩, hw⟩) (by show n - (i + 1) < n - i; omega)
  · simp only [decide_eq_true_eq, decide_eq_false_iff_not, Bool.not_eq_true', Bool.not_eq_false'] at c10
    refine WC.exit ?_
    refine WX.then_exit ?_
    refine WX.then_exit ?_
    refine WX.block_hit ?_
    rw [List.take_of_length_le (by omega)] at hp ⊢
    exact WX.ret0 rfl rfl (fun w' hw => ⟨p', rfl, hp, hw.fr, hw.it _ (.head _)⟩)

end Go.Proofs.YtplebagdajdcnaaDoor
