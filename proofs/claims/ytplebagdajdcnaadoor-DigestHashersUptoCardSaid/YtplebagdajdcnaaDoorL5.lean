/- Contracts of functions of the program: what each returns and leaves in memory. Printed by gen.py and walk.py. -/
import Derived.Test.YtplebagdajdcnaaDoorL4
namespace Go.Proofs.YtplebagdajdcnaaDoor
open Go Go.Hw
set_option linter.unusedSimpArgs false
set_option linter.unusedVariables false
theorem fh_hex {d D : List UInt8} {er : Int} (hd : d.length = 32) (h : FH (hexS d) D er) : D = d ∧ er = 0 := h.unique (Or.inl ⟨hd, rfl, rfl⟩)
theorem fh_str {s : ByteArray} {D : List UInt8} (h : FH s.data.toList D 0) : (⟨(hexS D).toArray⟩ : ByteArray) = s := by
  rcases h with ⟨_, h, _⟩ | ⟨_, _, h⟩
  · rw [h]
  · omega
theorem fh_bad {s D : List UInt8} {er : Int} (h : FH s D er) (hne : ¬ er = 0) : er = 11 ∧ D = List.replicate 32 0 := by
  rcases h with ⟨_, _, h⟩ | ⟨_, h1, h2⟩
  · exact absurd h hne
  · exact ⟨h2, h1⟩
theorem exists_hex : ∀ (n : Nat) (s : List UInt8), s.length = 2 * n → (∀ c ∈ s, 0 ≤ valueS c) → ∃ D : List UInt8, D.length = n ∧ hexS D = s
  | 0, s, h, _ => ⟨[], rfl, by rw [List.eq_nil_of_length_eq_zero (l := s) (by omega)]; rfl⟩
  | n + 1, s, h, hv => by
    match s, h with
    | c :: d :: s, h =>
      obtain ⟨D, h1, h2⟩ := exists_hex n s (by simp at h; omega) (fun x hx => hv x (.tail _ (.tail _ hx)))
      refine ⟨decB c d :: D, by simp [h1], ?_⟩
      have h3 := hex_decB c d (hv c (.head _)) (hv d (.tail _ (.head _)))
      rw [show decB c d :: D = [decB c d] ++ D from rfl, hexS_append, h3, h2]
      rfl
theorem back_last {d D : List UInt8} {k : Nat} {c : UInt8} {er : Int} (hd : d.length = 32) (hk : k < 64) (hne : (hexS d).getD k 0 ≠ c) (h : FH ((hexS d).set k c) D er) :
    (0 ≤ valueS c → er = 0 ∧ D ≠ d) ∧ (valueS c < 0 → er = 11) := by
  have hl : (hexS d).length = 64 := by rw [hexS_length, hd]
  refine ⟨fun hv => ?_, fun hv => ?_⟩
  · obtain ⟨D', h1, h2⟩ := exists_hex 32 ((hexS d).set k c) (by rw [List.length_set, hl]) (fun x hx => by
      rcases List.mem_or_eq_of_mem_set hx with h | h
      · exact hexS_values d x h
      · rw [h]; exact hv)
    obtain ⟨rfl, rfl⟩ := h.unique (Or.inl ⟨h1, h2, rfl⟩)
    refine ⟨rfl, fun e => hne ?_⟩
    subst e
    have h3 := congrArg (fun l : List UInt8 => l.getD k 0) h2
    simp only [List.getD_eq_getElem?_getD, List.getElem?_set_self (show k < (hexS D).length by omega), Option.getD_some] at h3
    rw [List.getD_eq_getElem?_getD]
    exact h3
  · have h1 : FH ((hexS d).set k c) (List.replicate 32 0) 11 := FH.wrong_digit (k := k) (by rw [List.length_set]; omega) (by rw [List.getElem_set_self]; exact hv)
    exact (h.unique h1).2
theorem value_iff (c : UInt8) : 0 ≤ valueS c ↔ ((48 ≤ (c.toNat : Int) ∧ (c.toNat : Int) ≤ 57) ∨ (97 ≤ (c.toNat : Int) ∧ (c.toNat : Int) ≤ 102)) := by
  unfold valueS
  split
  · omega
  · split <;> omega
theorem back_iff {d D : List UInt8} {k : Nat} {c : UInt8} {er : Int} (hd : d.length = 32) (hk : k < 64) (hne : (hexS d).getD k 0 ≠ c) (h : FH ((hexS d).set k c) D er) :
    (er = 0 ↔ ((48 ≤ (c.toNat : Int) ∧ (c.toNat : Int) ≤ 57) ∨ (97 ≤ (c.toNat : Int) ∧ (c.toNat : Int) ≤ 102))) ∧ (er = 0 → D ≠ d) := by
  have h1 := back_last hd hk hne h
  have h2 := value_iff c
  by_cases hv : 0 ≤ valueS c
  · exact ⟨by have := (h1.1 hv).1; rw [← h2]; omega, fun _ => (h1.1 hv).2⟩
  · have := h1.2 (by omega)
    exact ⟨by rw [← h2]; omega, fun h => by omega⟩
theorem fh_long {d : List UInt8} {c : UInt8} (hd : d.length = 32) : FH ((⟨(hexS d).toArray⟩ : ByteArray) ++ (⟨[c].toArray⟩ : ByteArray)).data.toList (List.replicate 32 0) 11 := FH.wrong_len (by simp [hexS_length, hd])
theorem fh_short {d : List UInt8} (hd : d.length = 32) : FH ((⟨(hexS d).toArray⟩ : ByteArray).extract 1 64).data.toList (List.replicate 32 0) 11 := FH.wrong_len (by
  have : ((⟨(hexS d).toArray⟩ : ByteArray).extract 1 64).size = 63 := by rw [ByteArray.size_extract]; simp [ByteArray.size, hexS_length, hd]
  intro h
  rw [ByteArray.size] at this
  simp at h this
  omega)

set_option maxRecDepth 10000 in
set_option maxHeartbeats 1000000 in
theorem back_calls (d : List UInt8) (s : ByteArray) (k : Int) (c : UInt8) (hd : d.length = 32) (hs : s.size ≤ 140737488351232) (hkr : -9223372036854775808 ≤ k ∧ k ≤ 9223372036854775807) (w : World) (hF : Tab w 1 h0W) (hK : Tab w 3 kW) : Calls Tryd.prog 7 #[.agg (u8s d).toArray, .string s, .int .i64 k, b8 c] w fun e w' => e = .returned (.bool true) ∧ Fr0 w w' := by
  refine enterS (args := [.agg (u8s d).toArray, .string s, .int .i64 k, b8 c]) (fun _ => False) Tryd.func7 rfl Tryd.ntmps7 rfl rfl ?_
  refine WC.seq ?_
  refine WC.region ?_
  refine WL.box rfl rfl rfl ?_
  intro b4
  refine WL.val (OV.assign rfl) rfl ?_
  refine WL.nil ?_
  refine WX.next ?_
  refine WC.seq ?_
  refine WC.region ?_
  refine WL.val (OV.loadN (cs := u8s d) rfl T.u25 rfl (by rw [u8s_length, hd]; exact T.z25) (fun _ hw j v hj => by rw [add_off, Nat.zero_add]; exact own_cells hw (.head _) j v hj)) rfl ?_
  have hTs : (⟨(hexS d).toArray⟩ : ByteArray).size = 64 := by simp [ByteArray.size, hexS_length, hd]
  refine WL.call0 (by kernel_rfl) rfl rfl (fun w' _ => hex_calls d hd w') ?_
  refine WL.val (OV.assign rfl) rfl ?_
  refine WL.nil ?_
  refine WX.next ?_
  refine WC.seq ?_
  refine WC.region ?_
  refine WL.val (OV.move rfl) rfl ?_
  refine WL.call0 (v := .tuple #[.agg (u8s d).toArray, .int .i64 0]) (by kernel_rfl) rfl rfl (fun w' hw => (fromHex_calls ⟨(hexS d).toArray⟩ (by rw [hTs]; omega) w').mono (fun _ _ ⟨D, er, h1, h2, h3⟩ => by
    obtain ⟨rfl, rfl⟩ := fh_hex hd h2
    exact ⟨h1, h3⟩)) ?_
  refine WL.val (OV.move rfl) rfl ?_
  refine WL.val (OV.extract rfl rfl) rfl ?_
  refine WL.val (OV.extract rfl rfl) rfl ?_
  refine WL.alloc T.zr25 rfl ?_
  intro b10
  refine WL.storeAll (vs := u8s d) rfl rfl (List.all_eq_true.2 (u8s_one _)) (by rw [u8s_length, hd]; exact T.z25) (by rw [u8s_length, u8s_length, hd]; rfl) ?_
  refine WL.val (OV.assign rfl) rfl ?_
  refine WL.nil ?_
  refine WX.next ?_
  refine WC.seq ?_
  refine WC.seq ?_
  refine WC.region ?_
  refine WL.val (OV.move rfl) rfl ?_
  first
  | (refine WL.val (OV.neq rfl rfl) rfl ?_)
  | (refine WL.val (OV.neqS rfl rfl) rfl ?_)
  | (refine WL.val (OV.neqA T.u25 T.u5 T.z5 (by kernel_rfl) rfl rfl (by first | assumption | rfl) (by first | assumption | rfl)) rfl ?_)
  | (refine WL.val (OV.neqB T.u4 rfl rfl) rfl ?_)
  refine WL.val (OV.move rfl) rfl ?_
  refine WL.known (t := 31) (b := false) rfl (by simp) ?_
  refine WL.go (b := false) rfl rfl rfl ?_
  refine WL.val (OV.loadN (cs := u8s d) rfl T.u25 rfl (by rw [u8s_length, hd]; exact T.z25) (fun _ hw j v hj => by rw [add_off, Nat.zero_add]; exact own_cells hw (.head _) j v hj)) rfl ?_
  refine WL.go (b := false) rfl rfl rfl ?_
  refine WL.val (OV.loadN (cs := u8s d) rfl T.u25 rfl (by rw [u8s_length, hd]; exact T.z25) (fun _ hw j v hj => by rw [add_off, Nat.zero_add]; exact own_cells hw (.tail _ (.head _)) j v hj)) rfl ?_
  refine WL.go (b := false) rfl rfl rfl ?_
  first
  | (refine WL.val (OV.neq rfl rfl) rfl ?_)
  | (refine WL.val (OV.neqS rfl rfl) rfl ?_)
  | (refine WL.val (OV.neqA T.u25 T.u5 T.z5 (by kernel_rfl) rfl rfl (by first | assumption | rfl) (by first | assumption | rfl)) rfl ?_)
  | (refine WL.val (OV.neqB T.u4 rfl rfl) rfl ?_)
  refine WL.val (OV.pickF rfl rfl) rfl ?_
  refine WL.val (OV.move rfl) rfl ?_
  refine WL.known (t := 36) (b := false) rfl (by simp) ?_
  refine WL.go (b := false) rfl rfl rfl ?_
  refine WL.val (OV.move rfl) rfl ?_
  refine WL.go (b := false) rfl rfl rfl ?_
  first
  | (refine WL.val (OV.lenSlice rfl T.u9) rfl ?_)
  | (refine WL.val (OV.lenStr rfl T.u9) rfl ?_)
  refine WL.go (b := false) rfl rfl rfl ?_
  first
  | (refine WL.val (OV.neq rfl rfl) rfl ?_)
  | (refine WL.val (OV.neqS rfl rfl) rfl ?_)
  | (refine WL.val (OV.neqA T.u25 T.u5 T.z5 (by kernel_rfl) rfl rfl (by first | assumption | rfl) (by first | assumption | rfl)) rfl ?_)
  | (refine WL.val (OV.neqB T.u4 rfl rfl) rfl ?_)
  refine WL.val (OV.pickF rfl rfl) rfl ?_
  refine WL.val (OV.move rfl) rfl ?_
  refine WL.known (t := 41) (b := false) rfl (by rw [hTs]; rfl) ?_
  refine WL.go (b := false) rfl rfl rfl ?_
  refine WL.call0 (by kernel_rfl) rfl rfl (fun w' hw => head_calls w' (hF.sat hw) (hK.sat hw)) ?_
  refine WL.go (b := false) rfl rfl rfl ?_
  refine WL.val (OV.not rfl) rfl ?_
  refine WL.val (OV.pickF rfl rfl) rfl ?_
  refine WL.nil ?_
  refine WX.next ?_
  refine WC.condF rfl ?_
  refine WC.skip ?_
  refine WX.next ?_
  refine WC.seq ?_
  refine WC.region ?_
  refine WL.val (OV.move rfl) rfl ?_
  refine WL.callP (ι := List UInt8 × Int) (vv := fun q => .tuple #[.agg (u8s q.1).toArray, .int .i64 q.2]) (pp := fun q => FH (ByteArray.data (s)).toList q.1 q.2) (by kernel_rfl) rfl rfl (fun w' hw => (fromHex_calls (s) (hs) w').mono (fun _ _ ⟨D, er, h1, h2, h3⟩ => ⟨(D, er), h1, h2, h3⟩)) ?_
  rintro ⟨D1, er1⟩ hF1
  have hD1 : D1.length = 32 := hF1.len
  refine WL.val (OV.move rfl) rfl ?_
  refine WL.val (OV.extract rfl rfl) rfl ?_
  refine WL.val (OV.extract rfl rfl) rfl ?_
  refine WL.alloc T.zr25 rfl ?_
  intro b12
  refine WL.storeAll (vs := u8s D1) rfl rfl (List.all_eq_true.2 (u8s_one _)) (by rw [u8s_length, hD1]; exact T.z25) (by rw [u8s_length, u8s_length, hD1]; rfl) ?_
  refine WL.val (OV.assign rfl) rfl ?_
  refine WL.nil ?_
  refine WX.next ?_
  refine WC.seq ?_
  refine WC.seq ?_
  refine WC.region ?_
  refine WL.val (OV.move rfl) rfl ?_
  first
  | (refine WL.val (OV.eql rfl rfl) rfl ?_)
  | (refine WL.val (OV.eqlS rfl rfl) rfl ?_)
  | (refine WL.val (OV.eqlA T.u25 T.u5 T.z5 (by kernel_rfl) rfl rfl (by first | assumption | rfl) (by first | assumption | rfl)) rfl ?_)
  | (refine WL.val (OV.eqlB T.u4 rfl rfl) rfl ?_)
  refine WL.val (OV.move rfl) rfl ?_
  refine WL.split (t := 52) rfl (fun g52 => ?_) (fun g52 => ?_)
  · simp only [decide_eq_true_eq, decide_eq_false_iff_not, Bool.not_eq_true', Bool.not_eq_false'] at g52
    refine WL.go (b := true) rfl rfl rfl ?_
    refine WL.val (OV.loadN (cs := u8s D1) rfl T.u25 rfl (by rw [u8s_length, hD1]; exact T.z25) (fun _ hw j v hj => by rw [add_off, Nat.zero_add]; exact own_cells hw (.head _) j v hj)) rfl ?_
    refine WL.go (b := true) rfl rfl rfl ?_
    refine WL.call0 (by kernel_rfl) rfl rfl (fun w' _ => hex_calls D1 hD1 w') ?_
    refine WL.go (b := true) rfl rfl rfl ?_
    refine WL.val (OV.move rfl) rfl ?_
    refine WL.go (b := true) rfl rfl rfl ?_
    first
    | (refine WL.val (OV.neq rfl rfl) rfl ?_)
    | (refine WL.val (OV.neqS rfl rfl) rfl ?_)
    | (refine WL.val (OV.neqA T.u25 T.u5 T.z5 (by kernel_rfl) rfl rfl (by first | assumption | rfl) (by first | assumption | rfl)) rfl ?_)
    | (refine WL.val (OV.neqB T.u4 rfl rfl) rfl ?_)
    refine WL.val (OV.pickT rfl rfl) rfl ?_
    refine WL.val (OV.move rfl) rfl ?_
    refine WL.known (t := 58) (b := false) rfl (by subst g52; rw [fh_str hF1]; simp) ?_
    refine WL.go (b := false) rfl rfl rfl ?_
    refine WL.val (OV.move rfl) rfl ?_
    refine WL.go (b := false) rfl rfl rfl ?_
    first
    | (refine WL.val (OV.neq rfl rfl) rfl ?_)
    | (refine WL.val (OV.neqS rfl rfl) rfl ?_)
    | (refine WL.val (OV.neqA T.u25 T.u5 T.z5 (by kernel_rfl) rfl rfl (by first | assumption | rfl) (by first | assumption | rfl)) rfl ?_)
    | (refine WL.val (OV.neqB T.u4 rfl rfl) rfl ?_)
    refine WL.go (b := false) rfl rfl rfl ?_
    refine WL.val (OV.move rfl) rfl ?_
    refine WL.known (t := 61) (b := false) rfl (by simp [g52]) ?_
    refine WL.skip (b := false) rfl rfl rfl rfl ?_
    refine WL.skip (b := false) rfl rfl rfl rfl ?_
    refine WL.skip (b := false) rfl rfl rfl rfl ?_
    refine WL.skipU rfl rfl rfl ?_
    refine WL.skipU rfl rfl rfl ?_
    refine WL.skipU rfl rfl rfl ?_
    refine WL.skip (b := false) rfl rfl rfl rfl ?_
    refine WL.go (b := false) rfl rfl rfl ?_
    refine WL.val (OV.pickF rfl rfl) rfl ?_
    refine WL.val (OV.pickF rfl rfl) rfl ?_
    refine WL.nil ?_
    refine WX.next ?_
    refine WC.condF rfl ?_
    refine WC.skip ?_
    refine WX.next ?_
    refine WC.seq ?_
    refine WC.region ?_
    refine WL.val (OV.move rfl) rfl ?_
    refine WL.val (OV.move rfl) rfl ?_
    refine WL.buildSlice1 T.u22 T.z5 T.zr5 rfl rfl rfl ?_
    intro bl74
    refine WL.val (OV.bytesToStr (l := [c]) rfl (fun _ hw => own_src (.head _) rfl) T.u22 T.u5 T.u9) rfl ?_
    refine WL.val (OV.addS (s := ⟨(hexS d).toArray⟩) (u := ⟨[c].toArray⟩) rfl rfl (by rw [hTs]; show 64 + 1 ≤ 9223372036854775807; omega)) rfl ?_
    refine WL.call0 (v := .tuple #[.agg (u8s (List.replicate 32 0)).toArray, .int .i64 11]) (by kernel_rfl) rfl rfl (fun w' hw => (fromHex_calls ((⟨(hexS d).toArray⟩ : ByteArray) ++ (⟨[c].toArray⟩ : ByteArray)) (by rw [ByteArray.size_append, hTs]; show 64 + 1 ≤ 140737488351232; omega) w').mono (fun _ _ ⟨D, er, h1, h2, h3⟩ => by
      obtain ⟨rfl, rfl⟩ := h2.unique (fh_long hd)
      exact ⟨h1, h3⟩)) ?_
    refine WL.val (OV.move rfl) rfl ?_
    refine WL.val (OV.extract rfl rfl) rfl ?_
    refine WL.val (OV.extract rfl rfl) rfl ?_
    refine WL.alloc T.zr25 rfl ?_
    intro b14
    refine WL.storeAll (vs := u8s (List.replicate 32 0)) rfl rfl (List.all_eq_true.2 (u8s_one _)) T.z25 rfl ?_
    refine WL.val (OV.assign rfl) rfl ?_
    refine WL.nil ?_
    refine WX.next ?_
    refine WC.seq ?_
    refine WC.region ?_
    refine WL.val (OV.move rfl) rfl ?_
    refine WL.val (OV.sliceStr (ml := some 1) (mh := none) (l := 1) (h := 64) rfl T.u9 rfl rfl rfl hTs (by rw [hTs]; decide)) rfl ?_
    refine WL.call0 (v := .tuple #[.agg (u8s (List.replicate 32 0)).toArray, .int .i64 11]) (by kernel_rfl) rfl rfl (fun w' hw => (fromHex_calls ((⟨(hexS d).toArray⟩ : ByteArray).extract 1 64) (by rw [ByteArray.size_extract, hTs]; decide) w').mono (fun _ _ ⟨D, er, h1, h2, h3⟩ => by
      obtain ⟨rfl, rfl⟩ := h2.unique (fh_short hd)
      exact ⟨h1, h3⟩)) ?_
    refine WL.val (OV.move rfl) rfl ?_
    refine WL.val (OV.extract rfl rfl) rfl ?_
    refine WL.val (OV.extract rfl rfl) rfl ?_
    refine WL.alloc T.zr25 rfl ?_
    intro b16
    refine WL.storeAll (vs := u8s (List.replicate 32 0)) rfl rfl (List.all_eq_true.2 (u8s_one _)) T.z25 rfl ?_
    refine WL.val (OV.assign rfl) rfl ?_
    refine WL.nil ?_
    refine WX.next ?_
    refine WC.seq ?_
    refine WC.seq ?_
    refine WC.region ?_
    refine WL.val (OV.move rfl) rfl ?_
    first
    | (refine WL.val (OV.neq rfl rfl) rfl ?_)
    | (refine WL.val (OV.neqS rfl rfl) rfl ?_)
    | (refine WL.val (OV.neqA T.u25 T.u5 T.z5 (by kernel_rfl) rfl rfl (by first | assumption | rfl) (by first | assumption | rfl)) rfl ?_)
    | (refine WL.val (OV.neqB T.u4 rfl rfl) rfl ?_)
    refine WL.val (OV.move rfl) rfl ?_
    refine WL.known (t := 88) (b := false) rfl (by simp) ?_
    refine WL.go (b := false) rfl rfl rfl ?_
    refine WL.val (OV.move rfl) rfl ?_
    refine WL.go (b := false) rfl rfl rfl ?_
    first
    | (refine WL.val (OV.neq rfl rfl) rfl ?_)
    | (refine WL.val (OV.neqS rfl rfl) rfl ?_)
    | (refine WL.val (OV.neqA T.u25 T.u5 T.z5 (by kernel_rfl) rfl rfl (by first | assumption | rfl) (by first | assumption | rfl)) rfl ?_)
    | (refine WL.val (OV.neqB T.u4 rfl rfl) rfl ?_)
    refine WL.val (OV.pickF rfl rfl) rfl ?_
    refine WL.nil ?_
    refine WX.next ?_
    refine WC.condF rfl ?_
    refine WC.skip ?_
    refine WX.next ?_
    refine WC.seq ?_
    refine WC.seq ?_
    refine WC.region ?_
    refine WL.val (OV.move rfl) rfl ?_
    refine WL.val (OV.lss rfl rfl) rfl ?_
    refine WL.val (OV.move rfl) rfl ?_
    refine WL.split (t := 94) rfl (fun g94 => ?_) (fun g94 => ?_)
    · simp only [decide_eq_true_eq, decide_eq_false_iff_not, Bool.not_eq_true', Bool.not_eq_false'] at g94
      refine WL.skip (b := true) rfl rfl rfl rfl ?_
      refine WL.skip (b := true) rfl rfl rfl rfl ?_
      refine WL.val (OV.pickT rfl rfl) rfl ?_
      refine WL.val (OV.move rfl) rfl ?_
      refine WL.skip (b := true) rfl rfl rfl rfl ?_
      refine WL.skip (b := true) rfl rfl rfl rfl ?_
      refine WL.skip (b := true) rfl rfl rfl rfl ?_
      refine WL.skip (b := true) rfl rfl rfl rfl ?_
      refine WL.skip (b := true) rfl rfl rfl rfl ?_
      refine WL.val (OV.pickT rfl rfl) rfl ?_
      refine WL.nil ?_
      refine WX.next ?_
      refine WC.condT rfl ?_
      refine WC.seq ?_
      refine WC.region ?_
      refine WL.val (OV.assign rfl) rfl ?_
      refine WL.nil ?_
      refine WX.next ?_
      refine WC.ret ?_
      refine WX.then_ret ?_
      exact WX.ret1 rfl rfl rfl (fun w hw => ⟨rfl, hw.fr⟩)
    · simp only [decide_eq_true_eq, decide_eq_false_iff_not, Bool.not_eq_true', Bool.not_eq_false'] at g94
      refine WL.go (b := false) rfl rfl rfl ?_
      refine WL.val (OV.move rfl) rfl ?_
      refine WL.go (b := false) rfl rfl rfl ?_
      refine WL.val (OV.geq rfl rfl) rfl ?_
      refine WL.val (OV.pickF rfl rfl) rfl ?_
      refine WL.val (OV.move rfl) rfl ?_
      refine WL.split (t := 98) rfl (fun g98 => ?_) (fun g98 => ?_)
      · simp only [decide_eq_true_eq, decide_eq_false_iff_not, Bool.not_eq_true', Bool.not_eq_false'] at g98
        refine WL.skip (b := true) rfl rfl rfl rfl ?_
        refine WL.skip (b := true) rfl rfl rfl rfl ?_
        refine WL.skip (b := true) rfl rfl rfl rfl ?_
        refine WL.skip (b := true) rfl rfl rfl rfl ?_
        refine WL.skip (b := true) rfl rfl rfl rfl ?_
        refine WL.val (OV.pickT rfl rfl) rfl ?_
        refine WL.nil ?_
        refine WX.next ?_
        refine WC.condT rfl ?_
        refine WC.seq ?_
        refine WC.region ?_
        refine WL.val (OV.assign rfl) rfl ?_
        refine WL.nil ?_
        refine WX.next ?_
        refine WC.ret ?_
        refine WX.then_ret ?_
        exact WX.ret1 rfl rfl rfl (fun w hw => ⟨rfl, hw.fr⟩)
      · simp only [decide_eq_true_eq, decide_eq_false_iff_not, Bool.not_eq_true', Bool.not_eq_false'] at g98
        refine WL.go (b := false) rfl rfl rfl ?_
        refine WL.val (OV.move rfl) rfl ?_
        refine WL.go (b := false) rfl rfl rfl ?_
        refine WL.val (OV.move rfl) rfl ?_
        refine WL.go (b := false) rfl rfl rfl ?_
        refine WL.val (OV.indexStr (r := (hexS d).getD k.toNat 0) rfl rfl T.u9 ⟨by omega, strGetD _ _ (by simp [hexS_length, hd]; omega)⟩) rfl ?_
        refine WL.go (b := false) rfl rfl rfl ?_
        refine WL.val (OV.move rfl) rfl ?_
        refine WL.go (b := false) rfl rfl rfl ?_
        first
        | (refine WL.val (OV.eql rfl rfl) rfl ?_)
        | (refine WL.val (OV.eqlS rfl rfl) rfl ?_)
        | (refine WL.val (OV.eqlA T.u25 T.u5 T.z5 (by kernel_rfl) rfl rfl (by first | assumption | rfl) (by first | assumption | rfl)) rfl ?_)
        | (refine WL.val (OV.eqlB T.u4 rfl rfl) rfl ?_)
        refine WL.val (OV.pickF rfl rfl) rfl ?_
        refine WL.nil ?_
        refine WX.next ?_
        refine WC.cond rfl (fun c104 => ?_) (fun c104 => ?_)
        · simp only [decide_eq_true_eq, decide_eq_false_iff_not, Bool.not_eq_true', Bool.not_eq_false'] at c104
          refine WC.seq ?_
          refine WC.region ?_
          refine WL.val (OV.assign rfl) rfl ?_
          refine WL.nil ?_
          refine WX.next ?_
          refine WC.ret ?_
          refine WX.then_ret ?_
          exact WX.ret1 rfl rfl rfl (fun w hw => ⟨by first | rfl | (have hb := (back_iff hd (by omega) (fun h => c104 (by rw [h])) hF2); simp [hb.2 (by omega)]), hw.fr⟩)
        · simp only [decide_eq_true_eq, decide_eq_false_iff_not, Bool.not_eq_true', Bool.not_eq_false'] at c104
          refine WC.skip ?_
          refine WX.next ?_
          refine WC.seq ?_
          refine WC.region ?_
          refine WL.val (OV.move rfl) rfl ?_
          refine WL.strToBytes rfl T.u9 T.u22 T.u5 rfl ?_
          intro b106 cp pad
          refine WL.val (OV.assign rfl) rfl ?_
          refine WL.nil ?_
          refine WX.next ?_
          refine WC.seq ?_
          refine WC.region ?_
          refine WL.val (OV.move rfl) rfl ?_
          refine WL.val (OV.move rfl) rfl ?_
          refine WL.val (OV.move rfl) rfl ?_
          refine WL.val ((OV.indexSlice1 rfl rfl T.u22 T.z5 (by rw [hTs]; omega)).cast (u := .pointer (some ⟨b106, k.toNat, none⟩)) (by rw [Nat.zero_add])) rfl ?_
          refine WL.store1F rfl rfl rfl T.z5 (by simp [u8s_length, hexS_length, hd]; omega) (by simp [u8s_length, hexS_length, hd]; omega) ?_
          rw [List.set_append_left _ _ (by simp [u8s_length, hexS_length, hd]; omega), u8s_set]
          refine WL.nil ?_
          refine WX.next ?_
          refine WC.seq ?_
          refine WC.region ?_
          refine WL.val (OV.move rfl) rfl ?_
          refine WL.val (OV.bytesToStr (l := (hexS d).set k.toNat c) rfl (fun _ hw => own_srcP (.head _) (by simp [u8s_length, ByteArray.size])) T.u22 T.u5 T.u9) rfl ?_
          refine WL.callP (ι := List UInt8 × Int) (vv := fun q => .tuple #[.agg (u8s q.1).toArray, .int .i64 q.2]) (pp := fun q => FH (ByteArray.data ((⟨((hexS d).set k.toNat c).toArray⟩ : ByteArray))).toList q.1 q.2) (by kernel_rfl) rfl rfl (fun w' hw => (fromHex_calls ((⟨((hexS d).set k.toNat c).toArray⟩ : ByteArray)) (by simp [ByteArray.size, hexS_length, hd]) w').mono (fun _ _ ⟨D, er, h1, h2, h3⟩ => ⟨(D, er), h1, h2, h3⟩)) ?_
          rintro ⟨D2, er2⟩ hF2
          have hD2 : D2.length = 32 := hF2.len
          refine WL.val (OV.move rfl) rfl ?_
          refine WL.val (OV.extract rfl rfl) rfl ?_
          refine WL.val (OV.extract rfl rfl) rfl ?_
          refine WL.alloc T.zr25 rfl ?_
          intro b19
          refine WL.storeAll (vs := u8s D2) rfl rfl (List.all_eq_true.2 (u8s_one _)) (by rw [u8s_length, hD2]; exact T.z25) (by rw [u8s_length, u8s_length, hD2]; rfl) ?_
          refine WL.val (OV.assign rfl) rfl ?_
          refine WL.nil ?_
          refine WX.next ?_
          refine WC.seq ?_
          refine WC.region ?_
          refine WL.val (OV.move rfl) rfl ?_
          refine WL.val (OV.geq rfl rfl) rfl ?_
          refine WL.val (OV.move rfl) rfl ?_
          refine WL.split (t := 119) rfl (fun g119 => ?_) (fun g119 => ?_)
          · simp only [decide_eq_true_eq, decide_eq_false_iff_not, Bool.not_eq_true', Bool.not_eq_false'] at g119
            refine WL.go (b := true) rfl rfl rfl ?_
            refine WL.val (OV.move rfl) rfl ?_
            refine WL.go (b := true) rfl rfl rfl ?_
            refine WL.val (OV.leq rfl rfl) rfl ?_
            refine WL.val (OV.pickT rfl rfl) rfl ?_
            refine WL.val (OV.move rfl) rfl ?_
            refine WL.split (t := 123) rfl (fun g123 => ?_) (fun g123 => ?_)
            · simp only [decide_eq_true_eq, decide_eq_false_iff_not, Bool.not_eq_true', Bool.not_eq_false'] at g123
              refine WL.skip (b := true) rfl rfl rfl rfl ?_
              refine WL.skip (b := true) rfl rfl rfl rfl ?_
              refine WL.skip (b := true) rfl rfl rfl rfl ?_
              refine WL.skipU rfl rfl rfl ?_
              refine WL.skipU rfl rfl rfl ?_
              refine WL.skip (b := true) rfl rfl rfl rfl ?_
              refine WL.val (OV.pickT rfl rfl) rfl ?_
              refine WL.val (OV.assign rfl) rfl ?_
              refine WL.nil ?_
              refine WX.next ?_
              refine WC.seq ?_
              refine WC.region ?_
              refine WL.val (OV.move rfl) rfl ?_
              first
              | (refine WL.val (OV.eql rfl rfl) rfl ?_)
              | (refine WL.val (OV.eqlS rfl rfl) rfl ?_)
              | (refine WL.val (OV.eqlA T.u25 T.u5 T.z5 (by kernel_rfl) rfl rfl (by first | assumption | rfl) (by first | assumption | rfl)) rfl ?_)
              | (refine WL.val (OV.eqlB T.u4 rfl rfl) rfl ?_)
              refine WL.val (OV.move rfl) rfl ?_
              first
              | (refine WL.val (OV.eql rfl rfl) rfl ?_)
              | (refine WL.val (OV.eqlS rfl rfl) rfl ?_)
              | (refine WL.val (OV.eqlA T.u25 T.u5 T.z5 (by kernel_rfl) rfl rfl (by first | assumption | rfl) (by first | assumption | rfl)) rfl ?_)
              | (refine WL.val (OV.eqlB T.u4 rfl rfl) rfl ?_)
              refine WL.val (OV.move rfl) rfl ?_
              refine WL.known (t := 135) (b := true) rfl (by have hb := (back_iff hd (by omega) (fun h => c104 (by rw [h])) hF2); simp only [decide_eq_true_eq, decide_eq_decide, decide_eq_false_iff_not, Bool.decide_eq_true]; omega) ?_
              refine WL.go (b := true) rfl rfl rfl ?_
              refine WL.val (OV.move rfl) rfl ?_
              refine WL.go (b := true) rfl rfl rfl ?_
              refine WL.val (OV.not rfl) rfl ?_
              refine WL.go (b := true) rfl rfl rfl ?_
              refine WL.val (OV.move rfl) rfl ?_
              refine WL.go (b := false) rfl rfl rfl ?_
              refine WL.val (OV.loadN (cs := u8s D2) rfl T.u25 rfl (by rw [u8s_length, hD2]; exact T.z25) (fun _ hw j v hj => by rw [add_off, Nat.zero_add]; exact own_cells hw (.head _) j v hj)) rfl ?_
              refine WL.go (b := false) rfl rfl rfl ?_
              refine WL.val (OV.loadN (cs := u8s d) rfl T.u25 rfl (by rw [u8s_length, hd]; exact T.z25) (fun _ hw j v hj => by rw [add_off, Nat.zero_add]; exact own_cells hw (.tail _ (.tail _ (.tail _ (.tail _ (.tail _ (.tail _ (.tail _ (.head _)))))))) j v hj)) rfl ?_
              refine WL.go (b := false) rfl rfl rfl ?_
              first
              | (refine WL.val (OV.neq rfl rfl) rfl ?_)
              | (refine WL.val (OV.neqS rfl rfl) rfl ?_)
              | (refine WL.val (OV.neqA T.u25 T.u5 T.z5 (by kernel_rfl) rfl rfl (by first | assumption | rfl) (by first | assumption | rfl)) rfl ?_)
              | (refine WL.val (OV.neqB T.u4 rfl rfl) rfl ?_)
              refine WL.go (b := true) rfl rfl rfl ?_
              refine WL.val (OV.pickF rfl rfl) rfl ?_
              refine WL.val (OV.pickT rfl rfl) rfl ?_
              refine WL.val (OV.assign rfl) rfl ?_
              refine WL.nil ?_
              refine WX.next ?_
              refine WC.ret ?_
              exact WX.ret1 rfl rfl rfl (fun w hw => ⟨by first | rfl | (have hb := (back_iff hd (by omega) (fun h => c104 (by rw [h])) hF2); simp [hb.2 (by omega)]), hw.fr⟩)
            · simp only [decide_eq_true_eq, decide_eq_false_iff_not, Bool.not_eq_true', Bool.not_eq_false'] at g123
              refine WL.go (b := false) rfl rfl rfl ?_
              refine WL.val (OV.move rfl) rfl ?_
              refine WL.go (b := false) rfl rfl rfl ?_
              refine WL.val (OV.geq rfl rfl) rfl ?_
              refine WL.go (b := false) rfl rfl rfl ?_
              refine WL.val (OV.move rfl) rfl ?_
              refine WL.split (t := 126) rfl (fun g126 => ?_) (fun g126 => ?_)
              · simp only [decide_eq_true_eq, decide_eq_false_iff_not, Bool.not_eq_true', Bool.not_eq_false'] at g126
                refine WL.go (b := true) rfl rfl rfl ?_
                refine WL.val (OV.move rfl) rfl ?_
                refine WL.go (b := true) rfl rfl rfl ?_
                refine WL.val (OV.leq rfl rfl) rfl ?_
                refine WL.go (b := false) rfl rfl rfl ?_
                refine WL.val (OV.pickT rfl rfl) rfl ?_
                refine WL.val (OV.pickF rfl rfl) rfl ?_
                refine WL.val (OV.assign rfl) rfl ?_
                refine WL.nil ?_
                refine WX.next ?_
                refine WC.seq ?_
                refine WC.region ?_
                refine WL.val (OV.move rfl) rfl ?_
                first
                | (refine WL.val (OV.eql rfl rfl) rfl ?_)
                | (refine WL.val (OV.eqlS rfl rfl) rfl ?_)
                | (refine WL.val (OV.eqlA T.u25 T.u5 T.z5 (by kernel_rfl) rfl rfl (by first | assumption | rfl) (by first | assumption | rfl)) rfl ?_)
                | (refine WL.val (OV.eqlB T.u4 rfl rfl) rfl ?_)
                refine WL.val (OV.move rfl) rfl ?_
                first
                | (refine WL.val (OV.eql rfl rfl) rfl ?_)
                | (refine WL.val (OV.eqlS rfl rfl) rfl ?_)
                | (refine WL.val (OV.eqlA T.u25 T.u5 T.z5 (by kernel_rfl) rfl rfl (by first | assumption | rfl) (by first | assumption | rfl)) rfl ?_)
                | (refine WL.val (OV.eqlB T.u4 rfl rfl) rfl ?_)
                refine WL.val (OV.move rfl) rfl ?_
                refine WL.known (t := 135) (b := true) rfl (by have hb := (back_iff hd (by omega) (fun h => c104 (by rw [h])) hF2); simp only [decide_eq_true_eq, decide_eq_decide, decide_eq_false_iff_not, Bool.decide_eq_true]; omega) ?_
                refine WL.go (b := true) rfl rfl rfl ?_
                refine WL.val (OV.move rfl) rfl ?_
                refine WL.go (b := true) rfl rfl rfl ?_
                refine WL.val (OV.not rfl) rfl ?_
                refine WL.go (b := true) rfl rfl rfl ?_
                refine WL.val (OV.move rfl) rfl ?_
                refine WL.split (t := 138) rfl (fun g138 => ?_) (fun g138 => ?_)
                · simp only [decide_eq_true_eq, decide_eq_false_iff_not, Bool.not_eq_true', Bool.not_eq_false'] at g138
                  refine WL.skip (b := true) rfl rfl rfl rfl ?_
                  refine WL.skip (b := true) rfl rfl rfl rfl ?_
                  refine WL.skip (b := true) rfl rfl rfl rfl ?_
                  refine WL.go (b := true) rfl rfl rfl ?_
                  refine WL.val (OV.pickT rfl rfl) rfl ?_
                  refine WL.val (OV.pickT rfl rfl) rfl ?_
                  refine WL.val (OV.assign rfl) rfl ?_
                  refine WL.nil ?_
                  refine WX.next ?_
                  refine WC.ret ?_
                  exact WX.ret1 rfl rfl rfl (fun w hw => ⟨by first | rfl | (have hb := (back_iff hd (by omega) (fun h => c104 (by rw [h])) hF2); simp [hb.2 (by omega)]), hw.fr⟩)
                · simp only [decide_eq_true_eq, decide_eq_false_iff_not, Bool.not_eq_true', Bool.not_eq_false'] at g138
                  refine WL.go (b := false) rfl rfl rfl ?_
                  refine WL.val (OV.loadN (cs := u8s D2) rfl T.u25 rfl (by rw [u8s_length, hD2]; exact T.z25) (fun _ hw j v hj => by rw [add_off, Nat.zero_add]; exact own_cells hw (.head _) j v hj)) rfl ?_
                  refine WL.go (b := false) rfl rfl rfl ?_
                  refine WL.val (OV.loadN (cs := u8s d) rfl T.u25 rfl (by rw [u8s_length, hd]; exact T.z25) (fun _ hw j v hj => by rw [add_off, Nat.zero_add]; exact own_cells hw (.tail _ (.tail _ (.tail _ (.tail _ (.tail _ (.tail _ (.tail _ (.head _)))))))) j v hj)) rfl ?_
                  refine WL.go (b := false) rfl rfl rfl ?_
                  first
                  | (refine WL.val (OV.neq rfl rfl) rfl ?_)
                  | (refine WL.val (OV.neqS rfl rfl) rfl ?_)
                  | (refine WL.val (OV.neqA T.u25 T.u5 T.z5 (by kernel_rfl) rfl rfl (by first | assumption | rfl) (by first | assumption | rfl)) rfl ?_)
                  | (refine WL.val (OV.neqB T.u4 rfl rfl) rfl ?_)
                  refine WL.go (b := true) rfl rfl rfl ?_
                  refine WL.val (OV.pickF rfl rfl) rfl ?_
                  refine WL.val (OV.pickT rfl rfl) rfl ?_
                  refine WL.val (OV.assign rfl) rfl ?_
                  refine WL.nil ?_
                  refine WX.next ?_
                  refine WC.ret ?_
                  exact WX.ret1 rfl rfl rfl (fun w hw => ⟨by first | rfl | (have hb := (back_iff hd (by omega) (fun h => c104 (by rw [h])) hF2); simp [hb.2 (by omega)]), hw.fr⟩)
              · simp only [decide_eq_true_eq, decide_eq_false_iff_not, Bool.not_eq_true', Bool.not_eq_false'] at g126
                refine WL.skip (b := false) rfl rfl rfl rfl ?_
                refine WL.skip (b := false) rfl rfl rfl rfl ?_
                refine WL.go (b := false) rfl rfl rfl ?_
                refine WL.val (OV.pickF rfl rfl) rfl ?_
                refine WL.val (OV.pickF rfl rfl) rfl ?_
                refine WL.val (OV.assign rfl) rfl ?_
                refine WL.nil ?_
                refine WX.next ?_
                refine WC.seq ?_
                refine WC.region ?_
                refine WL.val (OV.move rfl) rfl ?_
                first
                | (refine WL.val (OV.eql rfl rfl) rfl ?_)
                | (refine WL.val (OV.eqlS rfl rfl) rfl ?_)
                | (refine WL.val (OV.eqlA T.u25 T.u5 T.z5 (by kernel_rfl) rfl rfl (by first | assumption | rfl) (by first | assumption | rfl)) rfl ?_)
                | (refine WL.val (OV.eqlB T.u4 rfl rfl) rfl ?_)
                refine WL.val (OV.move rfl) rfl ?_
                first
                | (refine WL.val (OV.eql rfl rfl) rfl ?_)
                | (refine WL.val (OV.eqlS rfl rfl) rfl ?_)
                | (refine WL.val (OV.eqlA T.u25 T.u5 T.z5 (by kernel_rfl) rfl rfl (by first | assumption | rfl) (by first | assumption | rfl)) rfl ?_)
                | (refine WL.val (OV.eqlB T.u4 rfl rfl) rfl ?_)
                refine WL.val (OV.move rfl) rfl ?_
                refine WL.known (t := 135) (b := true) rfl (by have hb := (back_iff hd (by omega) (fun h => c104 (by rw [h])) hF2); simp only [decide_eq_true_eq, decide_eq_decide, decide_eq_false_iff_not, Bool.decide_eq_true]; omega) ?_
                refine WL.go (b := true) rfl rfl rfl ?_
                refine WL.val (OV.move rfl) rfl ?_
                refine WL.go (b := true) rfl rfl rfl ?_
                refine WL.val (OV.not rfl) rfl ?_
                refine WL.go (b := true) rfl rfl rfl ?_
                refine WL.val (OV.move rfl) rfl ?_
                refine WL.skip (b := true) rfl rfl rfl rfl ?_
                refine WL.skip (b := true) rfl rfl rfl rfl ?_
                refine WL.skip (b := true) rfl rfl rfl rfl ?_
                refine WL.go (b := true) rfl rfl rfl ?_
                refine WL.val (OV.pickT rfl rfl) rfl ?_
                refine WL.val (OV.pickT rfl rfl) rfl ?_
                refine WL.val (OV.assign rfl) rfl ?_
                refine WL.nil ?_
                refine WX.next ?_
                refine WC.ret ?_
                exact WX.ret1 rfl rfl rfl (fun w hw => ⟨by first | rfl | (have hb := (back_iff hd (by omega) (fun h => c104 (by rw [h])) hF2); simp [hb.2 (by omega)]), hw.fr⟩)
          · simp only [decide_eq_true_eq, decide_eq_false_iff_not, Bool.not_eq_true', Bool.not_eq_false'] at g119
            refine WL.skip (b := false) rfl rfl rfl rfl ?_
            refine WL.skip (b := false) rfl rfl rfl rfl ?_
            refine WL.val (OV.pickF rfl rfl) rfl ?_
            refine WL.val (OV.move rfl) rfl ?_
            refine WL.go (b := false) rfl rfl rfl ?_
            refine WL.val (OV.move rfl) rfl ?_
            refine WL.go (b := false) rfl rfl rfl ?_
            refine WL.val (OV.geq rfl rfl) rfl ?_
            refine WL.go (b := false) rfl rfl rfl ?_
            refine WL.val (OV.move rfl) rfl ?_
            refine WL.split (t := 126) rfl (fun g126 => ?_) (fun g126 => ?_)
            · simp only [decide_eq_true_eq, decide_eq_false_iff_not, Bool.not_eq_true', Bool.not_eq_false'] at g126
              refine WL.go (b := true) rfl rfl rfl ?_
              refine WL.val (OV.move rfl) rfl ?_
              refine WL.go (b := true) rfl rfl rfl ?_
              refine WL.val (OV.leq rfl rfl) rfl ?_
              refine WL.go (b := false) rfl rfl rfl ?_
              refine WL.val (OV.pickT rfl rfl) rfl ?_
              refine WL.val (OV.pickF rfl rfl) rfl ?_
              refine WL.val (OV.assign rfl) rfl ?_
              refine WL.nil ?_
              refine WX.next ?_
              refine WC.seq ?_
              refine WC.region ?_
              refine WL.val (OV.move rfl) rfl ?_
              first
              | (refine WL.val (OV.eql rfl rfl) rfl ?_)
              | (refine WL.val (OV.eqlS rfl rfl) rfl ?_)
              | (refine WL.val (OV.eqlA T.u25 T.u5 T.z5 (by kernel_rfl) rfl rfl (by first | assumption | rfl) (by first | assumption | rfl)) rfl ?_)
              | (refine WL.val (OV.eqlB T.u4 rfl rfl) rfl ?_)
              refine WL.val (OV.move rfl) rfl ?_
              first
              | (refine WL.val (OV.eql rfl rfl) rfl ?_)
              | (refine WL.val (OV.eqlS rfl rfl) rfl ?_)
              | (refine WL.val (OV.eqlA T.u25 T.u5 T.z5 (by kernel_rfl) rfl rfl (by first | assumption | rfl) (by first | assumption | rfl)) rfl ?_)
              | (refine WL.val (OV.eqlB T.u4 rfl rfl) rfl ?_)
              refine WL.val (OV.move rfl) rfl ?_
              refine WL.known (t := 135) (b := true) rfl (by have hb := (back_iff hd (by omega) (fun h => c104 (by rw [h])) hF2); simp only [decide_eq_true_eq, decide_eq_decide, decide_eq_false_iff_not, Bool.decide_eq_true]; omega) ?_
              refine WL.go (b := true) rfl rfl rfl ?_
              refine WL.val (OV.move rfl) rfl ?_
              refine WL.go (b := true) rfl rfl rfl ?_
              refine WL.val (OV.not rfl) rfl ?_
              refine WL.go (b := true) rfl rfl rfl ?_
              refine WL.val (OV.move rfl) rfl ?_
              refine WL.split (t := 138) rfl (fun g138 => ?_) (fun g138 => ?_)
              · simp only [decide_eq_true_eq, decide_eq_false_iff_not, Bool.not_eq_true', Bool.not_eq_false'] at g138
                refine WL.skip (b := true) rfl rfl rfl rfl ?_
                refine WL.skip (b := true) rfl rfl rfl rfl ?_
                refine WL.skip (b := true) rfl rfl rfl rfl ?_
                refine WL.go (b := true) rfl rfl rfl ?_
                refine WL.val (OV.pickT rfl rfl) rfl ?_
                refine WL.val (OV.pickT rfl rfl) rfl ?_
                refine WL.val (OV.assign rfl) rfl ?_
                refine WL.nil ?_
                refine WX.next ?_
                refine WC.ret ?_
                exact WX.ret1 rfl rfl rfl (fun w hw => ⟨by first | rfl | (have hb := (back_iff hd (by omega) (fun h => c104 (by rw [h])) hF2); simp [hb.2 (by omega)]), hw.fr⟩)
              · simp only [decide_eq_true_eq, decide_eq_false_iff_not, Bool.not_eq_true', Bool.not_eq_false'] at g138
                refine WL.go (b := false) rfl rfl rfl ?_
                refine WL.val (OV.loadN (cs := u8s D2) rfl T.u25 rfl (by rw [u8s_length, hD2]; exact T.z25) (fun _ hw j v hj => by rw [add_off, Nat.zero_add]; exact own_cells hw (.head _) j v hj)) rfl ?_
                refine WL.go (b := false) rfl rfl rfl ?_
                refine WL.val (OV.loadN (cs := u8s d) rfl T.u25 rfl (by rw [u8s_length, hd]; exact T.z25) (fun _ hw j v hj => by rw [add_off, Nat.zero_add]; exact own_cells hw (.tail _ (.tail _ (.tail _ (.tail _ (.tail _ (.tail _ (.tail _ (.head _)))))))) j v hj)) rfl ?_
                refine WL.go (b := false) rfl rfl rfl ?_
                first
                | (refine WL.val (OV.neq rfl rfl) rfl ?_)
                | (refine WL.val (OV.neqS rfl rfl) rfl ?_)
                | (refine WL.val (OV.neqA T.u25 T.u5 T.z5 (by kernel_rfl) rfl rfl (by first | assumption | rfl) (by first | assumption | rfl)) rfl ?_)
                | (refine WL.val (OV.neqB T.u4 rfl rfl) rfl ?_)
                refine WL.go (b := true) rfl rfl rfl ?_
                refine WL.val (OV.pickF rfl rfl) rfl ?_
                refine WL.val (OV.pickT rfl rfl) rfl ?_
                refine WL.val (OV.assign rfl) rfl ?_
                refine WL.nil ?_
                refine WX.next ?_
                refine WC.ret ?_
                exact WX.ret1 rfl rfl rfl (fun w hw => ⟨by first | rfl | (have hb := (back_iff hd (by omega) (fun h => c104 (by rw [h])) hF2); simp [hb.2 (by omega)]), hw.fr⟩)
            · simp only [decide_eq_true_eq, decide_eq_false_iff_not, Bool.not_eq_true', Bool.not_eq_false'] at g126
              refine WL.skip (b := false) rfl rfl rfl rfl ?_
              refine WL.skip (b := false) rfl rfl rfl rfl ?_
              refine WL.go (b := false) rfl rfl rfl ?_
              refine WL.val (OV.pickF rfl rfl) rfl ?_
              refine WL.val (OV.pickF rfl rfl) rfl ?_
              refine WL.val (OV.assign rfl) rfl ?_
              refine WL.nil ?_
              refine WX.next ?_
              refine WC.seq ?_
              refine WC.region ?_
              refine WL.val (OV.move rfl) rfl ?_
              first
              | (refine WL.val (OV.eql rfl rfl) rfl ?_)
              | (refine WL.val (OV.eqlS rfl rfl) rfl ?_)
              | (refine WL.val (OV.eqlA T.u25 T.u5 T.z5 (by kernel_rfl) rfl rfl (by first | assumption | rfl) (by first | assumption | rfl)) rfl ?_)
              | (refine WL.val (OV.eqlB T.u4 rfl rfl) rfl ?_)
              refine WL.val (OV.move rfl) rfl ?_
              first
              | (refine WL.val (OV.eql rfl rfl) rfl ?_)
              | (refine WL.val (OV.eqlS rfl rfl) rfl ?_)
              | (refine WL.val (OV.eqlA T.u25 T.u5 T.z5 (by kernel_rfl) rfl rfl (by first | assumption | rfl) (by first | assumption | rfl)) rfl ?_)
              | (refine WL.val (OV.eqlB T.u4 rfl rfl) rfl ?_)
              refine WL.val (OV.move rfl) rfl ?_
              refine WL.known (t := 135) (b := true) rfl (by have hb := (back_iff hd (by omega) (fun h => c104 (by rw [h])) hF2); simp only [decide_eq_true_eq, decide_eq_decide, decide_eq_false_iff_not, Bool.decide_eq_true]; omega) ?_
              refine WL.go (b := true) rfl rfl rfl ?_
              refine WL.val (OV.move rfl) rfl ?_
              refine WL.go (b := true) rfl rfl rfl ?_
              refine WL.val (OV.not rfl) rfl ?_
              refine WL.go (b := true) rfl rfl rfl ?_
              refine WL.val (OV.move rfl) rfl ?_
              refine WL.skip (b := true) rfl rfl rfl rfl ?_
              refine WL.skip (b := true) rfl rfl rfl rfl ?_
              refine WL.skip (b := true) rfl rfl rfl rfl ?_
              refine WL.go (b := true) rfl rfl rfl ?_
              refine WL.val (OV.pickT rfl rfl) rfl ?_
              refine WL.val (OV.pickT rfl rfl) rfl ?_
              refine WL.val (OV.assign rfl) rfl ?_
              refine WL.nil ?_
              refine WX.next ?_
              refine WC.ret ?_
              exact WX.ret1 rfl rfl rfl (fun w hw => ⟨by first | rfl | (have hb := (back_iff hd (by omega) (fun h => c104 (by rw [h])) hF2); simp [hb.2 (by omega)]), hw.fr⟩)
  · simp only [decide_eq_true_eq, decide_eq_false_iff_not, Bool.not_eq_true', Bool.not_eq_false'] at g52
    refine WL.skip (b := false) rfl rfl rfl rfl ?_
    refine WL.skip (b := false) rfl rfl rfl rfl ?_
    refine WL.skip (b := false) rfl rfl rfl rfl ?_
    refine WL.skip (b := false) rfl rfl rfl rfl ?_
    refine WL.val (OV.pickF rfl rfl) rfl ?_
    refine WL.val (OV.move rfl) rfl ?_
    refine WL.go (b := false) rfl rfl rfl ?_
    refine WL.val (OV.move rfl) rfl ?_
    refine WL.go (b := false) rfl rfl rfl ?_
    first
    | (refine WL.val (OV.neq rfl rfl) rfl ?_)
    | (refine WL.val (OV.neqS rfl rfl) rfl ?_)
    | (refine WL.val (OV.neqA T.u25 T.u5 T.z5 (by kernel_rfl) rfl rfl (by first | assumption | rfl) (by first | assumption | rfl)) rfl ?_)
    | (refine WL.val (OV.neqB T.u4 rfl rfl) rfl ?_)
    refine WL.go (b := false) rfl rfl rfl ?_
    refine WL.val (OV.move rfl) rfl ?_
    refine WL.known (t := 61) (b := true) rfl (by simp [g52]) ?_
    refine WL.go (b := true) rfl rfl rfl ?_
    refine WL.val (OV.move rfl) rfl ?_
    refine WL.go (b := true) rfl rfl rfl ?_
    first
    | (refine WL.val (OV.neq rfl rfl) rfl ?_)
    | (refine WL.val (OV.neqS rfl rfl) rfl ?_)
    | (refine WL.val (OV.neqA T.u25 T.u5 T.z5 (by kernel_rfl) rfl rfl (by first | assumption | rfl) (by first | assumption | rfl)) rfl ?_)
    | (refine WL.val (OV.neqB T.u4 rfl rfl) rfl ?_)
    refine WL.go (b := true) rfl rfl rfl ?_
    refine WL.val (OV.move rfl) rfl ?_
    refine WL.known (t := 64) (b := false) rfl (by have h11 : er1 = 11 := (fh_bad hF1 g52).1; simp [h11]) ?_
    refine WL.go (b := false) rfl rfl rfl ?_
    refine WL.val (OV.loadN (cs := u8s D1) rfl T.u25 rfl (by rw [u8s_length, hD1]; exact T.z25) (fun _ hw j v hj => by rw [add_off, Nat.zero_add]; exact own_cells hw (.head _) j v hj)) rfl ?_
    refine WL.go (b := false) rfl rfl rfl ?_
    refine WL.val (OV.build0 T.u25 T.zr25 T.z5) rfl ?_
    refine WL.go (b := false) rfl rfl rfl ?_
    refine WL.val ((OV.neqA T.u25 T.u5 T.z5 (by kernel_rfl) rfl rfl (by first | assumption | rfl) (by first | assumption | rfl)).cast (u := .bool false) (by rw [decide_eq_true (show D1 = List.replicate 32 0 from (fh_bad hF1 g52).2)]; rfl)) rfl ?_
    refine WL.go (b := true) rfl rfl rfl ?_
    refine WL.val (OV.pickF rfl rfl) rfl ?_
    refine WL.go (b := false) rfl rfl rfl ?_
    refine WL.val (OV.pickT rfl rfl) rfl ?_
    refine WL.val (OV.pickF rfl rfl) rfl ?_
    refine WL.nil ?_
    refine WX.next ?_
    refine WC.condF rfl ?_
    refine WC.skip ?_
    refine WX.next ?_
    refine WC.seq ?_
    refine WC.region ?_
    refine WL.val (OV.move rfl) rfl ?_
    refine WL.val (OV.move rfl) rfl ?_
    refine WL.buildSlice1 T.u22 T.z5 T.zr5 rfl rfl rfl ?_
    intro bl74
    refine WL.val (OV.bytesToStr (l := [c]) rfl (fun _ hw => own_src (.head _) rfl) T.u22 T.u5 T.u9) rfl ?_
    refine WL.val (OV.addS (s := ⟨(hexS d).toArray⟩) (u := ⟨[c].toArray⟩) rfl rfl (by rw [hTs]; show 64 + 1 ≤ 9223372036854775807; omega)) rfl ?_
    refine WL.call0 (v := .tuple #[.agg (u8s (List.replicate 32 0)).toArray, .int .i64 11]) (by kernel_rfl) rfl rfl (fun w' hw => (fromHex_calls ((⟨(hexS d).toArray⟩ : ByteArray) ++ (⟨[c].toArray⟩ : ByteArray)) (by rw [ByteArray.size_append, hTs]; show 64 + 1 ≤ 140737488351232; omega) w').mono (fun _ _ ⟨D, er, h1, h2, h3⟩ => by
      obtain ⟨rfl, rfl⟩ := h2.unique (fh_long hd)
      exact ⟨h1, h3⟩)) ?_
    refine WL.val (OV.move rfl) rfl ?_
    refine WL.val (OV.extract rfl rfl) rfl ?_
    refine WL.val (OV.extract rfl rfl) rfl ?_
    refine WL.alloc T.zr25 rfl ?_
    intro b14
    refine WL.storeAll (vs := u8s (List.replicate 32 0)) rfl rfl (List.all_eq_true.2 (u8s_one _)) T.z25 rfl ?_
    refine WL.val (OV.assign rfl) rfl ?_
    refine WL.nil ?_
    refine WX.next ?_
    refine WC.seq ?_
    refine WC.region ?_
    refine WL.val (OV.move rfl) rfl ?_
    refine WL.val (OV.sliceStr (ml := some 1) (mh := none) (l := 1) (h := 64) rfl T.u9 rfl rfl rfl hTs (by rw [hTs]; decide)) rfl ?_
    refine WL.call0 (v := .tuple #[.agg (u8s (List.replicate 32 0)).toArray, .int .i64 11]) (by kernel_rfl) rfl rfl (fun w' hw => (fromHex_calls ((⟨(hexS d).toArray⟩ : ByteArray).extract 1 64) (by rw [ByteArray.size_extract, hTs]; decide) w').mono (fun _ _ ⟨D, er, h1, h2, h3⟩ => by
      obtain ⟨rfl, rfl⟩ := h2.unique (fh_short hd)
      exact ⟨h1, h3⟩)) ?_
    refine WL.val (OV.move rfl) rfl ?_
    refine WL.val (OV.extract rfl rfl) rfl ?_
    refine WL.val (OV.extract rfl rfl) rfl ?_
    refine WL.alloc T.zr25 rfl ?_
    intro b16
    refine WL.storeAll (vs := u8s (List.replicate 32 0)) rfl rfl (List.all_eq_true.2 (u8s_one _)) T.z25 rfl ?_
    refine WL.val (OV.assign rfl) rfl ?_
    refine WL.nil ?_
    refine WX.next ?_
    refine WC.seq ?_
    refine WC.seq ?_
    refine WC.region ?_
    refine WL.val (OV.move rfl) rfl ?_
    first
    | (refine WL.val (OV.neq rfl rfl) rfl ?_)
    | (refine WL.val (OV.neqS rfl rfl) rfl ?_)
    | (refine WL.val (OV.neqA T.u25 T.u5 T.z5 (by kernel_rfl) rfl rfl (by first | assumption | rfl) (by first | assumption | rfl)) rfl ?_)
    | (refine WL.val (OV.neqB T.u4 rfl rfl) rfl ?_)
    refine WL.val (OV.move rfl) rfl ?_
    refine WL.known (t := 88) (b := false) rfl (by simp) ?_
    refine WL.go (b := false) rfl rfl rfl ?_
    refine WL.val (OV.move rfl) rfl ?_
    refine WL.go (b := false) rfl rfl rfl ?_
    first
    | (refine WL.val (OV.neq rfl rfl) rfl ?_)
    | (refine WL.val (OV.neqS rfl rfl) rfl ?_)
    | (refine WL.val (OV.neqA T.u25 T.u5 T.z5 (by kernel_rfl) rfl rfl (by first | assumption | rfl) (by first | assumption | rfl)) rfl ?_)
    | (refine WL.val (OV.neqB T.u4 rfl rfl) rfl ?_)
    refine WL.val (OV.pickF rfl rfl) rfl ?_
    refine WL.nil ?_
    refine WX.next ?_
    refine WC.condF rfl ?_
    refine WC.skip ?_
    refine WX.next ?_
    refine WC.seq ?_
    refine WC.seq ?_
    refine WC.region ?_
    refine WL.val (OV.move rfl) rfl ?_
    refine WL.val (OV.lss rfl rfl) rfl ?_
    refine WL.val (OV.move rfl) rfl ?_
    refine WL.split (t := 94) rfl (fun g94 => ?_) (fun g94 => ?_)
    · simp only [decide_eq_true_eq, decide_eq_false_iff_not, Bool.not_eq_true', Bool.not_eq_false'] at g94
      refine WL.skip (b := true) rfl rfl rfl rfl ?_
      refine WL.skip (b := true) rfl rfl rfl rfl ?_
      refine WL.val (OV.pickT rfl rfl) rfl ?_
      refine WL.val (OV.move rfl) rfl ?_
      refine WL.skip (b := true) rfl rfl rfl rfl ?_
      refine WL.skip (b := true) rfl rfl rfl rfl ?_
      refine WL.skip (b := true) rfl rfl rfl rfl ?_
      refine WL.skip (b := true) rfl rfl rfl rfl ?_
      refine WL.skip (b := true) rfl rfl rfl rfl ?_
      refine WL.val (OV.pickT rfl rfl) rfl ?_
      refine WL.nil ?_
      refine WX.next ?_
      refine WC.condT rfl ?_
      refine WC.seq ?_
      refine WC.region ?_
      refine WL.val (OV.assign rfl) rfl ?_
      refine WL.nil ?_
      refine WX.next ?_
      refine WC.ret ?_
      refine WX.then_ret ?_
      exact WX.ret1 rfl rfl rfl (fun w hw => ⟨by first | rfl | (have hb := (back_iff hd (by omega) (fun h => c104 (by rw [h])) hF2); simp [hb.2 (by omega)]), hw.fr⟩)
    · simp only [decide_eq_true_eq, decide_eq_false_iff_not, Bool.not_eq_true', Bool.not_eq_false'] at g94
      refine WL.go (b := false) rfl rfl rfl ?_
      refine WL.val (OV.move rfl) rfl ?_
      refine WL.go (b := false) rfl rfl rfl ?_
      refine WL.val (OV.geq rfl rfl) rfl ?_
      refine WL.val (OV.pickF rfl rfl) rfl ?_
      refine WL.val (OV.move rfl) rfl ?_
      refine WL.split (t := 98) rfl (fun g98 => ?_) (fun g98 => ?_)
      · simp only [decide_eq_true_eq, decide_eq_false_iff_not, Bool.not_eq_true', Bool.not_eq_false'] at g98
        refine WL.skip (b := true) rfl rfl rfl rfl ?_
        refine WL.skip (b := true) rfl rfl rfl rfl ?_
        refine WL.skip (b := true) rfl rfl rfl rfl ?_
        refine WL.skip (b := true) rfl rfl rfl rfl ?_
        refine WL.skip (b := true) rfl rfl rfl rfl ?_
        refine WL.val (OV.pickT rfl rfl) rfl ?_
        refine WL.nil ?_
        refine WX.next ?_
        refine WC.condT rfl ?_
        refine WC.seq ?_
        refine WC.region ?_
        refine WL.val (OV.assign rfl) rfl ?_
        refine WL.nil ?_
        refine WX.next ?_
        refine WC.ret ?_
        refine WX.then_ret ?_
        exact WX.ret1 rfl rfl rfl (fun w hw => ⟨by first | rfl | (have hb := (back_iff hd (by omega) (fun h => c104 (by rw [h])) hF2); simp [hb.2 (by omega)]), hw.fr⟩)
      · simp only [decide_eq_true_eq, decide_eq_false_iff_not, Bool.not_eq_true', Bool.not_eq_false'] at g98
        refine WL.go (b := false) rfl rfl rfl ?_
        refine WL.val (OV.move rfl) rfl ?_
        refine WL.go (b := false) rfl rfl rfl ?_
        refine WL.val (OV.move rfl) rfl ?_
        refine WL.go (b := false) rfl rfl rfl ?_
        refine WL.val (OV.indexStr (r := (hexS d).getD k.toNat 0) rfl rfl T.u9 ⟨by omega, strGetD _ _ (by simp [hexS_length, hd]; omega)⟩) rfl ?_
        refine WL.go (b := false) rfl rfl rfl ?_
        refine WL.val (OV.move rfl) rfl ?_
        refine WL.go (b := false) rfl rfl rfl ?_
        first
        | (refine WL.val (OV.eql rfl rfl) rfl ?_)
        | (refine WL.val (OV.eqlS rfl rfl) rfl ?_)
        | (refine WL.val (OV.eqlA T.u25 T.u5 T.z5 (by kernel_rfl) rfl rfl (by first | assumption | rfl) (by first | assumption | rfl)) rfl ?_)
        | (refine WL.val (OV.eqlB T.u4 rfl rfl) rfl ?_)
        refine WL.val (OV.pickF rfl rfl) rfl ?_
        refine WL.nil ?_
        refine WX.next ?_
        refine WC.cond rfl (fun c104 => ?_) (fun c104 => ?_)
        · simp only [decide_eq_true_eq, decide_eq_false_iff_not, Bool.not_eq_true', Bool.not_eq_false'] at c104
          refine WC.seq ?_
          refine WC.region ?_
          refine WL.val (OV.assign rfl) rfl ?_
          refine WL.nil ?_
          refine WX.next ?_
          refine WC.ret ?_
          refine WX.then_ret ?_
          exact WX.ret1 rfl rfl rfl (fun w hw => ⟨by first | rfl | (have hb := (back_iff hd (by omega) (fun h => c104 (by rw [h])) hF2); simp [hb.2 (by omega)]), hw.fr⟩)
        · simp only [decide_eq_true_eq, decide_eq_false_iff_not, Bool.not_eq_true', Bool.not_eq_false'] at c104
          refine WC.skip ?_
          refine WX.next ?_
          refine WC.seq ?_
          refine WC.region ?_
          refine WL.val (OV.move rfl) rfl ?_
          refine WL.strToBytes rfl T.u9 T.u22 T.u5 rfl ?_
          intro b106 cp pad
          refine WL.val (OV.assign rfl) rfl ?_
          refine WL.nil ?_
          refine WX.next ?_
          refine WC.seq ?_
          refine WC.region ?_
          refine WL.val (OV.move rfl) rfl ?_
          refine WL.val (OV.move rfl) rfl ?_
          refine WL.val (OV.move rfl) rfl ?_
          refine WL.val ((OV.indexSlice1 rfl rfl T.u22 T.z5 (by rw [hTs]; omega)).cast (u := .pointer (some ⟨b106, k.toNat, none⟩)) (by rw [Nat.zero_add])) rfl ?_
          refine WL.store1F rfl rfl rfl T.z5 (by simp [u8s_length, hexS_length, hd]; omega) (by simp [u8s_length, hexS_length, hd]; omega) ?_
          rw [List.set_append_left _ _ (by simp [u8s_length, hexS_length, hd]; omega), u8s_set]
          refine WL.nil ?_
          refine WX.next ?_
          refine WC.seq ?_
          refine WC.region ?_
          refine WL.val (OV.move rfl) rfl ?_
          refine WL.val (OV.bytesToStr (l := (hexS d).set k.toNat c) rfl (fun _ hw => own_srcP (.head _) (by simp [u8s_length, ByteArray.size])) T.u22 T.u5 T.u9) rfl ?_
          refine WL.callP (ι := List UInt8 × Int) (vv := fun q => .tuple #[.agg (u8s q.1).toArray, .int .i64 q.2]) (pp := fun q => FH (ByteArray.data ((⟨((hexS d).set k.toNat c).toArray⟩ : ByteArray))).toList q.1 q.2) (by kernel_rfl) rfl rfl (fun w' hw => (fromHex_calls ((⟨((hexS d).set k.toNat c).toArray⟩ : ByteArray)) (by simp [ByteArray.size, hexS_length, hd]) w').mono (fun _ _ ⟨D, er, h1, h2, h3⟩ => ⟨(D, er), h1, h2, h3⟩)) ?_
          rintro ⟨D2, er2⟩ hF2
          have hD2 : D2.length = 32 := hF2.len
          refine WL.val (OV.move rfl) rfl ?_
          refine WL.val (OV.extract rfl rfl) rfl ?_
          refine WL.val (OV.extract rfl rfl) rfl ?_
          refine WL.alloc T.zr25 rfl ?_
          intro b19
          refine WL.storeAll (vs := u8s D2) rfl rfl (List.all_eq_true.2 (u8s_one _)) (by rw [u8s_length, hD2]; exact T.z25) (by rw [u8s_length, u8s_length, hD2]; rfl) ?_
          refine WL.val (OV.assign rfl) rfl ?_
          refine WL.nil ?_
          refine WX.next ?_
          refine WC.seq ?_
          refine WC.region ?_
          refine WL.val (OV.move rfl) rfl ?_
          refine WL.val (OV.geq rfl rfl) rfl ?_
          refine WL.val (OV.move rfl) rfl ?_
          refine WL.split (t := 119) rfl (fun g119 => ?_) (fun g119 => ?_)
          · simp only [decide_eq_true_eq, decide_eq_false_iff_not, Bool.not_eq_true', Bool.not_eq_false'] at g119
            refine WL.go (b := true) rfl rfl rfl ?_
            refine WL.val (OV.move rfl) rfl ?_
            refine WL.go (b := true) rfl rfl rfl ?_
            refine WL.val (OV.leq rfl rfl) rfl ?_
            refine WL.val (OV.pickT rfl rfl) rfl ?_
            refine WL.val (OV.move rfl) rfl ?_
            refine WL.split (t := 123) rfl (fun g123 => ?_) (fun g123 => ?_)
            · simp only [decide_eq_true_eq, decide_eq_false_iff_not, Bool.not_eq_true', Bool.not_eq_false'] at g123
              refine WL.skip (b := true) rfl rfl rfl rfl ?_
              refine WL.skip (b := true) rfl rfl rfl rfl ?_
              refine WL.skip (b := true) rfl rfl rfl rfl ?_
              refine WL.skipU rfl rfl rfl ?_
              refine WL.skipU rfl rfl rfl ?_
              refine WL.skip (b := true) rfl rfl rfl rfl ?_
              refine WL.val (OV.pickT rfl rfl) rfl ?_
              refine WL.val (OV.assign rfl) rfl ?_
              refine WL.nil ?_
              refine WX.next ?_
              refine WC.seq ?_
              refine WC.region ?_
              refine WL.val (OV.move rfl) rfl ?_
              first
              | (refine WL.val (OV.eql rfl rfl) rfl ?_)
              | (refine WL.val (OV.eqlS rfl rfl) rfl ?_)
              | (refine WL.val (OV.eqlA T.u25 T.u5 T.z5 (by kernel_rfl) rfl rfl (by first | assumption | rfl) (by first | assumption | rfl)) rfl ?_)
              | (refine WL.val (OV.eqlB T.u4 rfl rfl) rfl ?_)
              refine WL.val (OV.move rfl) rfl ?_
              first
              | (refine WL.val (OV.eql rfl rfl) rfl ?_)
              | (refine WL.val (OV.eqlS rfl rfl) rfl ?_)
              | (refine WL.val (OV.eqlA T.u25 T.u5 T.z5 (by kernel_rfl) rfl rfl (by first | assumption | rfl) (by first | assumption | rfl)) rfl ?_)
              | (refine WL.val (OV.eqlB T.u4 rfl rfl) rfl ?_)
              refine WL.val (OV.move rfl) rfl ?_
              refine WL.known (t := 135) (b := true) rfl (by have hb := (back_iff hd (by omega) (fun h => c104 (by rw [h])) hF2); simp only [decide_eq_true_eq, decide_eq_decide, decide_eq_false_iff_not, Bool.decide_eq_true]; omega) ?_
              refine WL.go (b := true) rfl rfl rfl ?_
              refine WL.val (OV.move rfl) rfl ?_
              refine WL.go (b := true) rfl rfl rfl ?_
              refine WL.val (OV.not rfl) rfl ?_
              refine WL.go (b := true) rfl rfl rfl ?_
              refine WL.val (OV.move rfl) rfl ?_
              refine WL.go (b := false) rfl rfl rfl ?_
              refine WL.val (OV.loadN (cs := u8s D2) rfl T.u25 rfl (by rw [u8s_length, hD2]; exact T.z25) (fun _ hw j v hj => by rw [add_off, Nat.zero_add]; exact own_cells hw (.head _) j v hj)) rfl ?_
              refine WL.go (b := false) rfl rfl rfl ?_
              refine WL.val (OV.loadN (cs := u8s d) rfl T.u25 rfl (by rw [u8s_length, hd]; exact T.z25) (fun _ hw j v hj => by rw [add_off, Nat.zero_add]; exact own_cells hw (.tail _ (.tail _ (.tail _ (.tail _ (.tail _ (.tail _ (.tail _ (.head _)))))))) j v hj)) rfl ?_
              refine WL.go (b := false) rfl rfl rfl ?_
              first
              | (refine WL.val (OV.neq rfl rfl) rfl ?_)
              | (refine WL.val (OV.neqS rfl rfl) rfl ?_)
              | (refine WL.val (OV.neqA T.u25 T.u5 T.z5 (by kernel_rfl) rfl rfl (by first | assumption | rfl) (by first | assumption | rfl)) rfl ?_)
              | (refine WL.val (OV.neqB T.u4 rfl rfl) rfl ?_)
              refine WL.go (b := true) rfl rfl rfl ?_
              refine WL.val (OV.pickF rfl rfl) rfl ?_
              refine WL.val (OV.pickT rfl rfl) rfl ?_
              refine WL.val (OV.assign rfl) rfl ?_
              refine WL.nil ?_
              refine WX.next ?_
              refine WC.ret ?_
              exact WX.ret1 rfl rfl rfl (fun w hw => ⟨by first | rfl | (have hb := (back_iff hd (by omega) (fun h => c104 (by rw [h])) hF2); simp [hb.2 (by omega)]), hw.fr⟩)
            · simp only [decide_eq_true_eq, decide_eq_false_iff_not, Bool.not_eq_true', Bool.not_eq_false'] at g123
              refine WL.go (b := false) rfl rfl rfl ?_
              refine WL.val (OV.move rfl) rfl ?_
              refine WL.go (b := false) rfl rfl rfl ?_
              refine WL.val (OV.geq rfl rfl) rfl ?_
              refine WL.go (b := false) rfl rfl rfl ?_
              refine WL.val (OV.move rfl) rfl ?_
              refine WL.split (t := 126) rfl (fun g126 => ?_) (fun g126 => ?_)
              · simp only [decide_eq_true_eq, decide_eq_false_iff_not, Bool.not_eq_true', Bool.not_eq_false'] at g126
                refine WL.go (b := true) rfl rfl rfl ?_
                refine WL.val (OV.move rfl) rfl ?_
                refine WL.go (b := true) rfl rfl rfl ?_
                refine WL.val (OV.leq rfl rfl) rfl ?_
                refine WL.go (b := false) rfl rfl rfl ?_
                refine WL.val (OV.pickT rfl rfl) rfl ?_
                refine WL.val (OV.pickF rfl rfl) rfl ?_
                refine WL.val (OV.assign rfl) rfl ?_
                refine WL.nil ?_
                refine WX.next ?_
                refine WC.seq ?_
                refine WC.region ?_
                refine WL.val (OV.move rfl) rfl ?_
                first
                | (refine WL.val (OV.eql rfl rfl) rfl ?_)
                | (refine WL.val (OV.eqlS rfl rfl) rfl ?_)
                | (refine WL.val (OV.eqlA T.u25 T.u5 T.z5 (by kernel_rfl) rfl rfl (by first | assumption | rfl) (by first | assumption | rfl)) rfl ?_)
                | (refine WL.val (OV.eqlB T.u4 rfl rfl) rfl ?_)
                refine WL.val (OV.move rfl) rfl ?_
                first
                | (refine WL.val (OV.eql rfl rfl) rfl ?_)
                | (refine WL.val (OV.eqlS rfl rfl) rfl ?_)
                | (refine WL.val (OV.eqlA T.u25 T.u5 T.z5 (by kernel_rfl) rfl rfl (by first | assumption | rfl) (by first | assumption | rfl)) rfl ?_)
                | (refine WL.val (OV.eqlB T.u4 rfl rfl) rfl ?_)
                refine WL.val (OV.move rfl) rfl ?_
                refine WL.known (t := 135) (b := true) rfl (by have hb := (back_iff hd (by omega) (fun h => c104 (by rw [h])) hF2); simp only [decide_eq_true_eq, decide_eq_decide, decide_eq_false_iff_not, Bool.decide_eq_true]; omega) ?_
                refine WL.go (b := true) rfl rfl rfl ?_
                refine WL.val (OV.move rfl) rfl ?_
                refine WL.go (b := true) rfl rfl rfl ?_
                refine WL.val (OV.not rfl) rfl ?_
                refine WL.go (b := true) rfl rfl rfl ?_
                refine WL.val (OV.move rfl) rfl ?_
                refine WL.split (t := 138) rfl (fun g138 => ?_) (fun g138 => ?_)
                · simp only [decide_eq_true_eq, decide_eq_false_iff_not, Bool.not_eq_true', Bool.not_eq_false'] at g138
                  refine WL.skip (b := true) rfl rfl rfl rfl ?_
                  refine WL.skip (b := true) rfl rfl rfl rfl ?_
                  refine WL.skip (b := true) rfl rfl rfl rfl ?_
                  refine WL.go (b := true) rfl rfl rfl ?_
                  refine WL.val (OV.pickT rfl rfl) rfl ?_
                  refine WL.val (OV.pickT rfl rfl) rfl ?_
                  refine WL.val (OV.assign rfl) rfl ?_
                  refine WL.nil ?_
                  refine WX.next ?_
                  refine WC.ret ?_
                  exact WX.ret1 rfl rfl rfl (fun w hw => ⟨by first | rfl | (have hb := (back_iff hd (by omega) (fun h => c104 (by rw [h])) hF2); simp [hb.2 (by omega)]), hw.fr⟩)
                · simp only [decide_eq_true_eq, decide_eq_false_iff_not, Bool.not_eq_true', Bool.not_eq_false'] at g138
                  refine WL.go (b := false) rfl rfl rfl ?_
                  refine WL.val (OV.loadN (cs := u8s D2) rfl T.u25 rfl (by rw [u8s_length, hD2]; exact T.z25) (fun _ hw j v hj => by rw [add_off, Nat.zero_add]; exact own_cells hw (.head _) j v hj)) rfl ?_
                  refine WL.go (b := false) rfl rfl rfl ?_
                  refine WL.val (OV.loadN (cs := u8s d) rfl T.u25 rfl (by rw [u8s_length, hd]; exact T.z25) (fun _ hw j v hj => by rw [add_off, Nat.zero_add]; exact own_cells hw (.tail _ (.tail _ (.tail _ (.tail _ (.tail _ (.tail _ (.tail _ (.head _)))))))) j v hj)) rfl ?_
                  refine WL.go (b := false) rfl rfl rfl ?_
                  first
                  | (refine WL.val (OV.neq rfl rfl) rfl ?_)
                  | (refine WL.val (OV.neqS rfl rfl) rfl ?_)
                  | (refine WL.val (OV.neqA T.u25 T.u5 T.z5 (by kernel_rfl) rfl rfl (by first | assumption | rfl) (by first | assumption | rfl)) rfl ?_)
                  | (refine WL.val (OV.neqB T.u4 rfl rfl) rfl ?_)
                  refine WL.go (b := true) rfl rfl rfl ?_
                  refine WL.val (OV.pickF rfl rfl) rfl ?_
                  refine WL.val (OV.pickT rfl rfl) rfl ?_
                  refine WL.val (OV.assign rfl) rfl ?_
                  refine WL.nil ?_
                  refine WX.next ?_
                  refine WC.ret ?_
                  exact WX.ret1 rfl rfl rfl (fun w hw => ⟨by first | rfl | (have hb := (back_iff hd (by omega) (fun h => c104 (by rw [h])) hF2); simp [hb.2 (by omega)]), hw.fr⟩)
              · simp only [decide_eq_true_eq, decide_eq_false_iff_not, Bool.not_eq_true', Bool.not_eq_false'] at g126
                refine WL.skip (b := false) rfl rfl rfl rfl ?_
                refine WL.skip (b := false) rfl rfl rfl rfl ?_
                refine WL.go (b := false) rfl rfl rfl ?_
                refine WL.val (OV.pickF rfl rfl) rfl ?_
                refine WL.val (OV.pickF rfl rfl) rfl ?_
                refine WL.val (OV.assign rfl) rfl ?_
                refine WL.nil ?_
                refine WX.next ?_
                refine WC.seq ?_
                refine WC.region ?_
                refine WL.val (OV.move rfl) rfl ?_
                first
                | (refine WL.val (OV.eql rfl rfl) rfl ?_)
                | (refine WL.val (OV.eqlS rfl rfl) rfl ?_)
                | (refine WL.val (OV.eqlA T.u25 T.u5 T.z5 (by kernel_rfl) rfl rfl (by first | assumption | rfl) (by first | assumption | rfl)) rfl ?_)
                | (refine WL.val (OV.eqlB T.u4 rfl rfl) rfl ?_)
                refine WL.val (OV.move rfl) rfl ?_
                first
                | (refine WL.val (OV.eql rfl rfl) rfl ?_)
                | (refine WL.val (OV.eqlS rfl rfl) rfl ?_)
                | (refine WL.val (OV.eqlA T.u25 T.u5 T.z5 (by kernel_rfl) rfl rfl (by first | assumption | rfl) (by first | assumption | rfl)) rfl ?_)
                | (refine WL.val (OV.eqlB T.u4 rfl rfl) rfl ?_)
                refine WL.val (OV.move rfl) rfl ?_
                refine WL.known (t := 135) (b := true) rfl (by have hb := (back_iff hd (by omega) (fun h => c104 (by rw [h])) hF2); simp only [decide_eq_true_eq, decide_eq_decide, decide_eq_false_iff_not, Bool.decide_eq_true]; omega) ?_
                refine WL.go (b := true) rfl rfl rfl ?_
                refine WL.val (OV.move rfl) rfl ?_
                refine WL.go (b := true) rfl rfl rfl ?_
                refine WL.val (OV.not rfl) rfl ?_
                refine WL.go (b := true) rfl rfl rfl ?_
                refine WL.val (OV.move rfl) rfl ?_
                refine WL.skip (b := true) rfl rfl rfl rfl ?_
                refine WL.skip (b := true) rfl rfl rfl rfl ?_
                refine WL.skip (b := true) rfl rfl rfl rfl ?_
                refine WL.go (b := true) rfl rfl rfl ?_
                refine WL.val (OV.pickT rfl rfl) rfl ?_
                refine WL.val (OV.pickT rfl rfl) rfl ?_
                refine WL.val (OV.assign rfl) rfl ?_
                refine WL.nil ?_
                refine WX.next ?_
                refine WC.ret ?_
                exact WX.ret1 rfl rfl rfl (fun w hw => ⟨by first | rfl | (have hb := (back_iff hd (by omega) (fun h => c104 (by rw [h])) hF2); simp [hb.2 (by omega)]), hw.fr⟩)
          · simp only [decide_eq_true_eq, decide_eq_false_iff_not, Bool.not_eq_true', Bool.not_eq_false'] at g119
            refine WL.skip (b := false) rfl rfl rfl rfl ?_
            refine WL.skip (b := false) rfl rfl rfl rfl ?_
            refine WL.val (OV.pickF rfl rfl) rfl ?_
            refine WL.val (OV.move rfl) rfl ?_
            refine WL.go (b := false) rfl rfl rfl ?_
            refine WL.val (OV.move rfl) rfl ?_
            refine WL.go (b := false) rfl rfl rfl ?_
            refine WL.val (OV.geq rfl rfl) rfl ?_
            refine WL.go (b := false) rfl rfl rfl ?_
            refine WL.val (OV.move rfl) rfl ?_
            refine WL.split (t := 126) rfl (fun g126 => ?_) (fun g126 => ?_)
            · simp only [decide_eq_true_eq, decide_eq_false_iff_not, Bool.not_eq_true', Bool.not_eq_false'] at g126
              refine WL.go (b := true) rfl rfl rfl ?_
              refine WL.val (OV.move rfl) rfl ?_
              refine WL.go (b := true) rfl rfl rfl ?_
              refine WL.val (OV.leq rfl rfl) rfl ?_
              refine WL.go (b := false) rfl rfl rfl ?_
              refine WL.val (OV.pickT rfl rfl) rfl ?_
              refine WL.val (OV.pickF rfl rfl) rfl ?_
              refine WL.val (OV.assign rfl) rfl ?_
              refine WL.nil ?_
              refine WX.next ?_
              refine WC.seq ?_
              refine WC.region ?_
              refine WL.val (OV.move rfl) rfl ?_
              first
              | (refine WL.val (OV.eql rfl rfl) rfl ?_)
              | (refine WL.val (OV.eqlS rfl rfl) rfl ?_)
              | (refine WL.val (OV.eqlA T.u25 T.u5 T.z5 (by kernel_rfl) rfl rfl (by first | assumption | rfl) (by first | assumption | rfl)) rfl ?_)
              | (refine WL.val (OV.eqlB T.u4 rfl rfl) rfl ?_)
              refine WL.val (OV.move rfl) rfl ?_
              first
              | (refine WL.val (OV.eql rfl rfl) rfl ?_)
              | (refine WL.val (OV.eqlS rfl rfl) rfl ?_)
              | (refine WL.val (OV.eqlA T.u25 T.u5 T.z5 (by kernel_rfl) rfl rfl (by first | assumption | rfl) (by first | assumption | rfl)) rfl ?_)
              | (refine WL.val (OV.eqlB T.u4 rfl rfl) rfl ?_)
              refine WL.val (OV.move rfl) rfl ?_
              refine WL.known (t := 135) (b := true) rfl (by have hb := (back_iff hd (by omega) (fun h => c104 (by rw [h])) hF2); simp only [decide_eq_true_eq, decide_eq_decide, decide_eq_false_iff_not, Bool.decide_eq_true]; omega) ?_
              refine WL.go (b := true) rfl rfl rfl ?_
              refine WL.val (OV.move rfl) rfl ?_
              refine WL.go (b := true) rfl rfl rfl ?_
              refine WL.val (OV.not rfl) rfl ?_
              refine WL.go (b := true) rfl rfl rfl ?_
              refine WL.val (OV.move rfl) rfl ?_
              refine WL.split (t := 138) rfl (fun g138 => ?_) (fun g138 => ?_)
              · simp only [decide_eq_true_eq, decide_eq_false_iff_not, Bool.not_eq_true', Bool.not_eq_false'] at g138
                refine WL.skip (b := true) rfl rfl rfl rfl ?_
                refine WL.skip (b := true) rfl rfl rfl rfl ?_
                refine WL.skip (b := true) rfl rfl rfl rfl ?_
                refine WL.go (b := true) rfl rfl rfl ?_
                refine WL.val (OV.pickT rfl rfl) rfl ?_
                refine WL.val (OV.pickT rfl rfl) rfl ?_
                refine WL.val (OV.assign rfl) rfl ?_
                refine WL.nil ?_
                refine WX.next ?_
                refine WC.ret ?_
                exact WX.ret1 rfl rfl rfl (fun w hw => ⟨by first | rfl | (have hb := (back_iff hd (by omega) (fun h => c104 (by rw [h])) hF2); simp [hb.2 (by omega)]), hw.fr⟩)
              · simp only [decide_eq_true_eq, decide_eq_false_iff_not, Bool.not_eq_true', Bool.not_eq_false'] at g138
                refine WL.go (b := false) rfl rfl rfl ?_
                refine WL.val (OV.loadN (cs := u8s D2) rfl T.u25 rfl (by rw [u8s_length, hD2]; exact T.z25) (fun _ hw j v hj => by rw [add_off, Nat.zero_add]; exact own_cells hw (.head _) j v hj)) rfl ?_
                refine WL.go (b := false) rfl rfl rfl ?_
                refine WL.val (OV.loadN (cs := u8s d) rfl T.u25 rfl (by rw [u8s_length, hd]; exact T.z25) (fun _ hw j v hj => by rw [add_off, Nat.zero_add]; exact own_cells hw (.tail _ (.tail _ (.tail _ (.tail _ (.tail _ (.tail _ (.tail _ (.head _)))))))) j v hj)) rfl ?_
                refine WL.go (b := false) rfl rfl rfl ?_
                first
                | (refine WL.val (OV.neq rfl rfl) rfl ?_)
                | (refine WL.val (OV.neqS rfl rfl) rfl ?_)
                | (refine WL.val (OV.neqA T.u25 T.u5 T.z5 (by kernel_rfl) rfl rfl (by first | assumption | rfl) (by first | assumption | rfl)) rfl ?_)
                | (refine WL.val (OV.neqB T.u4 rfl rfl) rfl ?_)
                refine WL.go (b := true) rfl rfl rfl ?_
                refine WL.val (OV.pickF rfl rfl) rfl ?_
                refine WL.val (OV.pickT rfl rfl) rfl ?_
                refine WL.val (OV.assign rfl) rfl ?_
                refine WL.nil ?_
                refine WX.next ?_
                refine WC.ret ?_
                exact WX.ret1 rfl rfl rfl (fun w hw => ⟨by first | rfl | (have hb := (back_iff hd (by omega) (fun h => c104 (by rw [h])) hF2); simp [hb.2 (by omega)]), hw.fr⟩)
            · simp only [decide_eq_true_eq, decide_eq_false_iff_not, Bool.not_eq_true', Bool.not_eq_false'] at g126
              refine WL.skip (b := false) rfl rfl rfl rfl ?_
              refine WL.skip (b := false) rfl rfl rfl rfl ?_
              refine WL.go (b := false) rfl rfl rfl ?_
              refine WL.val (OV.pickF rfl rfl) rfl ?_
              refine WL.val (OV.pickF rfl rfl) rfl ?_
              refine WL.val (OV.assign rfl) rfl ?_
              refine WL.nil ?_
              refine WX.next ?_
              refine WC.seq ?_
              refine WC.region ?_
              refine WL.val (OV.move rfl) rfl ?_
              first
              | (refine WL.val (OV.eql rfl rfl) rfl ?_)
              | (refine WL.val (OV.eqlS rfl rfl) rfl ?_)
              | (refine WL.val (OV.eqlA T.u25 T.u5 T.z5 (by kernel_rfl) rfl rfl (by first | assumption | rfl) (by first | assumption | rfl)) rfl ?_)
              | (refine WL.val (OV.eqlB T.u4 rfl rfl) rfl ?_)
              refine WL.val (OV.move rfl) rfl ?_
              first
              | (refine WL.val (OV.eql rfl rfl) rfl ?_)
              | (refine WL.val (OV.eqlS rfl rfl) rfl ?_)
              | (refine WL.val (OV.eqlA T.u25 T.u5 T.z5 (by kernel_rfl) rfl rfl (by first | assumption | rfl) (by first | assumption | rfl)) rfl ?_)
              | (refine WL.val (OV.eqlB T.u4 rfl rfl) rfl ?_)
              refine WL.val (OV.move rfl) rfl ?_
              refine WL.known (t := 135) (b := true) rfl (by have hb := (back_iff hd (by omega) (fun h => c104 (by rw [h])) hF2); simp only [decide_eq_true_eq, decide_eq_decide, decide_eq_false_iff_not, Bool.decide_eq_true]; omega) ?_
              refine WL.go (b := true) rfl rfl rfl ?_
              refine WL.val (OV.move rfl) rfl ?_
              refine WL.go (b := true) rfl rfl rfl ?_
              refine WL.val (OV.not rfl) rfl ?_
              refine WL.go (b := true) rfl rfl rfl ?_
              refine WL.val (OV.move rfl) rfl ?_
              refine WL.skip (b := true) rfl rfl rfl rfl ?_
              refine WL.skip (b := true) rfl rfl rfl rfl ?_
              refine WL.skip (b := true) rfl rfl rfl rfl ?_
              refine WL.go (b := true) rfl rfl rfl ?_
              refine WL.val (OV.pickT rfl rfl) rfl ?_
              refine WL.val (OV.pickT rfl rfl) rfl ?_
              refine WL.val (OV.assign rfl) rfl ?_
              refine WL.nil ?_
              refine WX.next ?_
              refine WC.ret ?_
              exact WX.ret1 rfl rfl rfl (fun w hw => ⟨by first | rfl | (have hb := (back_iff hd (by omega) (fun h => c104 (by rw [h])) hF2); simp [hb.2 (by omega)]), hw.fr⟩)

end Go.Proofs.YtplebagdajdcnaaDoor
