/- Contracts of functions of the program: what each returns and leaves in memory. Printed by gen.py and walk.py. -/
import Derived.Test.YtijplknkpkmblaaGreatDoorK0
namespace Go.Proofs.YtijplknkpkmblaaGreatDoor
open Go Go.Hw
set_option linter.unusedSimpArgs false
set_option linter.unusedVariables false
theorem T.apB : appB Tryz.prog 94 5 1 1 = true := by kernel_rfl
theorem T.apI : appB Tryz.prog 32 3 1 8 = true := by kernel_rfl
def DIGS : ByteArray := ⟨#[48, 49, 50, 51, 52, 53, 54, 55, 56, 57, 97, 98, 99, 100, 101, 102, 103, 104, 105, 106, 107, 108, 109, 110, 111, 112, 113, 114, 115, 116, 117, 118, 119, 120, 121, 122]⟩
theorem digs_get {i : Nat} (h : i < 36) : DIGS[(i : Int).toNat]? = some (dig36 i) := by
  have key : ∀ i : Fin 36, DIGS[(i.val : Int).toNat]? = some (dig36 i.val) := by decide
  exact key ⟨i, h⟩
def ints (l : List Int) : List Value := l.map (Value.int .i64)
theorem ints_length (l : List Int) : (ints l).length = l.length := by simp [ints]
theorem ints_one (l : List Int) : ∀ u ∈ ints l, u.oneCell' = true := by
  intro u hu
  simp only [ints, List.mem_map] at hu
  obtain ⟨c, _, rfl⟩ := hu
  rfl
theorem ints_get {l : List Int} {i : Nat} {n : Int} (h : l[i]? = some n) : (ints l)[i]? = some (.int .i64 n) := by simp [ints, h]
theorem ints_append (l m : List Int) : ints (l ++ m) = ints l ++ ints m := by simp [ints]
/-- A slice of numbers as it lies. -/
def RI (w : World) (a : Option Addr) (m : Nat) (l : List Int) : Prop :=
  l.length = m ∧ (a = none → m = 0) ∧ ∀ b, a = some b → ∀ j n, l[j]? = some n → w.cell? (b.add j) = some (.int .i64 n)
theorem RI.mono {w w' : World} {a : Option Addr} {m : Nat} {l : List Int} (h : RI w a m l) (hc : ∀ q v, (∃ b, a = some b ∧ q.block = b.block) → w.cell? q = some v → w'.cell? q = some v) : RI w' a m l :=
  ⟨h.1, h.2.1, fun b hb j n hj => hc _ _ ⟨b, hb, by rw [add_block]⟩ (h.2.2 b hb j n hj)⟩
theorem RI.sat {w w' : World} {M : Nat → Prop} {ow : List Hw.Item} {a : Option Addr} {m : Nat} {l : List Int} (h : RI w a m l) (hw : Sat w M (fun b => b < w.heap.size) w ow w') : RI w' a m l :=
  h.mono fun _ _ _ hc => snapL hw hc
theorem RI.fr {w w' : World} {M : Nat → Prop} {a : Option Addr} {m : Nat} {l : List Int} (h : RI w a m l) (hM : ∀ b, a = some b → 0 < m → ¬ M b.block) (hf : Fr M w w') : RI w' a m l :=
  ⟨h.1, h.2.1, fun b hb j n hj => by
    have hc := h.2.2 b hb j n hj
    have hm : 0 < m := by have := (List.getElem?_eq_some_iff.1 hj).1; have := h.1; omega
    rw [World.cell?_of_block (hf.keep _ (World.block_lt_of_cell? w _ hc) (by rw [add_block]; exact hM b hb hm))]
    exact hc⟩
theorem RI.cell {w : World} {q : Addr} {m : Nat} {l : List Int} (h : RI w (some q) m l) {j : Nat} (hj : j < l.length) : w.cell? (q.add j) = some (.int .i64 (l.getD j 0)) := by
  refine h.2.2 q rfl j _ ?_
  rw [List.getD_eq_getElem?_getD, List.getElem?_eq_getElem hj]; rfl
theorem RI.of_row {w0 ws w : World} {M I : Nat → Prop} {ow : List Hw.Item} {a : Option Addr} {c : Nat} {l : List Int} (hw : Sat w0 M I ws ow w) (hm : row 3 1 a l.length c (ints l) ∈ ow) : RI w a l.length l :=
  ⟨rfl, fun ha => ((row_base hw hm).2.elim (fun h => h.2.1) (fun ⟨b, hb, _⟩ => (by rw [ha] at hb; cases hb))), fun b hb j n hj => by subst hb; exact row_cells hw hm j _ (ints_get hj)⟩
theorem Src.of_ri {a : Option Addr} {m : Nat} {l : List Int} {S : World → Prop} (h1 : l.length = m) (h2 : a = none → m = 0) (h : ∀ w, S w → RI w a m l) : Src S a m 1 (ints l) := by
  refine ⟨by rw [ints_length, h1, Nat.mul_one], h2, fun w hw b hb j u hj => ?_⟩
  simp only [ints, List.getElem?_map, Option.map_eq_some_iff] at hj
  obtain ⟨n, hn, rfl⟩ := hj
  exact (h w hw).2.2 b hb j n hn
/-- A call that may turn a row begins. -/
theorem Holds.one {w : World} {i : Hw.Item} (h : i.φ w) (hlt : ∀ b, i.D b → b < w.heap.size) : Holds [i] w :=
  ⟨fun j hj => by simp only [List.mem_singleton] at hj; subst hj; exact h, fun j hj b hb => by simp only [List.mem_singleton] at hj; subst hj; exact hlt b hb, List.pairwise_singleton _ _⟩

set_option maxRecDepth 10000 in
theorem pow2_calls (w : World) : Calls Tryz.prog 107 #[.int .i64 36] w fun e w' => e = .returned (.bool false) ∧ Fr0 w w' := by
  refine enterS (args := [.int .i64 36]) (fun _ => False) Tryz.func107 rfl Tryz.ntmps107 rfl rfl ?_
  refine WC.seq ?_
  refine WC.region ?_
  refine WL.val (OV.assign rfl) rfl ?_
  refine WL.nil ?_
  refine WX.next ?_
  refine WC.seq ?_
  refine WC.region ?_
  refine WL.val (OV.move rfl) rfl ?_
  refine WL.val (OV.move rfl) rfl ?_
  first
  | (refine WL.val (OV.subN (j := 1) rfl rfl (wrap_i64 (by omega)) (by omega)) rfl ?_)
  | (refine WL.val (OV.subI rfl rfl (by omega)) rfl ?_)
  | (refine WL.val (OV.sub rfl rfl) rfl ?_)
  first
  | (refine WL.val (OV.andW rfl rfl) rfl ?_)
  | (refine WL.val (OV.andB rfl rfl) rfl ?_)
  | (refine WL.val (OV.and rfl rfl) rfl ?_)
  refine WL.val (OV.eql rfl rfl) rfl ?_
  refine WL.val (OV.assign rfl) rfl ?_
  refine WL.nil ?_
  refine WX.next ?_
  refine WC.ret ?_
  exact WX.ret1 rfl rfl rfl (fun w hw => ⟨rfl, hw.fr⟩)

theorem buf_set {i : Nat} (hi : 0 < i) (suf : List UInt8) (d : UInt8) : (u8s (List.replicate i 0 ++ suf)).set (i - 1) (b8 d) = u8s (List.replicate (i - 1) 0 ++ d :: suf) := by
  obtain ⟨k, rfl⟩ : ∃ k, i = k + 1 := ⟨i - 1, by omega⟩
  rw [u8s_set, Nat.add_sub_cancel]
  congr 1
  rw [List.replicate_succ', List.append_assoc, List.set_append_right _ _ (by simp)]
  simp
theorem p36 : (36 : Nat) ^ 13 = 170581728179578208256 := by decide
theorem buf_len (i : Nat) (suf : List UInt8) : (u8s (List.replicate i 0 ++ suf)).length = i + suf.length := by rw [u8s_length]; simp
theorem buf_src {w0 ws : World} {M I : Nat → Prop} {ow : List Hw.Item} {b i : Nat} {T : TypeId} {l : List UInt8} (hm : own b (.cells (u8s (List.replicate i 0 ++ l)).toArray T (0, 0)) ∈ ow) : Src (Sat w0 M I ws ow) (some ⟨b, i, none⟩) l.length 1 (u8s l) := by
  refine ⟨by rw [u8s_length, Nat.mul_one], fun h => (by cases h), fun w hw q hq j v hj => ?_⟩
  simp only [Option.some.injEq] at hq
  subst hq
  rw [add_off]
  refine own_cells hw hm _ v ?_
  rw [u8s_append, List.getElem?_append_right (by rw [u8s_length]; simp), u8s_length]
  simpa using hj

set_option maxRecDepth 10000 in
theorem formatBits_calls (u : Nat) (hu : u < 18446744073709551616) (a : Option Addr) (m c : Nat) (xs : List UInt8) (hm : m + 20 ≤ 140737488355328) (w : World) (hA : Holds [row 5 1 a m c (u8s xs)] w) :
  Calls Tryz.prog 103 #[.slice a m c, .int .u64 (u : Int), .int .i64 36, .bool false, .bool true] w fun e w' => ∃ a' c', e = .returned (.tuple #[.slice a' (m + (fmt36 u).length) c', .string ⟨#[]⟩]) ∧ Turns [row 5 1 a m c (u8s xs)] [row 5 1 a' (m + (fmt36 u).length) c' (u8s (xs ++ fmt36 u))] w w' := by
  refine enterA hA (args := [.slice a m c, .int .u64 (u : Int), .int .i64 36, .bool false, .bool true]) Tryz.func103 rfl Tryz.ntmps103 rfl rfl ?_
  refine WC.seq ?_
  refine WC.region ?_
  refine WL.val (OV.assign rfl) rfl ?_
  refine WL.val (OV.assign rfl) rfl ?_
  refine WL.nil ?_
  refine WX.next ?_
  refine WC.seq ?_
  refine WC.seq ?_
  refine WC.region ?_
  refine WL.val (OV.move rfl) rfl ?_
  refine WL.val (OV.lss rfl rfl) rfl ?_
  refine WL.val (OV.move rfl) rfl ?_
  refine WL.known (t := 21) (b := false) rfl (by rfl) ?_
  refine WL.go (b := false) rfl rfl rfl ?_
  refine WL.val (OV.move rfl) rfl ?_
  refine WL.go (b := false) rfl rfl rfl ?_
  refine WL.val (OV.eql rfl rfl) rfl ?_
  refine WL.val (OV.pickF rfl rfl) rfl ?_
  refine WL.val (OV.move rfl) rfl ?_
  refine WL.known (t := 25) (b := false) rfl (by rfl) ?_
  refine WL.go (b := false) rfl rfl rfl ?_
  refine WL.val (OV.move rfl) rfl ?_
  refine WL.go (b := false) rfl rfl rfl ?_
  refine WL.val (OV.gtr rfl rfl) rfl ?_
  refine WL.val (OV.pickF rfl rfl) rfl ?_
  refine WL.nil ?_
  refine WX.next ?_
  refine WC.condF rfl ?_
  refine WC.skip ?_
  refine WX.next ?_
  refine WC.seq ?_
  refine WC.region ?_
  refine WL.alloc T.zr148 rfl ?_
  intro b12
  refine WL.nil ?_
  refine WX.next ?_
  refine WC.seq ?_
  refine WC.region ?_
  refine WL.val (OV.assign rfl) rfl ?_
  refine WL.nil ?_
  refine WX.next ?_
  refine WC.seq ?_
  refine WC.seq ?_
  refine WC.region ?_
  refine WL.val (OV.move rfl) rfl ?_
  refine WL.nil ?_
  refine WX.next ?_
  refine WC.condF rfl ?_
  refine WC.skip ?_
  refine WX.next ?_
  refine WC.seq ?_
  refine WC.seq ?_
  refine WC.region ?_
  refine WL.val (OV.move rfl) rfl ?_
  refine WL.call0 (by kernel_rfl) rfl rfl (fun w' _ => pow2_calls w') ?_
  refine WL.nil ?_
  refine WX.next ?_
  refine WC.condF rfl ?_
  refine WC.seq ?_
  refine WC.region ?_
  refine WL.val (OV.move rfl) rfl ?_
  first
  | (refine WL.val (OV.conv8_32 T.u3 T.u109 rfl) rfl ?_)
  | (refine WL.val (OV.conv32_8 T.u3 T.u109 rfl) rfl ?_)
  | (refine WL.val (OV.convI T.u3 T.u109 rfl (by omega)) rfl ?_)
  | (refine WL.val (OV.convU64 T.u3 T.u109 rfl (by omega)) rfl ?_)
  | (refine WL.val (OV.conv T.u3 T.u109 rfl) rfl ?_)
  refine WL.val (OV.assign rfl) rfl ?_
  refine WL.nil ?_
  refine WX.next ?_
  refine WC.seq ?_
  refine WC.block ?_
  refine WC.loop3 (fun (i v : Nat) (suf : List UInt8) => [(0, .slice a m c), (1, .int .u64 (v : Int)), (4, .bool true), (3, .bool false), (2, .int .i64 36), (11, .string ⟨#[]⟩), (12, .pointer (some ⟨b12, 0, none⟩)), (13, .int .i64 (i : Int)), (17, .int .u64 36)])
      (fun i v suf w' => (i ≤ 65 ∧ 53 ≤ i ∧ v < 36 ^ (i - 52) ∧ v ≤ u ∧ fmt36 u = fmt36 v ++ suf ∧ suf.length = 65 - i) ∧ Sat w (DD [row 5 1 a m c (u8s xs)]) (fun b => b < w.heap.size ∧ ¬ DD [row 5 1 a m c (u8s xs)] b) w [own b12 (.cells (u8s (List.replicate i 0 ++ suf)).toArray 148 (0, 0)), row 5 1 a m c (u8s xs)] w')
      (fun i v suf => v) 65 u [] ⟨rfl, rfl, rfl, rfl, rfl, rfl, rfl, rfl, rfl, trivial⟩ (fun w' hw => ⟨⟨by omega, by omega, (by show u < 36 ^ 13; rw [p36]; omega), by omega, by simp, rfl⟩, by simpa using hw⟩) ?_
  intro i v suf
  refine WC.pure (fun hi => ?_)
  obtain ⟨hi1, hi2, hi3, hi4, hsuf, hsl⟩ := hi
  refine WC.seq ?_
  refine WC.seq ?_
  refine WC.region ?_
  refine WL.val (OV.move rfl) rfl ?_
  refine WL.val (OV.move rfl) rfl ?_
  refine WL.val (OV.geq rfl rfl) rfl ?_
  refine WL.nil ?_
  refine WX.next ?_
  refine WC.cond rfl (fun c68 => ?_) (fun c68 => ?_)
  · try simp only [decide_eq_true_eq, decide_eq_false_iff_not, Bool.not_eq_true', Bool.not_eq_false'] at c68
    refine WC.skip ?_
    refine WX.next ?_
    refine WC.block ?_
    refine WC.seq ?_
    refine WC.region ?_
    refine WL.val (OV.move rfl) rfl ?_
    first
    | (refine WL.val (OV.subN (j := 1) rfl rfl (wrap_i64 (by omega)) (by omega)) rfl ?_)
    | (refine WL.val (OV.subI rfl rfl (by omega)) rfl ?_)
    | (refine WL.val (OV.sub rfl rfl) rfl ?_)
    refine WL.val (OV.assign rfl) rfl ?_
    refine WL.nil ?_
    refine WX.next ?_
    refine WC.seq ?_
    refine WC.region ?_
    refine WL.val (OV.move rfl) rfl ?_
    refine WL.val (OV.move rfl) rfl ?_
    refine WL.val ((OV.quo rfl rfl rfl).cast (u := .int .u64 ((v / 36 : Nat) : Int)) (by rw [Int.tdiv_eq_ediv_of_nonneg (by omega), wrap_u64 (by omega)]; congr 1)) rfl ?_
    refine WL.val (OV.assign rfl) rfl ?_
    refine WL.nil ?_
    refine WX.next ?_
    refine WC.seq ?_
    refine WC.region ?_
    refine WL.val (OV.move rfl) rfl ?_
    refine WL.val (OV.move rfl) rfl ?_
    refine WL.val (OV.move rfl) rfl ?_
    refine WL.val (OV.move rfl) rfl ?_
    refine WL.val ((OV.mul rfl rfl).cast (u := .int .u64 ((v / 36 * 36 : Nat) : Int)) (by rw [wrap_u64 (by omega)]; congr 1)) rfl ?_
    refine WL.val ((OV.sub rfl rfl).cast (u := .int .u64 ((v % 36 : Nat) : Int)) (by rw [wrap_u64 (by omega)]; congr 1; omega)) rfl ?_
    refine WL.val (OV.indexStr (s := DIGS) rfl rfl T.u9 ⟨by omega, digs_get (i := v % 36) (by omega)⟩) rfl ?_
    first
    | (refine WL.val (OV.indexArrN rfl rfl T.u148 T.z5 (by omega)) rfl ?_)
    | (refine WL.val (OV.indexArrON rfl rfl T.u148 T.z5 (by omega)) rfl ?_)
    | (refine WL.val (OV.indexArr1 rfl rfl T.u148 T.z5 (by omega)) rfl ?_)
    refine WL.store1 rfl rfl rfl T.z5 (by rw [buf_len]; omega) ?_
    refine WL.nil ?_
    refine WX.next ?_
    refine WC.region ?_
    refine WL.val (OV.move rfl) rfl ?_
    refine WL.val (OV.assign rfl) rfl ?_
    refine WL.nil ?_
    refine WX.block_normal ?_
    have hi54 : 54 ≤ i := by
      rcases Nat.lt_or_ge i 54 with h | h
      · have : i = 53 := by omega
        subst this
        simp at hi3
        omega
      · exact h
    exact WX.round3 (i - 1) (v / 36) (dig36 (v % 36) :: suf) ⟨rfl, rfl, rfl, rfl, rfl, rfl, rfl, rfl, rfl, trivial⟩ (fun w' hw => ⟨⟨by omega, by omega, by
        refine Nat.div_lt_of_lt_mul ?_
        rw [← Nat.pow_succ', show (i - 1 - 52).succ = i - 52 by omega]
        exact hi3, by omega, by rw [hsuf, fmt36_ge (by omega)]; simp, by simp only [List.length_cons]; omega⟩, by
        have hset := buf_set (by omega : 0 < i) suf (dig36 (v % 36))
        unfold b8 at hset
        rw [hset] at hw
        exact hw⟩) (by show v / 36 < v; omega)
  · try simp only [decide_eq_true_eq, decide_eq_false_iff_not, Bool.not_eq_true', Bool.not_eq_false'] at c68
    refine WC.exit ?_
    refine WX.then_exit ?_
    refine WX.then_exit ?_
    refine WX.block_hit ?_
    refine WX.next ?_
    refine WC.seq ?_
    refine WC.region ?_
    refine WL.val (OV.move rfl) rfl ?_
    first
    | (refine WL.val (OV.subN (j := 1) rfl rfl (wrap_i64 (by omega)) (by omega)) rfl ?_)
    | (refine WL.val (OV.subI rfl rfl (by omega)) rfl ?_)
    | (refine WL.val (OV.sub rfl rfl) rfl ?_)
    refine WL.val (OV.assign rfl) rfl ?_
    refine WL.nil ?_
    refine WX.next ?_
    refine WC.region ?_
    refine WL.val (OV.move rfl) rfl ?_
    refine WL.val (OV.move rfl) rfl ?_
    refine WL.val (OV.indexStr (s := DIGS) rfl rfl T.u9 ⟨by omega, digs_get (i := v) (by omega)⟩) rfl ?_
    first
    | (refine WL.val (OV.indexArrN rfl rfl T.u148 T.z5 (by omega)) rfl ?_)
    | (refine WL.val (OV.indexArrON rfl rfl T.u148 T.z5 (by omega)) rfl ?_)
    | (refine WL.val (OV.indexArr1 rfl rfl T.u148 T.z5 (by omega)) rfl ?_)
    refine WL.store1 rfl rfl rfl T.z5 (by rw [buf_len]; omega) ?_
    have hset := buf_set (by omega : 0 < i) suf (dig36 v)
    unfold b8 at hset
    rw [hset]
    have hfu : dig36 v :: suf = fmt36 u := by rw [hsuf, fmt36_lt (by omega)]; rfl
    rw [hfu]
    have hlen : (fmt36 u).length = 66 - i := by rw [← hfu]; simp only [List.length_cons]; omega
    refine WL.nil ?_
    refine WX.next ?_
    refine WC.seq ?_
    refine WC.seq ?_
    refine WC.region ?_
    refine WL.val (OV.move rfl) rfl ?_
    refine WL.nil ?_
    refine WX.next ?_
    refine WC.condF rfl ?_
    refine WC.skip ?_
    refine WX.next ?_
    refine WC.seq ?_
    refine WC.seq ?_
    refine WC.region ?_
    refine WL.val (OV.move rfl) rfl ?_
    refine WL.nil ?_
    refine WX.next ?_
    refine WC.condT rfl ?_
    refine WC.seq ?_
    refine WC.region ?_
    refine WL.val (OV.move rfl) rfl ?_
    refine WL.val (OV.move rfl) rfl ?_
    refine WL.val ((OV.sliceArrFrom (l := i - 1) rfl T.u148 T.z5 rfl (by omega)).cast (u := .slice (some ⟨b12, i - 1, none⟩) (fmt36 u).length (65 - (i - 1))) (by rw [Nat.zero_add]; congr 1; omega)) rfl ?_
    refine WL.focus perm1 (WL.append (news := u8s (fmt36 u)) rfl rfl T.apB (fun _ _ => buf_src (.tail _ (.head _))) (u8s_one _) ⟨by omega, by unfold maxLen; omega⟩ rfl ?_)
    intro a98 c98
    refine WL.val (OV.assign rfl) rfl ?_
    refine WL.nil ?_
    refine WX.next ?_
    refine WC.ret ?_
    refine WX.then_ret ?_
    exact WX.ret2 rfl rfl rfl rfl (fun w hw => ⟨_, _, rfl, by rw [u8s_append]; exact (hw.perm perm1).drop.turned⟩)

end Go.Proofs.YtijplknkpkmblaaGreatDoor
