/- Contracts of functions of the program: what each returns and leaves in memory. Printed by gen.py and walk.py. -/
import Derived.Test.YtplebagdajdcnaaDoorH1
import Derived.Test.YtplebagdajdcnaaDoorL5
namespace Go.Proofs.YtplebagdajdcnaaDoor
open Go Go.Hw
set_option linter.unusedSimpArgs false
set_option linter.unusedVariables false
abbrev Op3 := Int × Int × List UInt8
/-- A script as it lies in memory. -/
def RO (w : World) (a : Option Addr) (n : Nat) (os : List Op3) : Prop :=
  os.length = n ∧ (a = none → n = 0) ∧ ∀ q, a = some q → ∀ i, i < n → ∃ ab mb cb, (∀ j v, ([.int .i64 (os.getD i (0, 0, [])).1, .int .i64 (os.getD i (0, 0, [])).2.1, .slice ab mb cb] : List Value)[j]? = some v → w.cell? ((q.add (i * 3)).add j) = some v) ∧
    RB w ab mb (os.getD i (0, 0, [])).2.2 ∧ -9223372036854775808 ≤ (os.getD i (0, 0, [])).2.1 ∧ (os.getD i (0, 0, [])).2.1 ≤ 9223372036854775807
def sumO (os : List Op3) : Nat := (os.map fun o => o.2.2.length).sum
theorem sumO_take {os : List Op3} {i : Nat} (h : i < os.length) : sumO (os.take (i + 1)) = sumO (os.take i) + (os.getD i (0, 0, [])).2.2.length := by
  rw [List.take_add_one, List.getD_eq_getElem?_getD, List.getElem?_eq_getElem h, sumO, List.map_append, List.sum_append]
  simp only [Option.toList, List.map_cons, List.map_nil, List.sum_cons, List.sum_nil, Nat.add_zero, Option.getD_some]
  rfl
theorem sumO_le (os : List Op3) (i : Nat) : sumO (os.take i) ≤ sumO os := by
  have h : sumO os = sumO (os.take i) + sumO (os.drop i) := by
    rw [sumO, sumO, sumO, ← List.sum_append, ← List.map_append, List.take_append_drop]
  omega
theorem mem_ownE (E1 E2 : List HE) (h : HE) : own h.hb (.cells (HC h.all h.part).toArray 71 (0, 0)) ∈ (E1 ++ h :: E2).flatMap itemsE := List.mem_flatMap.2 ⟨h, by simp, .head _⟩
theorem mem_rowE (E1 E2 : List HE) (h : HE) : row 5 1 h.a h.all.length h.c (u8s h.all) ∈ (E1 ++ h :: E2).flatMap itemsE := List.mem_flatMap.2 ⟨h, by simp, .tail _ (.head _)⟩
theorem WL.callT0 {P : Program} {w0 ws : World} {M I : Nat → Prop} {A : List Hw.Item} {ops : Array Oper} {Q : Post} {n : Nat} {ds : List Deferred} {e : Env} {rest : List Oper} {t : TypeId} {p : String} {af : Array Edge} {k : Nat}
    {ι : Type} {vv : ι → Value} {pp : ι → Prop} {AA : ι → List Hw.Item} {f : FuncId} {xs : List Operand} {vs : List Value} {ats : Array TypeId} (hf : bodied P f = true) (hv : evs e xs = some vs) (hk : Nat.blt k n = true)
    (hc : ∀ w, Sat w0 M I ws A w → Calls P f vs.toArray w fun en w' => ∃ x, en = .returned (vv x) ∧ pp x ∧ Turns A (AA x) w w')
    (h : ∀ x, pp x → WL P ops Q n ds ((k, vv x) :: e) (Sat w0 M I ws (AA x)) rest) : WL P ops Q n ds e (Sat w0 M I ws A) (⟨some k, .call ⟨.value (.func f), xs.toArray, ats⟩, t, p, af, none⟩ :: rest) := by
  have h1 := WL.callT (w0 := w0) (M := M) (I := I) (ws := ws) (A := A) (ow := []) (ops := ops) (Q := Q) (n := n) (ds := ds) (e := e) (rest := rest) (t := t) (p := p) (af := af) (k := k) (P := P) (vv := vv) (pp := pp) (AA := AA) (ats := ats) hf hv hk (fun w hw => hc w (by rwa [List.append_nil] at hw)) (fun x hx => by rw [List.append_nil]; exact h x hx)
  rwa [List.append_nil] at h1

set_option maxRecDepth 10000 in
set_option maxHeartbeats 1000000 in
theorem hashers_calls (os : List Op3) (a : Option Addr) (n c : Nat) (hsz : sumO os ≤ 1099511627776) (hn : n < 1099511627776) (w : World) (ho : RO w a n os) (hT : Tabs w) : Calls Tryd.prog 8 #[.slice a n c] w fun e w' => e = .returned (.bool true) ∧ Fr0 w w' := by
  refine enterS (args := [.slice a n c]) (fun _ => False) Tryd.func8 rfl Tryd.ntmps8 rfl rfl ?_
  refine WC.seq ?_
  refine WC.region ?_
  refine WL.val (OV.assign rfl) rfl ?_
  refine WL.nil ?_
  refine WX.next ?_
  refine WC.seq ?_
  refine WC.region ?_
  refine WL.val (OV.assign rfl) rfl ?_
  refine WL.nil ?_
  refine WX.next ?_
  refine WC.seq ?_
  refine WC.region ?_
  refine WL.val (OV.assign rfl) rfl ?_
  refine WL.nil ?_
  refine WX.next ?_
  refine WC.seq ?_
  refine WC.seq ?_
  refine WC.region ?_
  refine WL.val (OV.assign rfl) rfl ?_
  refine WL.nil ?_
  refine WX.next ?_
  refine WC.block ?_
  refine WC.nilRow2 (size := 2) 48 ?_
  refine WC.loop4 (fun (i : Nat) (E : List HE) (aL : Option Addr) (cL : Nat) => [(0, .slice a n c), (3, .slice aL E.length cL), (4, .bool true), (5, .int .i64 (i : Int))])
      (fun i E aL cL w' => (i ≤ n ∧ E.length ≤ i ∧ goodE (sumO (os.take i)) E) ∧ Sat w (fun _ => False) (fun b => b < w.heap.size) w (pairA E aL cL) w')
      (fun i _ _ _ => n - i) 0 [] none 0 ⟨rfl, rfl, rfl, rfl, trivial⟩ (fun w' hw => ⟨⟨by omega, by simp, fun x hx => by cases hx⟩, hw⟩) ?_
  intro i E aL cL
  refine WC.pure (fun hi => ?_)
  obtain ⟨hi, hEl, hE⟩ := hi
  refine WC.seq ?_
  refine WC.seq ?_
  refine WC.region ?_
  refine WL.val (OV.move rfl) rfl ?_
  refine WL.val (OV.move rfl) rfl ?_
  first
  | (refine WL.val (OV.lenSlice rfl T.u40) rfl ?_)
  | (refine WL.val (OV.lenStr rfl T.u40) rfl ?_)
  refine WL.val (OV.lss rfl rfl) rfl ?_
  refine WL.val (OV.move rfl) rfl ?_
  refine WL.split (t := 11) rfl (fun g11 => ?_) (fun g11 => ?_)
  · simp only [decide_eq_true_eq, decide_eq_false_iff_not, Bool.not_eq_true', Bool.not_eq_false'] at g11
    refine WL.go (b := true) rfl rfl rfl ?_
    refine WL.val (OV.move rfl) rfl ?_
    refine WL.val (OV.pickT rfl rfl) rfl ?_
    refine WL.nil ?_
    refine WX.next ?_
    refine WC.condT rfl ?_
    refine WC.skip ?_
    refine WX.next ?_
    refine WC.seq ?_
    refine WC.block ?_
    refine WC.region ?_
    refine WL.val (OV.move rfl) rfl ?_
    refine WL.val (OV.move rfl) rfl ?_
    refine WL.val (OV.move rfl) rfl ?_
    have hin : i < os.length := by rw [ho.1]; omega
    have hst := sumO_take hin
    have hle := sumO_le os (i + 1)
    obtain ⟨q, rfl⟩ : ∃ q, a = some q := by
      cases a with
      | none => have := ho.2.1 rfl; omega
      | some q => exact ⟨q, rfl⟩
    obtain ⟨ab, mb, cb, hcell, hrb, hx1, hx2⟩ := ho.2.2 q rfl i (by omega)
    have hlb := hrb.1
    have h4w : 3 < w.heap.size := hT.dk.lt (by decide)
    refine WL.val ((OV.indexSlice rfl rfl T.u40 T.z45 (by omega)).cast (u := .pointer (some (q.add (i * 3)))) (by rw [Int.toNat_natCast])) rfl ?_
    refine WL.val (OV.loadN (cs := [.int .i64 (os.getD i (0, 0, [])).1, .int .i64 (os.getD i (0, 0, [])).2.1, .slice ab mb cb]) rfl T.u45 rfl T.z45 (fun _ hw j v hj => snapL hw (hcell j v hj))) rfl ?_
    refine WL.callT0 (ι := List HE × Option Addr × Nat) (vv := fun x => .tuple #[.slice x.2.1 x.1.length x.2.2, .bool true]) (pp := fun x => goodE (sumO (os.take i) + mb) x.1 ∧ x.1.length ≤ E.length + 1) (AA := fun x => pairA x.1 x.2.1 x.2.2) (by kernel_rfl) rfl rfl (fun w' hw => plays_calls E aL cL _ _ ab mb cb (os.getD i (0, 0, [])).2.2 w.heap.size (sumO (os.take i)) (by omega) hE (by omega) ⟨hx1, hx2⟩ w' ⟨hw.it, fun i hi b hb => (hw.lt i hi b hb).1, hw.disj⟩ hw.newBlocks hw.fr.size (hrb.sat hw) (fun q hq hm => by subst hq; exact hrb.block hm) (hT.sat hw) h4w) ?_
    rintro ⟨E', aL', cL'⟩ ⟨hE', hEl'⟩
    have hEl2 : E'.length ≤ E.length + 1 := hEl'
    refine WL.val (OV.move rfl) rfl ?_
    refine WL.val (OV.extract rfl rfl) rfl ?_
    refine WL.val (OV.extract rfl rfl) rfl ?_
    refine WL.val (OV.assign rfl) rfl ?_
    refine WL.val (OV.assign rfl) rfl ?_
    refine WL.nil ?_
    refine WX.block_normal ?_
    refine WX.next ?_
    refine WC.region ?_
    refine WL.val (OV.move rfl) rfl ?_
    refine WL.val (OV.addN (j := 1) rfl rfl (by omega)) rfl ?_
    refine WL.val (OV.assign rfl) rfl ?_
    refine WL.nil ?_
    exact WX.round4 (i + 1) E' aL' cL' ⟨rfl, rfl, rfl, rfl, trivial⟩ (fun w' hw => ⟨⟨by omega, by omega, by rw [hst, hlb]; exact hE'⟩, hw⟩) (by show n - (i + 1) < n - i; omega)
  · simp only [decide_eq_true_eq, decide_eq_false_iff_not, Bool.not_eq_true', Bool.not_eq_false'] at g11
    refine WL.skip (b := false) rfl rfl rfl rfl ?_
    refine WL.val (OV.pickF rfl rfl) rfl ?_
    refine WL.nil ?_
    refine WX.next ?_
    refine WC.condF rfl ?_
    refine WC.exit ?_
    refine WX.then_exit ?_
    refine WX.then_exit ?_
    refine WX.block_hit ?_
    refine WX.next ?_
    refine WC.seq ?_
    refine WC.seq ?_
    refine WC.region ?_
    refine WL.val (OV.move rfl) rfl ?_
    refine WL.val (OV.not rfl) rfl ?_
    refine WL.nil ?_
    refine WX.next ?_
    refine WC.condF rfl ?_
    refine WC.skip ?_
    refine WX.next ?_
    refine WC.seq ?_
    refine WC.seq ?_
    refine WC.region ?_
    refine WL.val (OV.assign rfl) rfl ?_
    refine WL.nil ?_
    refine WX.next ?_
    refine WC.block ?_
    have hin : n = i := by omega
    subst hin
    have hEs := hE
    refine WC.loop1 (fun (k : Nat) => [(3, .slice aL E.length cL), (6, .int .i64 (k : Int))])
        (fun k w' => k ≤ E.length ∧ Sat w (fun _ => False) (fun b => b < w.heap.size) w (pairA E aL cL) w')
        (fun k => E.length - k) 0 ⟨rfl, rfl, trivial⟩ (fun w' hw => ⟨by omega, hw⟩) ?_
    intro k
    refine WC.pure (fun hk => ?_)
    refine WC.seq ?_
    refine WC.seq ?_
    refine WC.region ?_
    refine WL.val (OV.move rfl) rfl ?_
    refine WL.val (OV.move rfl) rfl ?_
    first
    | (refine WL.val (OV.lenSlice rfl T.u41) rfl ?_)
    | (refine WL.val (OV.lenStr rfl T.u41) rfl ?_)
    refine WL.val (OV.lss rfl rfl) rfl ?_
    refine WL.nil ?_
    refine WX.next ?_
    refine WC.cond rfl (fun c30 => ?_) (fun c30 => ?_)
    · simp only [decide_eq_true_eq, decide_eq_false_iff_not, Bool.not_eq_true', Bool.not_eq_false'] at c30
      refine WC.skip ?_
      refine WX.next ?_
      refine WC.seq ?_
      refine WC.block ?_
      refine WC.seq ?_
      obtain ⟨E1, h, E2, rfl, hk1⟩ := split_at (show k < E.length by omega)
      have hlenE : (E1 ++ h :: E2).length = E1.length + (E2.length + 1) := by simp
      subst hk1
      have hh := hE h (by simp)
      refine WC.know (fun w' hw => (row_base hw (.head _)).2) (fun hq => ?_)
      rcases hq with hq | ⟨bL, rfl, hcap⟩
      · exfalso; omega
      refine WC.drawnS (fun w' => w'.cell? ⟨bL, 2 * E1.length, none⟩ = some (.pointer (some ⟨h.hb, 0, none⟩)) ∧ w'.cell? ⟨bL, 2 * E1.length + 1, none⟩ = some (.slice h.a h.all.length h.c)) (by kernel_rfl) (m := 28) rfl ?_
      refine WH.take 0 rfl (by kernel_rfl) (by kernel_rfl) (by kernel_rfl) (fun _ hw => pair_cells hw (.head _)) (OV.move rfl) rfl (listed' := [true, false, false, false, false, false, false, false, false, false, false, false, false, false, false, false, false, false, false, false, false, false, false, false, false, false, false, false]) rfl ?_
      refine WH.take 1 rfl (by kernel_rfl) (by kernel_rfl) (by kernel_rfl) (fun _ hw => pair_cells hw (.head _)) (OV.move rfl) rfl (listed' := [true, true, false, false, false, false, false, false, false, false, false, false, false, false, false, false, false, false, false, false, false, false, false, false, false, false, false, false]) rfl ?_
      refine WH.take 2 rfl (by kernel_rfl) (by kernel_rfl) (by kernel_rfl) (fun _ hw => pair_cells hw (.head _)) ((OV.indexSlice rfl rfl T.u41 T.z48 (by omega)).cast (u := .pointer (some ⟨bL, 2 * E1.length, none⟩)) (by rw [add_off, Int.toNat_natCast, Nat.zero_add, Nat.mul_comm])) rfl (listed' := [true, true, true, false, false, false, false, false, false, false, false, false, false, false, false, false, false, false, false, false, false, false, false, false, false, false, false, false]) rfl ?_
      first
      | (refine WH.take 3 rfl (by kernel_rfl) (by kernel_rfl) (by kernel_rfl) (fun _ hw => pair_cells hw (.head _)) (OV.fieldAddr0 (off := 0) rfl T.u48 rfl) rfl (listed' := [true, true, true, true, false, false, false, false, false, false, false, false, false, false, false, false, false, false, false, false, false, false, false, false, false, false, false, false]) rfl ?_)
      | (refine WH.take 3 rfl (by kernel_rfl) (by kernel_rfl) (by kernel_rfl) (fun _ hw => pair_cells hw (.head _)) (OV.fieldAddr (off := 0) rfl T.u48 rfl) rfl (listed' := [true, true, true, true, false, false, false, false, false, false, false, false, false, false, false, false, false, false, false, false, false, false, false, false, false, false, false, false]) rfl ?_)
      refine WH.take 4 rfl (by kernel_rfl) (by kernel_rfl) (by kernel_rfl) (fun _ hw => pair_cells hw (.head _)) (OV.load1 rfl T.u46 rfl (fun _ hw => hw.1)) rfl (listed' := [true, true, true, true, true, false, false, false, false, false, false, false, false, false, false, false, false, false, false, false, false, false, false, false, false, false, false, false]) rfl ?_
      refine WH.take 6 rfl (by kernel_rfl) (by kernel_rfl) (by kernel_rfl) (fun _ hw => pair_cells hw (.head _)) (OV.move rfl) rfl (listed' := [true, true, true, true, true, false, true, false, false, false, false, false, false, false, false, false, false, false, false, false, false, false, false, false, false, false, false, false]) rfl ?_
      refine WH.take 7 rfl (by kernel_rfl) (by kernel_rfl) (by kernel_rfl) (fun _ hw => pair_cells hw (.head _)) (OV.move rfl) rfl (listed' := [true, true, true, true, true, false, true, true, false, false, false, false, false, false, false, false, false, false, false, false, false, false, false, false, false, false, false, false]) rfl ?_
      refine WH.take 8 rfl (by kernel_rfl) (by kernel_rfl) (by kernel_rfl) (fun _ hw => pair_cells hw (.head _)) ((OV.indexSlice rfl rfl T.u41 T.z48 (by omega)).cast (u := .pointer (some ⟨bL, 2 * E1.length, none⟩)) (by rw [add_off, Int.toNat_natCast, Nat.zero_add, Nat.mul_comm])) rfl (listed' := [true, true, true, true, true, false, true, true, true, false, false, false, false, false, false, false, false, false, false, false, false, false, false, false, false, false, false, false]) rfl ?_
      first
      | (refine WH.take 9 rfl (by kernel_rfl) (by kernel_rfl) (by kernel_rfl) (fun _ hw => pair_cells hw (.head _)) (OV.fieldAddr0 (off := 1) rfl T.u48 rfl) rfl (listed' := [true, true, true, true, true, false, true, true, true, true, false, false, false, false, false, false, false, false, false, false, false, false, false, false, false, false, false, false]) rfl ?_)
      | (refine WH.take 9 rfl (by kernel_rfl) (by kernel_rfl) (by kernel_rfl) (fun _ hw => pair_cells hw (.head _)) (OV.fieldAddr (off := 1) rfl T.u48 rfl) rfl (listed' := [true, true, true, true, true, false, true, true, true, true, false, false, false, false, false, false, false, false, false, false, false, false, false, false, false, false, false, false]) rfl ?_)
      refine WH.take 10 rfl (by kernel_rfl) (by kernel_rfl) (by kernel_rfl) (fun _ hw => pair_cells hw (.head _)) (OV.load1 rfl T.u22 rfl (fun _ hw => hw.2)) rfl (listed' := [true, true, true, true, true, false, true, true, true, true, true, false, false, false, false, false, false, false, false, false, false, false, false, false, false, false, false, false]) rfl ?_
      refine WH.only 5 rfl (by kernel_rfl) (listed' := [true, true, true, true, true, true, true, true, true, true, true, false, false, false, false, false, false, false, false, false, false, false, false, false, false, false, false, false]) rfl ?_
      refine WL.call0 (by kernel_rfl) rfl rfl (fun w' hw => hsum_calls h.all h.part h.hb (by have := hh.2; have := sumO_le os n; omega) w' hh.1 (hw.it _ (.tail _ (mem_ownE E1 E2 h))) (hT.sat hw).dk) ?_
      refine WL.nil ?_
      refine WX.cont (fun _ hw => pair_cells hw (.head _)) ?_
      refine WH.only 11 rfl (by kernel_rfl) (listed' := [true, true, true, true, true, true, true, true, true, true, true, true, false, false, false, false, false, false, false, false, false, false, false, false, false, false, false, false]) rfl ?_
      refine WL.call0 (by kernel_rfl) rfl rfl (fun w' hw => refSum_calls h.all h.a h.all.length h.c (by have := hh.2; have := sumO_le os n; omega) w' (RB.of_row hw (.tail _ (mem_rowE E1 E2 h))).1 (hT.sat hw).rf (hT.sat hw).rk) ?_
      refine WL.nil ?_
      refine WX.cont (fun _ hw => pair_cells hw (.head _)) ?_
      refine WH.take 12 rfl (by kernel_rfl) (by kernel_rfl) (by kernel_rfl) (fun _ hw => pair_cells hw (.head _)) ((OV.neqA T.u25 T.u5 T.z5 (by kernel_rfl) rfl rfl (shaD_length _) (shaD_length _)).cast (u := .bool false) (by simp)) rfl (listed' := [true, true, true, true, true, true, true, true, true, true, true, true, true, false, false, false, false, false, false, false, false, false, false, false, false, false, false, false]) rfl ?_
      refine WH.take 13 rfl (by kernel_rfl) (by kernel_rfl) (by kernel_rfl) (fun _ hw => pair_cells hw (.head _)) (OV.move rfl) rfl (listed' := [true, true, true, true, true, true, true, true, true, true, true, true, true, true, false, false, false, false, false, false, false, false, false, false, false, false, false, false]) rfl ?_
      refine WH.known (t := 46) (b := false) rfl (by rfl) ?_
      refine WH.takeG 14 (b := false) rfl (by kernel_rfl) (by kernel_rfl) (by kernel_rfl) (fun _ hw => pair_cells hw (.head _)) rfl rfl rfl (OV.move rfl) rfl (listed' := [true, true, true, true, true, true, true, true, true, true, true, true, true, true, true, false, false, false, false, false, false, false, false, false, false, false, false, false]) rfl ?_
      refine WH.takeG 15 (b := false) rfl (by kernel_rfl) (by kernel_rfl) (by kernel_rfl) (fun _ hw => pair_cells hw (.head _)) rfl rfl rfl (OV.move rfl) rfl (listed' := [true, true, true, true, true, true, true, true, true, true, true, true, true, true, true, true, false, false, false, false, false, false, false, false, false, false, false, false]) rfl ?_
      refine WH.takeG 16 (b := false) rfl (by kernel_rfl) (by kernel_rfl) (by kernel_rfl) (fun _ hw => pair_cells hw (.head _)) rfl rfl rfl ((OV.indexSlice rfl rfl T.u41 T.z48 (by omega)).cast (u := .pointer (some ⟨bL, 2 * E1.length, none⟩)) (by rw [add_off, Int.toNat_natCast, Nat.zero_add, Nat.mul_comm])) rfl (listed' := [true, true, true, true, true, true, true, true, true, true, true, true, true, true, true, true, true, false, false, false, false, false, false, false, false, false, false, false]) rfl ?_
      first
      | (refine WH.takeG 17 (b := false) rfl (by kernel_rfl) (by kernel_rfl) (by kernel_rfl) (fun _ hw => pair_cells hw (.head _)) rfl rfl rfl (OV.fieldAddr0 (off := 0) rfl T.u48 rfl) rfl (listed' := [true, true, true, true, true, true, true, true, true, true, true, true, true, true, true, true, true, true, false, false, false, false, false, false, false, false, false, false]) rfl ?_)
      | (refine WH.takeG 17 (b := false) rfl (by kernel_rfl) (by kernel_rfl) (by kernel_rfl) (fun _ hw => pair_cells hw (.head _)) rfl rfl rfl (OV.fieldAddr (off := 0) rfl T.u48 rfl) rfl (listed' := [true, true, true, true, true, true, true, true, true, true, true, true, true, true, true, true, true, true, false, false, false, false, false, false, false, false, false, false]) rfl ?_)
      refine WH.takeG 18 (b := false) rfl (by kernel_rfl) (by kernel_rfl) (by kernel_rfl) (fun _ hw => pair_cells hw (.head _)) rfl rfl rfl (OV.load1 rfl T.u46 rfl (fun _ hw => hw.1)) rfl (listed' := [true, true, true, true, true, true, true, true, true, true, true, true, true, true, true, true, true, true, true, false, false, false, false, false, false, false, false, false]) rfl ?_
      refine WH.takeG 20 (b := false) rfl (by kernel_rfl) (by kernel_rfl) (by kernel_rfl) (fun _ hw => pair_cells hw (.head _)) rfl rfl rfl (OV.move rfl) rfl (listed' := [true, true, true, true, true, true, true, true, true, true, true, true, true, true, true, true, true, true, true, false, true, false, false, false, false, false, false, false]) rfl ?_
      refine WH.takeG 21 (b := false) rfl (by kernel_rfl) (by kernel_rfl) (by kernel_rfl) (fun _ hw => pair_cells hw (.head _)) rfl rfl rfl (OV.move rfl) rfl (listed' := [true, true, true, true, true, true, true, true, true, true, true, true, true, true, true, true, true, true, true, false, true, true, false, false, false, false, false, false]) rfl ?_
      refine WH.takeG 22 (b := false) rfl (by kernel_rfl) (by kernel_rfl) (by kernel_rfl) (fun _ hw => pair_cells hw (.head _)) rfl rfl rfl ((OV.indexSlice rfl rfl T.u41 T.z48 (by omega)).cast (u := .pointer (some ⟨bL, 2 * E1.length, none⟩)) (by rw [add_off, Int.toNat_natCast, Nat.zero_add, Nat.mul_comm])) rfl (listed' := [true, true, true, true, true, true, true, true, true, true, true, true, true, true, true, true, true, true, true, false, true, true, true, false, false, false, false, false]) rfl ?_
      first
      | (refine WH.takeG 23 (b := false) rfl (by kernel_rfl) (by kernel_rfl) (by kernel_rfl) (fun _ hw => pair_cells hw (.head _)) rfl rfl rfl (OV.fieldAddr0 (off := 1) rfl T.u48 rfl) rfl (listed' := [true, true, true, true, true, true, true, true, true, true, true, true, true, true, true, true, true, true, true, false, true, true, true, true, false, false, false, false]) rfl ?_)
      | (refine WH.takeG 23 (b := false) rfl (by kernel_rfl) (by kernel_rfl) (by kernel_rfl) (fun _ hw => pair_cells hw (.head _)) rfl rfl rfl (OV.fieldAddr (off := 1) rfl T.u48 rfl) rfl (listed' := [true, true, true, true, true, true, true, true, true, true, true, true, true, true, true, true, true, true, true, false, true, true, true, true, false, false, false, false]) rfl ?_)
      refine WH.takeG 24 (b := false) rfl (by kernel_rfl) (by kernel_rfl) (by kernel_rfl) (fun _ hw => pair_cells hw (.head _)) rfl rfl rfl (OV.load1 rfl T.u22 rfl (fun _ hw => hw.2)) rfl (listed' := [true, true, true, true, true, true, true, true, true, true, true, true, true, true, true, true, true, true, true, false, true, true, true, true, true, false, false, false]) rfl ?_
      first
      | (refine WH.takeG 25 (b := false) rfl (by kernel_rfl) (by kernel_rfl) (by kernel_rfl) (fun _ hw => pair_cells hw (.head _)) rfl rfl rfl (OV.lenSlice rfl T.u22) rfl (listed' := [true, true, true, true, true, true, true, true, true, true, true, true, true, true, true, true, true, true, true, false, true, true, true, true, true, true, false, false]) rfl ?_)
      | (refine WH.takeG 25 (b := false) rfl (by kernel_rfl) (by kernel_rfl) (by kernel_rfl) (fun _ hw => pair_cells hw (.head _)) rfl rfl rfl (OV.lenStr rfl T.u22) rfl (listed' := [true, true, true, true, true, true, true, true, true, true, true, true, true, true, true, true, true, true, true, false, true, true, true, true, true, true, false, false]) rfl ?_)
      refine WH.only 19 rfl (by kernel_rfl) (listed' := [true, true, true, true, true, true, true, true, true, true, true, true, true, true, true, true, true, true, true, true, true, true, true, true, true, true, false, false]) rfl ?_
      refine WL.go (b := false) rfl rfl rfl ?_
      refine WL.call0 (by kernel_rfl) rfl rfl (fun w' hw => len_calls h.all h.part h.hb w' hh.1 (hw.it _ (.tail _ (mem_ownE E1 E2 h)))) ?_
      refine WL.nil ?_
      refine WX.cont (fun _ hw => pair_cells hw (.head _)) ?_
      refine WH.takeG 26 (b := false) rfl (by kernel_rfl) (by kernel_rfl) (by kernel_rfl) (fun _ hw => pair_cells hw (.head _)) rfl rfl rfl ((OV.neq rfl rfl).cast (u := .bool false) (by simp)) rfl (listed' := [true, true, true, true, true, true, true, true, true, true, true, true, true, true, true, true, true, true, true, true, true, true, true, true, true, true, true, false]) rfl ?_
      refine WH.take 27 rfl (by kernel_rfl) (by kernel_rfl) (by kernel_rfl) (fun _ hw => pair_cells hw (.head _)) (OV.pickF rfl rfl) rfl (listed' := [true, true, true, true, true, true, true, true, true, true, true, true, true, true, true, true, true, true, true, true, true, true, true, true, true, true, true, true]) rfl ?_
      refine WH.done (by kernel_rfl) ?_
      refine WX.next ?_
      refine WC.condF rfl ?_
      refine WC.skip ?_
      refine WX.block_normal ?_
      refine WX.next ?_
      refine WC.region ?_
      refine WL.val (OV.move rfl) rfl ?_
      refine WL.val (OV.addN (j := 1) rfl rfl (by omega)) rfl ?_
      refine WL.val (OV.assign rfl) rfl ?_
      refine WL.nil ?_
      exact WX.round1 (E1.length + 1) ⟨rfl, rfl, trivial⟩ (fun w' hw => ⟨by omega, hw⟩) (by show (E1 ++ h :: E2).length - (E1.length + 1) < (E1 ++ h :: E2).length - E1.length; omega)
    · simp only [decide_eq_true_eq, decide_eq_false_iff_not, Bool.not_eq_true', Bool.not_eq_false'] at c30
      refine WC.exit ?_
      refine WX.then_exit ?_
      refine WX.then_exit ?_
      refine WX.block_hit ?_
      refine WX.next ?_
      refine WC.seq ?_
      refine WC.region ?_
      refine WL.call0 (by kernel_rfl) rfl rfl (fun w' hw => head_calls w' (hT.sat hw).df (hT.sat hw).dk) ?_
      refine WL.val (OV.assign rfl) rfl ?_
      refine WL.nil ?_
      refine WX.next ?_
      refine WC.ret ?_
      exact WX.ret1 rfl rfl rfl (fun w hw => ⟨rfl, hw.fr⟩)

end Go.Proofs.YtplebagdajdcnaaDoor
