/- Contracts of functions of the program: what each returns and leaves in memory. Printed by gen.py and walk.py. -/
import Derived.Test.YtplebagdajdcnaaDoorH2
namespace Go.Proofs.YtplebagdajdcnaaDoor
open Go Go.Hw
set_option linter.unusedSimpArgs false
set_option linter.unusedVariables false
section
variable {H : Type} {enc : TypeId × Value → H} {w : World} {base : Nat} {spare : Nat → Bool} {held : Bool} {r : Reach} {b0 : Nat}
/-- The datum of a step. -/
def DO (d : DataW H) (m : Nat) : Prop := ∃ x y z, d = .agg [.lit (.int .i64 x), .lit (.int .i64 y), z] ∧ DB z m
theorem trod_op {fuel : Nat} {cs : List Value} {x : DataW H × List MemPlace} (h : DataW.trod enc Tryd.prog w base spare held fuel 45 cs = some x) :
    ∃ kind hx ab mb cb lb, cs = [.int .i64 kind, .int .i64 hx, .slice ab mb cb] ∧ RB w ab mb lb ∧ -9223372036854775808 ≤ hx ∧ hx ≤ 9223372036854775807 ∧ DO x.1 lb.length := by
  obtain ⟨xs, n, rfl, rfl, hl, hxs, hf⟩ := DataW.trod_struct T.u45 h
  have hl3 : cs.length = 3 := by rw [hl]; kernel_rfl
  have c3 : Tryd.prog.cellsOf 3 = 1 := by kernel_rfl
  have c22 : Tryd.prog.cellsOf 22 = 1 := by kernel_rfl
  match cs, hl3 with
  | [v0, v1, v2], _ =>
    match xs, hxs with
    | [x0, x1, x2], _ =>
      have k0 : DataW.trod enc Tryd.prog w base spare held n 3 [v0] = some x0 := by
        have k : DataW.trod enc Tryd.prog w base spare held n 3 (List.take (Tryd.prog.cellsOf 3) (List.drop 0 [v0, v1, v2])) = some x0 := hf 0 _ rfl
        rw [c3] at k
        exact k
      have k1 : DataW.trod enc Tryd.prog w base spare held n 3 [v1] = some x1 := by
        have k : DataW.trod enc Tryd.prog w base spare held n 3 (List.take (Tryd.prog.cellsOf 3) (List.drop 1 [v0, v1, v2])) = some x1 := hf 1 _ rfl
        rw [c3] at k
        exact k
      have k2 : DataW.trod enc Tryd.prog w base spare held n 22 [v2] = some x2 := by
        have k : DataW.trod enc Tryd.prog w base spare held n 22 (List.take (Tryd.prog.cellsOf 22) (List.drop 2 [v0, v1, v2])) = some x2 := hf 2 _ rfl
        rw [c22] at k
        exact k
      obtain ⟨kind, e0, d0, _⟩ := DataW.trod_int T.u3 k0
      obtain ⟨hx, e1, d1, w1⟩ := DataW.trod_int T.u3 k1
      obtain ⟨ab, mb, cb, lb, e2, hrb, _, _, hd⟩ := trod_bytes T.u22 T.u5 (by kernel_rfl) k2
      have hb : -9223372036854775808 ≤ hx ∧ hx ≤ 9223372036854775807 := by simpa [Lit.wf, IntKind.min, IntKind.max, IntKind.signed, IntKind.bits] using w1
      simp only [List.cons.injEq, and_true] at e0 e1 e2
      subst e0; subst e1; subst e2
      refine ⟨kind, hx, ab, mb, cb, lb, rfl, hrb, hb.1, hb.2, kind, hx, x2.1, ?_, by rw [hrb.1]; exact hd⟩
      simp [d0, d1]
theorem open_ops {v : Value} {d : DataW H} {p : List MemPlace} (hv : Value.okWide Tryd.prog w r b0 40 v) (h : DataW.Trod enc Tryd.prog w base spare held 40 v d p) :
    ∃ a n c os, v = .slice a n c ∧ RO w a n os ∧ n ≤ c ∧ ((d = .nil ∧ os = []) ∨ ∃ elems rest, d = .slice elems rest ∧ elems.length = os.length ∧ ∀ i d, elems[i]? = some d → DO d (os.getD i (0, 0, [])).2.2.length) := by
  obtain ⟨fuel, hf⟩ := h
  have c45 : Tryd.prog.cellsOf 45 = 3 := by kernel_rfl
  rcases DataW.trod_slice T.u40 hf with ⟨hcs, hx⟩ | ⟨a, len, cap, elems, rest, n, rfl, hcs, hx, hb, hlc, hcm, hlen, hel, _, _⟩
  · simp only [Prod.mk.injEq] at hx
    exact ⟨none, 0, 0, [], slice_of_ok T.u40 hv hcs, ⟨rfl, fun _ => rfl, fun b hb => by cases hb⟩, Nat.le_refl _, .inl ⟨hx.1, rfl⟩⟩
  · simp only [Prod.mk.injEq] at hx
    have key : ∀ i, i < len → ∃ o : Op3, (∃ ab mb cb, (∀ j v, ([.int .i64 o.1, .int .i64 o.2.1, .slice ab mb cb] : List Value)[j]? = some v → w.cell? ((a.add (i * 3)).add j) = some v) ∧ RB w ab mb o.2.2 ∧ -9223372036854775808 ≤ o.2.1 ∧ o.2.1 ≤ 9223372036854775807) ∧ ∀ d, (elems.map (·.1))[i]? = some d → DO d o.2.2.length := by
      intro i hi
      have h3 := hel i hi
      rw [c45] at h3
      have h4 : i < elems.length := by omega
      rw [List.getElem?_eq_getElem h4] at h3
      obtain ⟨us, hus, h5⟩ := Option.bind_eq_some_iff.1 h3
      obtain ⟨kind, hx, ab, mb, cb, lb, rfl, hrb, hx1, hx2, hd⟩ := trod_op h5
      have h8 := (World.cells?_some hus).2.2
      refine ⟨(kind, hx, lb), ⟨ab, mb, cb, fun j v hj => ?_, hrb, hx1, hx2⟩, fun d hd2 => ?_⟩
      · have hj3 : j < 3 := by have := (List.getElem?_eq_some_iff.1 hj).1; simpa using this
        rw [h8 j hj3]; exact hj
      · rw [List.getElem?_map, List.getElem?_eq_getElem h4] at hd2
        simp only [Option.map_some, Option.some.injEq] at hd2
        rw [← hd2]; exact hd
    obtain ⟨os, hol, hq⟩ := exists_list (0, 0, []) _ len key
    refine ⟨some a, len, cap, os, slice_of_ok T.u40 hv hcs, ⟨hol, fun h => (by cases h), fun q hq' i hi => ?_⟩, hlc, .inr ⟨_, _, hx.1, by simp [hol, hlen], fun i d hd => ?_⟩⟩
    · simp only [Option.some.injEq] at hq'
      subst hq'
      exact (hq i hi).1
    · have hi : i < len := by have := (List.getElem?_eq_some_iff.1 hd).1; simp at this; omega
      exact (hq i hi).2 d hd
theorem bulk_op {d : DataW H} {m : Nat} (h : DO d m) : m + 1 ≤ Rows.uptoBulk d := by
  obtain ⟨x, y, z, rfl, hz⟩ := h
  have := bulk_one hz
  simp only [Rows.uptoBulk, Rows.uptoBulkAll]
  omega
theorem bulk_ops : ∀ (elems : List (DataW H)) (os : List Op3), elems.length = os.length → (∀ i d, elems[i]? = some d → DO d (os.getD i (0, 0, [])).2.2.length) → sumO os + os.length ≤ Rows.uptoBulkAll elems
  | [], [], _, _ => by simp [Rows.uptoBulkAll, sumO]
  | [], _ :: _, h, _ => by simp at h
  | _ :: _, [], h, _ => by simp at h
  | d :: elems, o :: os, h, hd => by
    have h1 := bulk_op (hd 0 d rfl)
    have h2 := bulk_ops elems os (by simpa using h) (fun i d hi => hd (i + 1) d hi)
    simp only [List.getD_cons_zero] at h1
    have h3 : sumO (o :: os) = o.2.2.length + sumO os := by simp [sumO]
    simp only [List.length_cons, Rows.uptoBulkAll, h3]
    omega
theorem bulk_script {d : DataW H} {os : List Op3} (h : (d = .nil ∧ os = []) ∨ ∃ elems rest, d = .slice elems rest ∧ elems.length = os.length ∧ ∀ i d, elems[i]? = some d → DO d (os.getD i (0, 0, [])).2.2.length) : sumO os + os.length ≤ Rows.uptoBulk d := by
  rcases h with ⟨rfl, rfl⟩ | ⟨elems, rest, rfl, h1, h2⟩
  · simp [Rows.uptoBulk, sumO]
  · have := bulk_ops elems os h1 h2
    simp only [Rows.uptoBulk]; omega
end

end Go.Proofs.YtplebagdajdcnaaDoor
