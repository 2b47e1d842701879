/- Contracts of functions of the program: what each returns and leaves in memory. Printed by gen.py and walk.py. -/
import Derived.Test.YtplebagdajdcnaaDoorP3
import Derived.Test.YtplebagdajdcnaaDoorHwOpen
import Derived.Test.YtplebagdajdcnaaDoorRows
namespace Go.Proofs.YtplebagdajdcnaaDoor
open Go Go.Hw
set_option linter.unusedSimpArgs false
set_option linter.unusedVariables false
theorem bulk_one {H : Type} {d : DataW H} {m : Nat} (h : DB d m) : m + 1 ≤ Rows.uptoBulk d := by
  rcases h with ⟨rfl, rfl⟩ | ⟨elems, rest, rfl, rfl⟩
  · simp [Rows.uptoBulk]
  · have key : ∀ l : List (DataW H), l.length ≤ Rows.uptoBulkAll l := by
      intro l
      induction l with
      | nil => simp [Rows.uptoBulkAll]
      | cons x r ih =>
        have hx : 1 ≤ Rows.uptoBulk x := by cases x with
          | lit l => cases l <;> simp [Rows.uptoBulk]
          | _ => simp [Rows.uptoBulk]
        simp only [Rows.uptoBulkAll, List.length_cons]; omega
    have := key elems
    simp only [Rows.uptoBulk]; omega
theorem bulk_le {H : Type} : ∀ (elems : List (DataW H)) (ls : List (List UInt8)), elems.length = ls.length → (∀ i d, elems[i]? = some d → DB d (ls.getD i []).length) → ls.flatten.length + ls.length ≤ Rows.uptoBulkAll elems
  | [], [], _, _ => by simp [Rows.uptoBulkAll]
  | [], _ :: _, h, _ => by simp at h
  | _ :: _, [], h, _ => by simp at h
  | d :: elems, l :: ls, h, hd => by
    have h1 := bulk_one (hd 0 d rfl)
    have h2 := bulk_le elems ls (by simpa using h) (fun i d hi => hd (i + 1) d hi)
    simp only [List.getD_cons_zero] at h1
    simp only [List.flatten_cons, List.length_append, List.length_cons, Rows.uptoBulkAll]
    omega
theorem bulk_of {H : Type} {d : DataW H} {ls : List (List UInt8)} (h : (d = .nil ∧ ls = []) ∨ ∃ elems rest, d = .slice elems rest ∧ elems.length = ls.length ∧ ∀ i d, elems[i]? = some d → DB d (ls.getD i []).length) : ls.flatten.length + ls.length ≤ Rows.uptoBulk d := by
  rcases h with ⟨rfl, rfl⟩ | ⟨elems, rest, rfl, h1, h2⟩
  · simp [Rows.uptoBulk]
  · have := bulk_le elems ls h1 h2
    simp only [Rows.uptoBulk]; omega
theorem layP_len (ls : List (List UInt8)) : (layP ls).length = 8 * ls.length + ls.flatten.length := by
  induction ls with
  | nil => rfl
  | cons l ls ih =>
    have : layP (l :: ls) = be8 l.length ++ l ++ layP ls := rfl
    rw [this]
    simp only [List.length_append, be8_length, ih, List.flatten_cons, List.length_cons]
    omega
theorem joinL_len (label : List UInt8) (ls : List (List UInt8)) : (joinL label ls).length = 8 + label.length + (8 * ls.length + ls.flatten.length) := by
  simp only [joinL, List.length_append, be8_length, layP_len]

end Go.Proofs.YtplebagdajdcnaaDoor
