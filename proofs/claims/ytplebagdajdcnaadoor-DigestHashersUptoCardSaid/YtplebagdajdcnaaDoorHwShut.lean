/- From what a row says of the arguments to what a walk reads. -/
import Derived.Test.YtplebagdajdcnaaDoorHwEq
import Derived.ProofKit
import Derived.OpenShut
import Derived.ShutString
import Derived.ChangeOld
import Derived.SizedLaws
namespace Go.Hw
set_option linter.unusedVariables false
set_option linter.unusedSimpArgs false
open Go Go.RowKit Go.ChangeShapes Go.WideShapes Go.ChangeAt
variable {H : Type} {enc : TypeId × Value → H} {P : Program} {w : World} {base : Nat} {spare : Nat → Bool} {held : Bool} {r : Reach} {b0 : Nat}

theorem trod_u8 {e : TypeId} {fuel : Nat} {cs : List Value} {y : DataW H × List MemPlace} (hu : P.underlying e = some (.int .u8)) (h : DataW.trod enc P w base spare held fuel e cs = some y) : ∃ c : UInt8, cs = [b8 c] ∧ y = (.lit (.int .u8 c.toNat), []) := by
  obtain ⟨n, hcs, rfl, hwf⟩ := DataW.trod_int hu h
  have hb := bounds_u8 hwf
  have hn : ((UInt8.ofNat n.toNat).toNat : Int) = n := by
    rw [UInt8.toNat_ofNat']
    omega
  exact ⟨UInt8.ofNat n.toNat, by simp only [b8, hn]; exact hcs, by simp only [hn]⟩

theorem open_arr8 {t e : TypeId} {n : Nat} {v : Value} {d : DataW H} {p : List MemPlace} (ht : P.underlying t = some (.array n e)) (hu : P.underlying e = some (.int .u8)) (h1 : P.cellsOf e = 1) (hC : P.cellsOf t = n)
    (hv : Value.okWide P w r b0 t v) (h : DataW.Trod enc P w base spare held t v d p) : ∃ D : List UInt8, v = .agg (u8s D).toArray ∧ D.length = n := by
  have hcs : ∃ cs, v = .agg cs ∧ cs.size = P.cellsOf t := by
    unfold Value.okWide at hv
    rw [ht] at hv
    obtain ⟨cs, h1, h2, _⟩ := hv
    exact ⟨cs, h1, h2⟩
  obtain ⟨cs, rfl, hsz⟩ := hcs
  obtain ⟨fuel, hf⟩ := h
  obtain ⟨xs, m, _, _, hl, hxs, hall⟩ := DataW.trod_array ht hf
  simp only [Value.cells] at hl hall
  have key : ∀ i, i < n → ∃ c : UInt8, cs.toList[i]? = some (b8 c) := by
    intro i hi
    have h2 := hall i hi
    rw [h1, Nat.mul_one] at h2
    have h3 : i < xs.length := by omega
    rw [List.getElem?_eq_getElem h3] at h2
    obtain ⟨c, hc, _⟩ := trod_u8 hu h2
    refine ⟨c, ?_⟩
    have h4 := congrArg (fun l : List Value => l[0]?) hc
    simpa [List.getElem?_take, List.getElem?_drop] using h4
  refine ⟨(List.range n).map fun i => match cs.toList[i]? with | some (Value.int _ k) => UInt8.ofNat k.toNat | _ => 0, ?_, by simp⟩
  congr 1
  apply Array.ext'
  apply List.ext_getElem?
  intro i
  by_cases hi : i < n
  · obtain ⟨c, hc⟩ := key i hi
    have hc' : cs[i]? = some (b8 c) := by simpa using hc
    simp [u8s, hi, hc']
  · have : ¬ i < cs.toList.length := by simp; omega
    rw [List.getElem?_eq_none (by omega), List.getElem?_eq_none (by simp [u8s]; omega)]
end Go.Hw
