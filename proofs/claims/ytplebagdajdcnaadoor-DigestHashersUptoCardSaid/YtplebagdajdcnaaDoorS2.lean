/- Contracts of functions of the program: what each returns and leaves in memory. Printed by gen.py and walk.py. -/
import Derived.Test.YtplebagdajdcnaaDoorS1
namespace Go.Proofs.YtplebagdajdcnaaDoor
open Go Go.Hw
set_option linter.unusedSimpArgs false
set_option linter.unusedVariables false
theorem hs_word {L : List UInt32} {r : List Value} {i : Nat} (h : i < L.length) : (w32s L ++ r).toArray[i]? = some (w32 (L.getD i 0)) := by
  simp [List.getElem?_append_left, w32s_length, h, w32s]
theorem hs_set {L : List UInt32} {r : List Value} {i : Nat} (h : i < L.length) (x : UInt32) : (w32s L ++ r).set i (w32 x) = w32s (L.set i x) ++ r := by
  rw [List.set_append_left _ _ (by rw [w32s_length]; exact h), w32s_set]
/-- The table of the rounds, as a package-level variable. -/
def Tab (w : World) (g : Nat) (l : List UInt32) : Prop := ∀ t, t < l.length → w.cell? ⟨g, t, none⟩ = some (w32 (l.getD t 0))
theorem Tab.keep {w w' : World} {g : Nat} {l : List UInt32} (h : Tab w g l) (hl : 0 < l.length) {M : Nat → Prop} (k : Fr M w w') (hM : ¬ M g) : Tab w' g l := by
  intro t ht
  have hlt : g < w.heap.size := World.block_lt_of_cell? w _ (h 0 hl)
  rw [World.cell?_of_block (w := w) (k.keep g hlt hM)]
  exact h t ht

set_option maxRecDepth 10000 in
theorem turn_calls (s0 : S8) (part : List UInt8) (x : Value) (hb : Nat) (hp : part.length = 64) (w : World) (hc : w.heap[hb]? = some (.cells (w32s s0.toL ++ (u8s part ++ [x])).toArray 71 (0, 0))) (hne : hb ≠ 3) (hK : Tab w 3 kW) : Calls Tryd.prog 38 #[.pointer (some ⟨hb, 0, none⟩), .slice (some ⟨hb, 8, none⟩) 64 64] w fun e w' => e = .returned (.tuple #[]) ∧ Fr (fun i => i = hb) w w' ∧ w'.heap[hb]? = some (.cells (w32s (addP s0.toL (cmpS s0 (schW part 64) 64).toL 8) ++ (u8s part ++ [x])).toArray 71 (0, 0)) := by
  refine enterOwn hc (args := [.pointer (some ⟨hb, 0, none⟩), .slice (some ⟨hb, 8, none⟩) 64 64]) Tryd.func38 rfl Tryd.ntmps38 rfl rfl ?_
  refine WC.seq ?_
  refine WC.region ?_
  refine WL.val (OV.move rfl) rfl ?_
  refine WL.call0 (by kernel_rfl) rfl rfl (fun w' hw => schedule_calls part ⟨hb, 8, none⟩ 64 64 (by omega) w' ⟨hp, (fun h => by cases h), fun b hb' j hj => ?_⟩) ?_
  · simp only [Option.some.injEq] at hb'
    subst hb'
    rw [add_off]
    refine own_cells hw (.head _) (8 + j) _ ?_
    rw [List.getElem?_append_right (by simp [w32s, S8.toL])]
    have e8 : 8 + j - (w32s s0.toL).length = j := by simp [w32s, S8.toL]
    rw [e8, List.getElem?_append_left (by rw [u8s_length]; omega), u8s_getD _ (by omega)]
  refine WL.alloc T.zr72 rfl ?_
  intro b4
  refine WL.storeAll (vs := w32s (schW part 64)) rfl rfl (List.all_eq_true.2 (w32s_one _)) (by rw [w32s_length, schW_length]; exact T.z72) (by rw [w32s_length, w32s_length, schW_length]; rfl) ?_
  refine WL.nil ?_
  refine WX.next ?_
  refine WC.seq ?_
  refine WC.quietS (by kernel_rfl) (m := 40) rfl ?_
  refine WH.take 0 rfl (by kernel_rfl) (by kernel_rfl) (by kernel_rfl) (fun _ h => h) (OV.move rfl) rfl (listed' := [true, false, false, false, false, false, false, false, false, false, false, false, false, false, false, false, false, false, false, false, false, false, false, false, false, false, false, false, false, false, false, false, false, false, false, false, false, false, false, false]) rfl ?_
  refine WH.take 1 rfl (by kernel_rfl) (by kernel_rfl) (by kernel_rfl) (fun _ h => h) (OV.nilCheck rfl) rfl (listed' := [true, true, false, false, false, false, false, false, false, false, false, false, false, false, false, false, false, false, false, false, false, false, false, false, false, false, false, false, false, false, false, false, false, false, false, false, false, false, false, false]) rfl ?_
  first
  | (refine WH.take 2 rfl (by kernel_rfl) (by kernel_rfl) (by kernel_rfl) (fun _ h => h) (OV.indexArrN (i := 0) rfl rfl T.u69 T.z58 (by omega)) rfl (listed' := [true, true, true, false, false, false, false, false, false, false, false, false, false, false, false, false, false, false, false, false, false, false, false, false, false, false, false, false, false, false, false, false, false, false, false, false, false, false, false, false]) rfl ?_)
  | (refine WH.take 2 rfl (by kernel_rfl) (by kernel_rfl) (by kernel_rfl) (fun _ h => h) (OV.indexArrON (i := 0) rfl rfl T.u69 T.z58 (by omega)) rfl (listed' := [true, true, true, false, false, false, false, false, false, false, false, false, false, false, false, false, false, false, false, false, false, false, false, false, false, false, false, false, false, false, false, false, false, false, false, false, false, false, false, false]) rfl ?_)
  | (refine WH.take 2 rfl (by kernel_rfl) (by kernel_rfl) (by kernel_rfl) (fun _ h => h) (OV.indexArr1 rfl rfl T.u69 T.z58 (by omega)) rfl (listed' := [true, true, true, false, false, false, false, false, false, false, false, false, false, false, false, false, false, false, false, false, false, false, false, false, false, false, false, false, false, false, false, false, false, false, false, false, false, false, false, false]) rfl ?_)
  refine WH.take 3 rfl (by kernel_rfl) (by kernel_rfl) (by kernel_rfl) (fun _ h => h) (OV.load1 rfl T.u58 rfl (fun _ hw => cell_own hw (.tail _ (.head _)) (hs_word (i := 0) (show _ < 8 from by decide)))) rfl (listed' := [true, true, true, true, false, false, false, false, false, false, false, false, false, false, false, false, false, false, false, false, false, false, false, false, false, false, false, false, false, false, false, false, false, false, false, false, false, false, false, false]) rfl ?_
  refine WH.take 4 rfl (by kernel_rfl) (by kernel_rfl) (by kernel_rfl) (fun _ h => h) (OV.move rfl) rfl (listed' := [true, true, true, true, true, false, false, false, false, false, false, false, false, false, false, false, false, false, false, false, false, false, false, false, false, false, false, false, false, false, false, false, false, false, false, false, false, false, false, false]) rfl ?_
  refine WH.take 5 rfl (by kernel_rfl) (by kernel_rfl) (by kernel_rfl) (fun _ h => h) (OV.nilCheck rfl) rfl (listed' := [true, true, true, true, true, true, false, false, false, false, false, false, false, false, false, false, false, false, false, false, false, false, false, false, false, false, false, false, false, false, false, false, false, false, false, false, false, false, false, false]) rfl ?_
  first
  | (refine WH.take 6 rfl (by kernel_rfl) (by kernel_rfl) (by kernel_rfl) (fun _ h => h) (OV.indexArrN (i := 1) rfl rfl T.u69 T.z58 (by omega)) rfl (listed' := [true, true, true, true, true, true, true, false, false, false, false, false, false, false, false, false, false, false, false, false, false, false, false, false, false, false, false, false, false, false, false, false, false, false, false, false, false, false, false, false]) rfl ?_)
  | (refine WH.take 6 rfl (by kernel_rfl) (by kernel_rfl) (by kernel_rfl) (fun _ h => h) (OV.indexArrON (i := 1) rfl rfl T.u69 T.z58 (by omega)) rfl (listed' := [true, true, true, true, true, true, true, false, false, false, false, false, false, false, false, false, false, false, false, false, false, false, false, false, false, false, false, false, false, false, false, false, false, false, false, false, false, false, false, false]) rfl ?_)
  | (refine WH.take 6 rfl (by kernel_rfl) (by kernel_rfl) (by kernel_rfl) (fun _ h => h) (OV.indexArr1 rfl rfl T.u69 T.z58 (by omega)) rfl (listed' := [true, true, true, true, true, true, true, false, false, false, false, false, false, false, false, false, false, false, false, false, false, false, false, false, false, false, false, false, false, false, false, false, false, false, false, false, false, false, false, false]) rfl ?_)
  refine WH.take 7 rfl (by kernel_rfl) (by kernel_rfl) (by kernel_rfl) (fun _ h => h) (OV.load1 rfl T.u58 rfl (fun _ hw => cell_own hw (.tail _ (.head _)) (hs_word (i := 1) (show _ < 8 from by decide)))) rfl (listed' := [true, true, true, true, true, true, true, true, false, false, false, false, false, false, false, false, false, false, false, false, false, false, false, false, false, false, false, false, false, false, false, false, false, false, false, false, false, false, false, false]) rfl ?_
  refine WH.take 8 rfl (by kernel_rfl) (by kernel_rfl) (by kernel_rfl) (fun _ h => h) (OV.move rfl) rfl (listed' := [true, true, true, true, true, true, true, true, true, false, false, false, false, false, false, false, false, false, false, false, false, false, false, false, false, false, false, false, false, false, false, false, false, false, false, false, false, false, false, false]) rfl ?_
  refine WH.take 9 rfl (by kernel_rfl) (by kernel_rfl) (by kernel_rfl) (fun _ h => h) (OV.nilCheck rfl) rfl (listed' := [true, true, true, true, true, true, true, true, true, true, false, false, false, false, false, false, false, false, false, false, false, false, false, false, false, false, false, false, false, false, false, false, false, false, false, false, false, false, false, false]) rfl ?_
  first
  | (refine WH.take 10 rfl (by kernel_rfl) (by kernel_rfl) (by kernel_rfl) (fun _ h => h) (OV.indexArrN (i := 2) rfl rfl T.u69 T.z58 (by omega)) rfl (listed' := [true, true, true, true, true, true, true, true, true, true, true, false, false, false, false, false, false, false, false, false, false, false, false, false, false, false, false, false, false, false, false, false, false, false, false, false, false, false, false, false]) rfl ?_)
  | (refine WH.take 10 rfl (by kernel_rfl) (by kernel_rfl) (by kernel_rfl) (fun _ h => h) (OV.indexArrON (i := 2) rfl rfl T.u69 T.z58 (by omega)) rfl (listed' := [true, true, true, true, true, true, true, true, true, true, true, false, false, false, false, false, false, false, false, false, false, false, false, false, false, false, false, false, false, false, false, false, false, false, false, false, false, false, false, false]) rfl ?_)
  | (refine WH.take 10 rfl (by kernel_rfl) (by kernel_rfl) (by kernel_rfl) (fun _ h => h) (OV.indexArr1 rfl rfl T.u69 T.z58 (by omega)) rfl (listed' := [true, true, true, true, true, true, true, true, true, true, true, false, false, false, false, false, false, false, false, false, false, false, false, false, false, false, false, false, false, false, false, false, false, false, false, false, false, false, false, false]) rfl ?_)
  refine WH.take 11 rfl (by kernel_rfl) (by kernel_rfl) (by kernel_rfl) (fun _ h => h) (OV.load1 rfl T.u58 rfl (fun _ hw => cell_own hw (.tail _ (.head _)) (hs_word (i := 2) (show _ < 8 from by decide)))) rfl (listed' := [true, true, true, true, true, true, true, true, true, true, true, true, false, false, false, false, false, false, false, false, false, false, false, false, false, false, false, false, false, false, false, false, false, false, false, false, false, false, false, false]) rfl ?_
  refine WH.take 12 rfl (by kernel_rfl) (by kernel_rfl) (by kernel_rfl) (fun _ h => h) (OV.move rfl) rfl (listed' := [true, true, true, true, true, true, true, true, true, true, true, true, true, false, false, false, false, false, false, false, false, false, false, false, false, false, false, false, false, false, false, false, false, false, false, false, false, false, false, false]) rfl ?_
  refine WH.take 13 rfl (by kernel_rfl) (by kernel_rfl) (by kernel_rfl) (fun _ h => h) (OV.nilCheck rfl) rfl (listed' := [true, true, true, true, true, true, true, true, true, true, true, true, true, true, false, false, false, false, false, false, false, false, false, false, false, false, false, false, false, false, false, false, false, false, false, false, false, false, false, false]) rfl ?_
  first
  | (refine WH.take 14 rfl (by kernel_rfl) (by kernel_rfl) (by kernel_rfl) (fun _ h => h) (OV.indexArrN (i := 3) rfl rfl T.u69 T.z58 (by omega)) rfl (listed' := [true, true, true, true, true, true, true, true, true, true, true, true, true, true, true, false, false, false, false, false, false, false, false, false, false, false, false, false, false, false, false, false, false, false, false, false, false, false, false, false]) rfl ?_)
  | (refine WH.take 14 rfl (by kernel_rfl) (by kernel_rfl) (by kernel_rfl) (fun _ h => h) (OV.indexArrON (i := 3) rfl rfl T.u69 T.z58 (by omega)) rfl (listed' := [true, true, true, true, true, true, true, true, true, true, true, true, true, true, true, false, false, false, false, false, false, false, false, false, false, false, false, false, false, false, false, false, false, false, false, false, false, false, false, false]) rfl ?_)
  | (refine WH.take 14 rfl (by kernel_rfl) (by kernel_rfl) (by kernel_rfl) (fun _ h => h) (OV.indexArr1 rfl rfl T.u69 T.z58 (by omega)) rfl (listed' := [true, true, true, true, true, true, true, true, true, true, true, true, true, true, true, false, false, false, false, false, false, false, false, false, false, false, false, false, false, false, false, false, false, false, false, false, false, false, false, false]) rfl ?_)
  refine WH.take 15 rfl (by kernel_rfl) (by kernel_rfl) (by kernel_rfl) (fun _ h => h) (OV.load1 rfl T.u58 rfl (fun _ hw => cell_own hw (.tail _ (.head _)) (hs_word (i := 3) (show _ < 8 from by decide)))) rfl (listed' := [true, true, true, true, true, true, true, true, true, true, true, true, true, true, true, true, false, false, false, false, false, false, false, false, false, false, false, false, false, false, false, false, false, false, false, false, false, false, false, false]) rfl ?_
  refine WH.take 16 rfl (by kernel_rfl) (by kernel_rfl) (by kernel_rfl) (fun _ h => h) (OV.move rfl) rfl (listed' := [true, true, true, true, true, true, true, true, true, true, true, true, true, true, true, true, true, false, false, false, false, false, false, false, false, false, false, false, false, false, false, false, false, false, false, false, false, false, false, false]) rfl ?_
  refine WH.take 17 rfl (by kernel_rfl) (by kernel_rfl) (by kernel_rfl) (fun _ h => h) (OV.nilCheck rfl) rfl (listed' := [true, true, true, true, true, true, true, true, true, true, true, true, true, true, true, true, true, true, false, false, false, false, false, false, false, false, false, false, false, false, false, false, false, false, false, false, false, false, false, false]) rfl ?_
  first
  | (refine WH.take 18 rfl (by kernel_rfl) (by kernel_rfl) (by kernel_rfl) (fun _ h => h) (OV.indexArrN (i := 4) rfl rfl T.u69 T.z58 (by omega)) rfl (listed' := [true, true, true, true, true, true, true, true, true, true, true, true, true, true, true, true, true, true, true, false, false, false, false, false, false, false, false, false, false, false, false, false, false, false, false, false, false, false, false, false]) rfl ?_)
  | (refine WH.take 18 rfl (by kernel_rfl) (by kernel_rfl) (by kernel_rfl) (fun _ h => h) (OV.indexArrON (i := 4) rfl rfl T.u69 T.z58 (by omega)) rfl (listed' := [true, true, true, true, true, true, true, true, true, true, true, true, true, true, true, true, true, true, true, false, false, false, false, false, false, false, false, false, false, false, false, false, false, false, false, false, false, false, false, false]) rfl ?_)
  | (refine WH.take 18 rfl (by kernel_rfl) (by kernel_rfl) (by kernel_rfl) (fun _ h => h) (OV.indexArr1 rfl rfl T.u69 T.z58 (by omega)) rfl (listed' := [true, true, true, true, true, true, true, true, true, true, true, true, true, true, true, true, true, true, true, false, false, false, false, false, false, false, false, false, false, false, false, false, false, false, false, false, false, false, false, false]) rfl ?_)
  refine WH.take 19 rfl (by kernel_rfl) (by kernel_rfl) (by kernel_rfl) (fun _ h => h) (OV.load1 rfl T.u58 rfl (fun _ hw => cell_own hw (.tail _ (.head _)) (hs_word (i := 4) (show _ < 8 from by decide)))) rfl (listed' := [true, true, true, true, true, true, true, true, true, true, true, true, true, true, true, true, true, true, true, true, false, false, false, false, false, false, false, false, false, false, false, false, false, false, false, false, false, false, false, false]) rfl ?_
  refine WH.take 20 rfl (by kernel_rfl) (by kernel_rfl) (by kernel_rfl) (fun _ h => h) (OV.move rfl) rfl (listed' := [true, true, true, true, true, true, true, true, true, true, true, true, true, true, true, true, true, true, true, true, true, false, false, false, false, false, false, false, false, false, false, false, false, false, false, false, false, false, false, false]) rfl ?_
  refine WH.take 21 rfl (by kernel_rfl) (by kernel_rfl) (by kernel_rfl) (fun _ h => h) (OV.nilCheck rfl) rfl (listed' := [true, true, true, true, true, true, true, true, true, true, true, true, true, true, true, true, true, true, true, true, true, true, false, false, false, false, false, false, false, false, false, false, false, false, false, false, false, false, false, false]) rfl ?_
  first
  | (refine WH.take 22 rfl (by kernel_rfl) (by kernel_rfl) (by kernel_rfl) (fun _ h => h) (OV.indexArrN (i := 5) rfl rfl T.u69 T.z58 (by omega)) rfl (listed' := [true, true, true, true, true, true, true, true, true, true, true, true, true, true, true, true, true, true, true, true, true, true, true, false, false, false, false, false, false, false, false, false, false, false, false, false, false, false, false, false]) rfl ?_)
  | (refine WH.take 22 rfl (by kernel_rfl) (by kernel_rfl) (by kernel_rfl) (fun _ h => h) (OV.indexArrON (i := 5) rfl rfl T.u69 T.z58 (by omega)) rfl (listed' := [true, true, true, true, true, true, true, true, true, true, true, true, true, true, true, true, true, true, true, true, true, true, true, false, false, false, false, false, false, false, false, false, false, false, false, false, false, false, false, false]) rfl ?_)
  | (refine WH.take 22 rfl (by kernel_rfl) (by kernel_rfl) (by kernel_rfl) (fun _ h => h) (OV.indexArr1 rfl rfl T.u69 T.z58 (by omega)) rfl (listed' := [true, true, true, true, true, true, true, true, true, true, true, true, true, true, true, true, true, true, true, true, true, true, true, false, false, false, false, false, false, false, false, false, false, false, false, false, false, false, false, false]) rfl ?_)
  refine WH.take 23 rfl (by kernel_rfl) (by kernel_rfl) (by kernel_rfl) (fun _ h => h) (OV.load1 rfl T.u58 rfl (fun _ hw => cell_own hw (.tail _ (.head _)) (hs_word (i := 5) (show _ < 8 from by decide)))) rfl (listed' := [true, true, true, true, true, true, true, true, true, true, true, true, true, true, true, true, true, true, true, true, true, true, true, true, false, false, false, false, false, false, false, false, false, false, false, false, false, false, false, false]) rfl ?_
  refine WH.take 24 rfl (by kernel_rfl) (by kernel_rfl) (by kernel_rfl) (fun _ h => h) (OV.move rfl) rfl (listed' := [true, true, true, true, true, true, true, true, true, true, true, true, true, true, true, true, true, true, true, true, true, true, true, true, true, false, false, false, false, false, false, false, false, false, false, false, false, false, false, false]) rfl ?_
  refine WH.take 25 rfl (by kernel_rfl) (by kernel_rfl) (by kernel_rfl) (fun _ h => h) (OV.nilCheck rfl) rfl (listed' := [true, true, true, true, true, true, true, true, true, true, true, true, true, true, true, true, true, true, true, true, true, true, true, true, true, true, false, false, false, false, false, false, false, false, false, false, false, false, false, false]) rfl ?_
  first
  | (refine WH.take 26 rfl (by kernel_rfl) (by kernel_rfl) (by kernel_rfl) (fun _ h => h) (OV.indexArrN (i := 6) rfl rfl T.u69 T.z58 (by omega)) rfl (listed' := [true, true, true, true, true, true, true, true, true, true, true, true, true, true, true, true, true, true, true, true, true, true, true, true, true, true, true, false, false, false, false, false, false, false, false, false, false, false, false, false]) rfl ?_)
  | (refine WH.take 26 rfl (by kernel_rfl) (by kernel_rfl) (by kernel_rfl) (fun _ h => h) (OV.indexArrON (i := 6) rfl rfl T.u69 T.z58 (by omega)) rfl (listed' := [true, true, true, true, true, true, true, true, true, true, true, true, true, true, true, true, true, true, true, true, true, true, true, true, true, true, true, false, false, false, false, false, false, false, false, false, false, false, false, false]) rfl ?_)
  | (refine WH.take 26 rfl (by kernel_rfl) (by kernel_rfl) (by kernel_rfl) (fun _ h => h) (OV.indexArr1 rfl rfl T.u69 T.z58 (by omega)) rfl (listed' := [true, true, true, true, true, true, true, true, true, true, true, true, true, true, true, true, true, true, true, true, true, true, true, true, true, true, true, false, false, false, false, false, false, false, false, false, false, false, false, false]) rfl ?_)
  refine WH.take 27 rfl (by kernel_rfl) (by kernel_rfl) (by kernel_rfl) (fun _ h => h) (OV.load1 rfl T.u58 rfl (fun _ hw => cell_own hw (.tail _ (.head _)) (hs_word (i := 6) (show _ < 8 from by decide)))) rfl (listed' := [true, true, true, true, true, true, true, true, true, true, true, true, true, true, true, true, true, true, true, true, true, true, true, true, true, true, true, true, false, false, false, false, false, false, false, false, false, false, false, false]) rfl ?_
  refine WH.take 28 rfl (by kernel_rfl) (by kernel_rfl) (by kernel_rfl) (fun _ h => h) (OV.move rfl) rfl (listed' := [true, true, true, true, true, true, true, true, true, true, true, true, true, true, true, true, true, true, true, true, true, true, true, true, true, true, true, true, true, false, false, false, false, false, false, false, false, false, false, false]) rfl ?_
  refine WH.take 29 rfl (by kernel_rfl) (by kernel_rfl) (by kernel_rfl) (fun _ h => h) (OV.nilCheck rfl) rfl (listed' := [true, true, true, true, true, true, true, true, true, true, true, true, true, true, true, true, true, true, true, true, true, true, true, true, true, true, true, true, true, true, false, false, false, false, false, false, false, false, false, false]) rfl ?_
  first
  | (refine WH.take 30 rfl (by kernel_rfl) (by kernel_rfl) (by kernel_rfl) (fun _ h => h) (OV.indexArrN (i := 7) rfl rfl T.u69 T.z58 (by omega)) rfl (listed' := [true, true, true, true, true, true, true, true, true, true, true, true, true, true, true, true, true, true, true, true, true, true, true, true, true, true, true, true, true, true, true, false, false, false, false, false, false, false, false, false]) rfl ?_)
  | (refine WH.take 30 rfl (by kernel_rfl) (by kernel_rfl) (by kernel_rfl) (fun _ h => h) (OV.indexArrON (i := 7) rfl rfl T.u69 T.z58 (by omega)) rfl (listed' := [true, true, true, true, true, true, true, true, true, true, true, true, true, true, true, true, true, true, true, true, true, true, true, true, true, true, true, true, true, true, true, false, false, false, false, false, false, false, false, false]) rfl ?_)
  | (refine WH.take 30 rfl (by kernel_rfl) (by kernel_rfl) (by kernel_rfl) (fun _ h => h) (OV.indexArr1 rfl rfl T.u69 T.z58 (by omega)) rfl (listed' := [true, true, true, true, true, true, true, true, true, true, true, true, true, true, true, true, true, true, true, true, true, true, true, true, true, true, true, true, true, true, true, false, false, false, false, false, false, false, false, false]) rfl ?_)
  refine WH.take 31 rfl (by kernel_rfl) (by kernel_rfl) (by kernel_rfl) (fun _ h => h) (OV.load1 rfl T.u58 rfl (fun _ hw => cell_own hw (.tail _ (.head _)) (hs_word (i := 7) (show _ < 8 from by decide)))) rfl (listed' := [true, true, true, true, true, true, true, true, true, true, true, true, true, true, true, true, true, true, true, true, true, true, true, true, true, true, true, true, true, true, true, true, false, false, false, false, false, false, false, false]) rfl ?_
  refine WH.take 32 rfl (by kernel_rfl) (by kernel_rfl) (by kernel_rfl) (fun _ h => h) (OV.assign rfl) rfl (listed' := [true, true, true, true, true, true, true, true, true, true, true, true, true, true, true, true, true, true, true, true, true, true, true, true, true, true, true, true, true, true, true, true, true, false, false, false, false, false, false, false]) rfl ?_
  refine WH.take 33 rfl (by kernel_rfl) (by kernel_rfl) (by kernel_rfl) (fun _ h => h) (OV.assign rfl) rfl (listed' := [true, true, true, true, true, true, true, true, true, true, true, true, true, true, true, true, true, true, true, true, true, true, true, true, true, true, true, true, true, true, true, true, true, true, false, false, false, false, false, false]) rfl ?_
  refine WH.take 34 rfl (by kernel_rfl) (by kernel_rfl) (by kernel_rfl) (fun _ h => h) (OV.assign rfl) rfl (listed' := [true, true, true, true, true, true, true, true, true, true, true, true, true, true, true, true, true, true, true, true, true, true, true, true, true, true, true, true, true, true, true, true, true, true, true, false, false, false, false, false]) rfl ?_
  refine WH.take 35 rfl (by kernel_rfl) (by kernel_rfl) (by kernel_rfl) (fun _ h => h) (OV.assign rfl) rfl (listed' := [true, true, true, true, true, true, true, true, true, true, true, true, true, true, true, true, true, true, true, true, true, true, true, true, true, true, true, true, true, true, true, true, true, true, true, true, false, false, false, false]) rfl ?_
  refine WH.take 36 rfl (by kernel_rfl) (by kernel_rfl) (by kernel_rfl) (fun _ h => h) (OV.assign rfl) rfl (listed' := [true, true, true, true, true, true, true, true, true, true, true, true, true, true, true, true, true, true, true, true, true, true, true, true, true, true, true, true, true, true, true, true, true, true, true, true, true, false, false, false]) rfl ?_
  refine WH.take 37 rfl (by kernel_rfl) (by kernel_rfl) (by kernel_rfl) (fun _ h => h) (OV.assign rfl) rfl (listed' := [true, true, true, true, true, true, true, true, true, true, true, true, true, true, true, true, true, true, true, true, true, true, true, true, true, true, true, true, true, true, true, true, true, true, true, true, true, true, false, false]) rfl ?_
  refine WH.take 38 rfl (by kernel_rfl) (by kernel_rfl) (by kernel_rfl) (fun _ h => h) (OV.assign rfl) rfl (listed' := [true, true, true, true, true, true, true, true, true, true, true, true, true, true, true, true, true, true, true, true, true, true, true, true, true, true, true, true, true, true, true, true, true, true, true, true, true, true, true, false]) rfl ?_
  refine WH.take 39 rfl (by kernel_rfl) (by kernel_rfl) (by kernel_rfl) (fun _ h => h) (OV.assign rfl) rfl (listed' := [true, true, true, true, true, true, true, true, true, true, true, true, true, true, true, true, true, true, true, true, true, true, true, true, true, true, true, true, true, true, true, true, true, true, true, true, true, true, true, true]) rfl ?_
  refine WH.done (by kernel_rfl) ?_
  refine WX.next ?_
  refine WC.seq ?_
  refine WC.seq ?_
  refine WC.region ?_
  refine WL.val (OV.move rfl) rfl ?_
  refine WL.nil ?_
  refine WX.next ?_
  refine WC.block ?_
  have hW : (schW part 64).length = 64 := schW_length _ _
  refine WC.loop1 (fun (t : Nat) => [(0, .pointer (some ⟨hb, 0, none⟩)), (4, .pointer (some ⟨b4, 0, none⟩)), (5, w32 (cmpS s0 (schW part 64) t).a), (6, w32 (cmpS s0 (schW part 64) t).b), (7, w32 (cmpS s0 (schW part 64) t).c), (8, w32 (cmpS s0 (schW part 64) t).d), (9, w32 (cmpS s0 (schW part 64) t).e), (10, w32 (cmpS s0 (schW part 64) t).f), (11, w32 (cmpS s0 (schW part 64) t).g), (12, w32 (cmpS s0 (schW part 64) t).h), (52, .int .i64 t)])
      (fun t w' => t ≤ 64 ∧ Sat w (fun i => i = hb) (fun i => i < w.heap.size ∧ i ≠ hb) w [own b4 (.cells (w32s (schW part 64)).toArray 72 (0, 0)), own hb (.cells (w32s s0.toL ++ (u8s part ++ [x])).toArray 71 (0, 0))] w')
      (fun t => 64 - t) 0 ⟨rfl, rfl, rfl, rfl, rfl, rfl, rfl, rfl, rfl, rfl, rfl, trivial⟩ (fun w' hw => ⟨by omega, hw⟩) ?_
  intro t
  refine WC.pure (fun ht => ?_)
  refine WC.seq ?_
  refine WC.region ?_
  refine WL.val (OV.lss rfl rfl) rfl ?_
  refine WL.nil ?_
  refine WX.next ?_
  refine WC.seq ?_
  refine WC.cond rfl (fun c53 => ?_) (fun c53 => ?_)
  · simp only [decide_eq_true_eq, decide_eq_false_iff_not, Bool.not_eq_true', Bool.not_eq_false'] at c53
    refine WC.skip ?_
    refine WX.next ?_
    refine WC.seq ?_
    refine WC.block ?_
    refine WC.seq ?_
    refine WC.region ?_
    refine WL.val (OV.move rfl) rfl ?_
    refine WL.val (OV.assign rfl) rfl ?_
    refine WL.nil ?_
    refine WX.next ?_
    refine WC.seq ?_
    refine WC.quietS (by kernel_rfl) (m := 28) rfl ?_
    refine WH.take 0 rfl (by kernel_rfl) (by kernel_rfl) (by kernel_rfl) (fun _ h => h) (OV.move rfl) rfl (listed' := [true, false, false, false, false, false, false, false, false, false, false, false, false, false, false, false, false, false, false, false, false, false, false, false, false, false, false, false]) rfl ?_
    refine WH.take 1 rfl (by kernel_rfl) (by kernel_rfl) (by kernel_rfl) (fun _ h => h) (OV.move rfl) rfl (listed' := [true, true, false, false, false, false, false, false, false, false, false, false, false, false, false, false, false, false, false, false, false, false, false, false, false, false, false, false]) rfl ?_
    refine WH.take 3 rfl (by kernel_rfl) (by kernel_rfl) (by kernel_rfl) (fun _ h => h) (OV.move rfl) rfl (listed' := [true, true, false, true, false, false, false, false, false, false, false, false, false, false, false, false, false, false, false, false, false, false, false, false, false, false, false, false]) rfl ?_
    refine WH.take 6 rfl (by kernel_rfl) (by kernel_rfl) (by kernel_rfl) (fun _ h => h) (OV.move rfl) rfl (listed' := [true, true, false, true, false, false, true, false, false, false, false, false, false, false, false, false, false, false, false, false, false, false, false, false, false, false, false, false]) rfl ?_
    refine WH.take 10 rfl (by kernel_rfl) (by kernel_rfl) (by kernel_rfl) (fun _ h => h) (OV.move rfl) rfl (listed' := [true, true, false, true, false, false, true, false, false, false, true, false, false, false, false, false, false, false, false, false, false, false, false, false, false, false, false, false]) rfl ?_
    refine WH.take 11 rfl (by kernel_rfl) (by kernel_rfl) (by kernel_rfl) (fun _ h => h) (OV.move rfl) rfl (listed' := [true, true, false, true, false, false, true, false, false, false, true, true, false, false, false, false, false, false, false, false, false, false, false, false, false, false, false, false]) rfl ?_
    refine WH.take 12 rfl (by kernel_rfl) (by kernel_rfl) (by kernel_rfl) (fun _ h => h) (OV.andW rfl rfl) rfl (listed' := [true, true, false, true, false, false, true, false, false, false, true, true, true, false, false, false, false, false, false, false, false, false, false, false, false, false, false, false]) rfl ?_
    refine WH.take 13 rfl (by kernel_rfl) (by kernel_rfl) (by kernel_rfl) (fun _ h => h) (OV.move rfl) rfl (listed' := [true, true, false, true, false, false, true, false, false, false, true, true, true, true, false, false, false, false, false, false, false, false, false, false, false, false, false, false]) rfl ?_
    first
    | (refine WH.take 14 rfl (by kernel_rfl) (by kernel_rfl) (by kernel_rfl) (fun _ h => h) (OV.complW rfl) rfl (listed' := [true, true, false, true, false, false, true, false, false, false, true, true, true, true, true, false, false, false, false, false, false, false, false, false, false, false, false, false]) rfl ?_)
    | (refine WH.take 14 rfl (by kernel_rfl) (by kernel_rfl) (by kernel_rfl) (fun _ h => h) (OV.compl rfl) rfl (listed' := [true, true, false, true, false, false, true, false, false, false, true, true, true, true, true, false, false, false, false, false, false, false, false, false, false, false, false, false]) rfl ?_)
    refine WH.take 15 rfl (by kernel_rfl) (by kernel_rfl) (by kernel_rfl) (fun _ h => h) (OV.move rfl) rfl (listed' := [true, true, false, true, false, false, true, false, false, false, true, true, true, true, true, true, false, false, false, false, false, false, false, false, false, false, false, false]) rfl ?_
    refine WH.take 16 rfl (by kernel_rfl) (by kernel_rfl) (by kernel_rfl) (fun _ h => h) (OV.andW rfl rfl) rfl (listed' := [true, true, false, true, false, false, true, false, false, false, true, true, true, true, true, true, true, false, false, false, false, false, false, false, false, false, false, false]) rfl ?_
    refine WH.take 17 rfl (by kernel_rfl) (by kernel_rfl) (by kernel_rfl) (fun _ h => h) (OV.xorW rfl rfl) rfl (listed' := [true, true, false, true, false, false, true, false, false, false, true, true, true, true, true, true, true, true, false, false, false, false, false, false, false, false, false, false]) rfl ?_
    refine WH.take 19 rfl (by kernel_rfl) (by kernel_rfl) (by kernel_rfl) (fun _ h => h) (OV.move rfl) rfl (listed' := [true, true, false, true, false, false, true, false, false, false, true, true, true, true, true, true, true, true, false, true, false, false, false, false, false, false, false, false]) rfl ?_
    first
    | (refine WH.take 20 rfl (by kernel_rfl) (by kernel_rfl) (by kernel_rfl) (fun _ h => h) (OV.indexArrN rfl rfl T.u72 T.z58 (by omega)) rfl (listed' := [true, true, false, true, false, false, true, false, false, false, true, true, true, true, true, true, true, true, false, true, true, false, false, false, false, false, false, false]) rfl ?_)
    | (refine WH.take 20 rfl (by kernel_rfl) (by kernel_rfl) (by kernel_rfl) (fun _ h => h) (OV.indexArrON rfl rfl T.u72 T.z58 (by omega)) rfl (listed' := [true, true, false, true, false, false, true, false, false, false, true, true, true, true, true, true, true, true, false, true, true, false, false, false, false, false, false, false]) rfl ?_)
    | (refine WH.take 20 rfl (by kernel_rfl) (by kernel_rfl) (by kernel_rfl) (fun _ h => h) (OV.indexArr1 rfl rfl T.u72 T.z58 (by omega)) rfl (listed' := [true, true, false, true, false, false, true, false, false, false, true, true, true, true, true, true, true, true, false, true, true, false, false, false, false, false, false, false]) rfl ?_)
    refine WH.take 21 rfl (by kernel_rfl) (by kernel_rfl) (by kernel_rfl) (fun _ h => h) (OV.load1 rfl T.u58 rfl (fun _ hw => snapO hw (by exact fun h => hne h.symm) (hK t (by show t < 64; omega)))) rfl (listed' := [true, true, false, true, false, false, true, false, false, false, true, true, true, true, true, true, true, true, false, true, true, true, false, false, false, false, false, false]) rfl ?_
    refine WH.take 23 rfl (by kernel_rfl) (by kernel_rfl) (by kernel_rfl) (fun _ h => h) (OV.move rfl) rfl (listed' := [true, true, false, true, false, false, true, false, false, false, true, true, true, true, true, true, true, true, false, true, true, true, false, true, false, false, false, false]) rfl ?_
    first
    | (refine WH.take 24 rfl (by kernel_rfl) (by kernel_rfl) (by kernel_rfl) (fun _ h => h) (OV.indexArrN rfl rfl T.u72 T.z58 (by omega)) rfl (listed' := [true, true, false, true, false, false, true, false, false, false, true, true, true, true, true, true, true, true, false, true, true, true, false, true, true, false, false, false]) rfl ?_)
    | (refine WH.take 24 rfl (by kernel_rfl) (by kernel_rfl) (by kernel_rfl) (fun _ h => h) (OV.indexArrON rfl rfl T.u72 T.z58 (by omega)) rfl (listed' := [true, true, false, true, false, false, true, false, false, false, true, true, true, true, true, true, true, true, false, true, true, true, false, true, true, false, false, false]) rfl ?_)
    | (refine WH.take 24 rfl (by kernel_rfl) (by kernel_rfl) (by kernel_rfl) (fun _ h => h) (OV.indexArr1 rfl rfl T.u72 T.z58 (by omega)) rfl (listed' := [true, true, false, true, false, false, true, false, false, false, true, true, true, true, true, true, true, true, false, true, true, true, false, true, true, false, false, false]) rfl ?_)
    refine WH.take 25 rfl (by kernel_rfl) (by kernel_rfl) (by kernel_rfl) (fun _ h => h) (OV.load1 rfl T.u58 rfl (fun _ hw => cell_own hw (.head _) (w32s_arr _ (by omega)))) rfl (listed' := [true, true, false, true, false, false, true, false, false, false, true, true, true, true, true, true, true, true, false, true, true, true, false, true, true, true, false, false]) rfl ?_
    refine WH.only 2 rfl (by kernel_rfl) (listed' := [true, true, true, true, false, false, true, false, false, false, true, true, true, true, true, true, true, true, false, true, true, true, false, true, true, true, false, false]) rfl ?_
    refine WL.call0 (by kernel_rfl) rfl rfl (fun w' _ => right_calls _ 6 (by decide) w') ?_
    refine WL.nil ?_
    refine WX.cont (fun _ h => h) ?_
    refine WH.only 4 rfl (by kernel_rfl) (listed' := [true, true, true, true, true, false, true, false, false, false, true, true, true, true, true, true, true, true, false, true, true, true, false, true, true, true, false, false]) rfl ?_
    refine WL.call0 (by kernel_rfl) rfl rfl (fun w' _ => right_calls _ 11 (by decide) w') ?_
    refine WL.nil ?_
    refine WX.cont (fun _ h => h) ?_
    refine WH.take 5 rfl (by kernel_rfl) (by kernel_rfl) (by kernel_rfl) (fun _ h => h) (OV.xorW rfl rfl) rfl (listed' := [true, true, true, true, true, true, true, false, false, false, true, true, true, true, true, true, true, true, false, true, true, true, false, true, true, true, false, false]) rfl ?_
    refine WH.only 7 rfl (by kernel_rfl) (listed' := [true, true, true, true, true, true, true, true, false, false, true, true, true, true, true, true, true, true, false, true, true, true, false, true, true, true, false, false]) rfl ?_
    refine WL.call0 (by kernel_rfl) rfl rfl (fun w' _ => right_calls _ 25 (by decide) w') ?_
    refine WL.nil ?_
    refine WX.cont (fun _ h => h) ?_
    refine WH.take 8 rfl (by kernel_rfl) (by kernel_rfl) (by kernel_rfl) (fun _ h => h) (OV.xorW rfl rfl) rfl (listed' := [true, true, true, true, true, true, true, true, true, false, true, true, true, true, true, true, true, true, false, true, true, true, false, true, true, true, false, false]) rfl ?_
    refine WH.take 9 rfl (by kernel_rfl) (by kernel_rfl) (by kernel_rfl) (fun _ h => h) (OV.addW rfl rfl) rfl (listed' := [true, true, true, true, true, true, true, true, true, true, true, true, true, true, true, true, true, true, false, true, true, true, false, true, true, true, false, false]) rfl ?_
    refine WH.take 18 rfl (by kernel_rfl) (by kernel_rfl) (by kernel_rfl) (fun _ h => h) (OV.addW rfl rfl) rfl (listed' := [true, true, true, true, true, true, true, true, true, true, true, true, true, true, true, true, true, true, true, true, true, true, false, true, true, true, false, false]) rfl ?_
    refine WH.take 22 rfl (by kernel_rfl) (by kernel_rfl) (by kernel_rfl) (fun _ h => h) (OV.addW rfl rfl) rfl (listed' := [true, true, true, true, true, true, true, true, true, true, true, true, true, true, true, true, true, true, true, true, true, true, true, true, true, true, false, false]) rfl ?_
    refine WH.take 26 rfl (by kernel_rfl) (by kernel_rfl) (by kernel_rfl) (fun _ h => h) (OV.addW rfl rfl) rfl (listed' := [true, true, true, true, true, true, true, true, true, true, true, true, true, true, true, true, true, true, true, true, true, true, true, true, true, true, true, false]) rfl ?_
    refine WH.take 27 rfl (by kernel_rfl) (by kernel_rfl) (by kernel_rfl) (fun _ h => h) (OV.assign rfl) rfl (listed' := [true, true, true, true, true, true, true, true, true, true, true, true, true, true, true, true, true, true, true, true, true, true, true, true, true, true, true, true]) rfl ?_
    refine WH.done (by kernel_rfl) ?_
    refine WX.next ?_
    refine WC.seq ?_
    refine WC.region ?_
    refine WL.val (OV.move rfl) rfl ?_
    refine WL.call0 (by kernel_rfl) rfl rfl (fun w' _ => right_calls _ 2 (by decide) w') ?_
    refine WL.val (OV.move rfl) rfl ?_
    refine WL.call0 (by kernel_rfl) rfl rfl (fun w' _ => right_calls _ 13 (by decide) w') ?_
    refine WL.val (OV.xorW rfl rfl) rfl ?_
    refine WL.val (OV.move rfl) rfl ?_
    refine WL.call0 (by kernel_rfl) rfl rfl (fun w' _ => right_calls _ 22 (by decide) w') ?_
    refine WL.val (OV.xorW rfl rfl) rfl ?_
    refine WL.val (OV.move rfl) rfl ?_
    refine WL.val (OV.move rfl) rfl ?_
    refine WL.val (OV.andW rfl rfl) rfl ?_
    refine WL.val (OV.move rfl) rfl ?_
    refine WL.val (OV.move rfl) rfl ?_
    refine WL.val (OV.andW rfl rfl) rfl ?_
    refine WL.val (OV.xorW rfl rfl) rfl ?_
    refine WL.val (OV.move rfl) rfl ?_
    refine WL.val (OV.move rfl) rfl ?_
    refine WL.val (OV.andW rfl rfl) rfl ?_
    refine WL.val (OV.xorW rfl rfl) rfl ?_
    refine WL.val (OV.addW rfl rfl) rfl ?_
    refine WL.val (OV.assign rfl) rfl ?_
    refine WL.nil ?_
    refine WX.next ?_
    refine WC.region ?_
    refine WL.val (OV.move rfl) rfl ?_
    refine WL.val (OV.move rfl) rfl ?_
    refine WL.val (OV.move rfl) rfl ?_
    refine WL.val (OV.move rfl) rfl ?_
    refine WL.val (OV.move rfl) rfl ?_
    refine WL.val (OV.addW rfl rfl) rfl ?_
    refine WL.val (OV.move rfl) rfl ?_
    refine WL.val (OV.move rfl) rfl ?_
    refine WL.val (OV.move rfl) rfl ?_
    refine WL.val (OV.move rfl) rfl ?_
    refine WL.val (OV.move rfl) rfl ?_
    refine WL.val (OV.addW rfl rfl) rfl ?_
    refine WL.val (OV.assign rfl) rfl ?_
    refine WL.val (OV.assign rfl) rfl ?_
    refine WL.val (OV.assign rfl) rfl ?_
    refine WL.val (OV.assign rfl) rfl ?_
    refine WL.val (OV.assign rfl) rfl ?_
    refine WL.val (OV.assign rfl) rfl ?_
    refine WL.val (OV.assign rfl) rfl ?_
    refine WL.val (OV.assign rfl) rfl ?_
    refine WL.nil ?_
    refine WX.block_normal ?_
    refine WX.next ?_
    refine WC.region ?_
    first
    | (refine WL.val (OV.addI rfl rfl (by omega)) rfl ?_)
    | (refine WL.val (OV.add rfl rfl) rfl ?_)
    refine WL.val (OV.move rfl) rfl ?_
    refine WL.nil ?_
    exact WX.round1 (t + 1) ⟨rfl, rfl, rfl, rfl, rfl, rfl, rfl, rfl, rfl, rfl, rfl, trivial⟩ (fun w' hw => ⟨by omega, hw⟩) (by show 64 - (t + 1) < 64 - t; omega)
  · simp only [decide_eq_true_eq, decide_eq_false_iff_not, Bool.not_eq_true', Bool.not_eq_false'] at c53
    refine WC.exit ?_
    refine WX.then_exit ?_
    refine WX.then_exit ?_
    refine WX.block_hit ?_
    refine WX.next ?_
    refine WC.seq ?_
    refine WC.region ?_
    refine WL.val (OV.move rfl) rfl ?_
    refine WL.val (OV.move rfl) rfl ?_
    refine WL.val (OV.move rfl) rfl ?_
    refine WL.val (OV.move rfl) rfl ?_
    refine WL.val (OV.move rfl) rfl ?_
    refine WL.val (OV.move rfl) rfl ?_
    refine WL.val (OV.move rfl) rfl ?_
    refine WL.val (OV.move rfl) rfl ?_
    have ht64 : t = 64 := by omega
    subst ht64
    obtain ⟨N, hN⟩ : ∃ N, N = cmpS s0 (schW part 64) 64 := ⟨_, rfl⟩
    rw [← hN]
    refine WL.val (OV.buildArr (xs := [.tmp 115, .tmp 116, .tmp 117, .tmp 118, .tmp 119, .tmp 120, .tmp 121, .tmp 122]) (vs := w32s N.toL) rfl T.u59 T.z58 T.zr59 rfl (Eq.refl 8) rfl) rfl ?_
    refine WL.val (OV.move rfl) rfl ?_
    refine WL.nil ?_
    refine WX.next ?_
    refine WC.block ?_
    refine WC.loop1 (fun (i : Nat) => [(0, .pointer (some ⟨hb, 0, none⟩)), (123, .agg (w32s N.toL).toArray), (124, .int .i64 i)])
        (fun i w' => i ≤ 8 ∧ Sat w (fun i => i = hb) (fun i => i < w.heap.size ∧ i ≠ hb) w [own hb (.cells (w32s (addP s0.toL N.toL i) ++ (u8s part ++ [x])).toArray 71 (0, 0)), own b4 (.cells (w32s (schW part 64)).toArray 72 (0, 0))] w')
        (fun i => 8 - i) 0 ⟨rfl, rfl, rfl, trivial⟩ (fun w' hw => ⟨by omega, hw.perm perm1⟩) ?_
    intro i
    refine WC.pure (fun hi => ?_)
    have hal : (addP s0.toL N.toL i).length = 8 := addP_length _ _ _
    have hnl : N.toL.length = 8 := rfl
    refine WC.seq ?_
    refine WC.region ?_
    refine WL.val (OV.lss rfl rfl) rfl ?_
    refine WL.nil ?_
    refine WX.next ?_
    refine WC.seq ?_
    refine WC.cond rfl (fun c125 => ?_) (fun c125 => ?_)
    · simp only [decide_eq_true_eq, decide_eq_false_iff_not, Bool.not_eq_true', Bool.not_eq_false'] at c125
      refine WC.skip ?_
      refine WX.next ?_
      refine WC.seq ?_
      refine WC.block ?_
      refine WC.seq ?_
      refine WC.region ?_
      refine WL.val (OV.move rfl) rfl ?_
      refine WL.val (OV.indexArrV rfl rfl T.u59 T.u58 rfl T.z58 ⟨by omega, by omega⟩ (w32s_getD _ (by omega))) rfl ?_
      refine WL.val (OV.assign rfl) rfl ?_
      refine WL.val (OV.assign rfl) rfl ?_
      refine WL.nil ?_
      refine WX.next ?_
      refine WC.tail 9 (by kernel_rfl) (by kernel_rfl) ?_
      refine WS.val (OV.move rfl) rfl ?_
      refine WS.val (OV.move rfl) rfl ?_
      refine WS.val (OV.nilCheck rfl) rfl ?_
      first
      | (refine WS.val (OV.indexArrN rfl rfl T.u69 T.z58 (by omega)) rfl ?_)
      | (refine WS.val (OV.indexArrON rfl rfl T.u69 T.z58 (by omega)) rfl ?_)
      | (refine WS.val (OV.indexArr1 rfl rfl T.u69 T.z58 (by omega)) rfl ?_)
      refine WS.val (OV.load1 rfl T.u58 rfl (fun _ hw => cell_own hw (.head _) (hs_word (by omega)))) rfl ?_
      refine WS.val (OV.move rfl) rfl ?_
      refine WS.val (OV.addW rfl rfl) rfl ?_
      refine WS.val (OV.nilCheck rfl) rfl ?_
      first
      | (refine WS.val (OV.indexArrN rfl rfl T.u69 T.z58 (by omega)) rfl ?_)
      | (refine WS.val (OV.indexArrON rfl rfl T.u69 T.z58 (by omega)) rfl ?_)
      | (refine WS.val (OV.indexArr1 rfl rfl T.u69 T.z58 (by omega)) rfl ?_)
      refine WS.nil ?_
      refine WL.store1 rfl rfl rfl T.z58 (by simp [w32s_length, hal]; omega) ?_
      refine WL.nil ?_
      refine WX.block_normal ?_
      refine WX.next ?_
      refine WC.region ?_
      first
      | (refine WL.val (OV.addI rfl rfl (by omega)) rfl ?_)
      | (refine WL.val (OV.add rfl rfl) rfl ?_)
      refine WL.val (OV.move rfl) rfl ?_
      refine WL.nil ?_
      exact WX.round1 (i + 1) ⟨rfl, rfl, rfl, trivial⟩ (fun w' hw => ⟨by omega, by
        rw [hs_set (by omega)] at hw
        exact hw⟩) (by show 8 - (i + 1) < 8 - i; omega)
    · simp only [decide_eq_true_eq, decide_eq_false_iff_not, Bool.not_eq_true', Bool.not_eq_false'] at c125
      refine WC.exit ?_
      refine WX.then_exit ?_
      refine WX.then_exit ?_
      refine WX.block_hit ?_
      have hi8 : i = 8 := by omega
      subst hi8
      subst hN
      exact WX.ret0 rfl rfl (fun w' hw => ⟨rfl, hw.fr, hw.it _ (.head _)⟩)

end Go.Proofs.YtplebagdajdcnaaDoor
