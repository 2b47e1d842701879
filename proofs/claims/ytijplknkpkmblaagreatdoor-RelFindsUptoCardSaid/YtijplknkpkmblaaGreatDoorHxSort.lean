/- The library's sorts, on a row of the call's own. -/
import Derived.Test.YtijplknkpkmblaaGreatDoorHxFunc
import Derived.Shelf.SlSortCmp.NoneTotal
import Derived.Shelf.SortM.Plain
import Derived.Shelf.SortM.SortNone
namespace Go.Hw
set_option linter.unusedVariables false
set_option linter.unusedSimpArgs false
open Go Go.RowKit Go.Proofs Go.Shelf
variable {P : Program} {ρ : Ren} {w : World} {T : TypeId} {b c : Nat}

theorem row_block {α : Type} {enc : α → Value} {xs : List α} (h : (row T 1 (some ⟨b, 0, none⟩) xs.length c (xs.map enc)).φ w) :
    ∃ cur, w.heap[b]? = some (.cells cur T (0, 0)) ∧ cur.size = c ∧ xs.length ≤ c ∧ c ≤ maxLen ∧ cur.toList.take xs.length = xs.map enc := by
  have h1 : w.ownsRow 0 T 1 (.slice (some ⟨b, 0, none⟩) xs.length c) xs.length (xs.map enc) := h
  rcases h1.2 with ⟨hv, _⟩ | ⟨g, cc, cur, hv, _, hg, hmc, hcm, hcs, htake⟩
  · cases hv
  · simp only [Value.slice.injEq, Option.some.injEq, Addr.mk.injEq, and_true] at hv
    obtain ⟨rfl, _, rfl⟩ := hv
    exact ⟨cur, hg, by simpa using hcs, hmc, hcm, by simpa using htake⟩
theorem row_holds {α : Type} [Inhabited α] {enc : α → Value} {xs : List α} (h : (row T 1 (some ⟨b, 0, none⟩) xs.length c (xs.map enc)).φ w) : Go.Sort.Holds enc w b 0 xs.toArray := by
  obtain ⟨cur, hb, hs, hle, _, ht⟩ := row_block h
  intro j hj
  have hj' : j < xs.length := by simpa using hj
  have hc : cur[j]? = some (enc (xs.toArray[j]!)) := by
    have h2 := congrArg (fun l : List Value => l[j]?) ht
    simp only [List.getElem?_take_of_lt hj', List.getElem?_map, List.getElem?_eq_getElem hj', Option.map_some] at h2
    rw [← Array.getElem?_toList, h2]
    simp [hj']
  exact ⟨by simp [World.cell?, hb, hc], by simp [World.frozen?, hb]⟩
theorem sort_turns {α : Type} [Inhabited α] {enc : α → Value} {xs : List α} {d : Array α} {n : Nat} {os : Array Obj} (hA : Holds [row T 1 (some ⟨b, 0, none⟩) xs.length c (xs.map enc)] w) (hd : d.size = xs.length) :
    Turns [row T 1 (some ⟨b, 0, none⟩) xs.length c (xs.map enc)] [row T 1 (some ⟨b, 0, none⟩) d.toList.length c (d.toList.map enc)] w (sortWorld enc w b 0 n d os) := by
  have h := hA.φ _ (.head _)
  obtain ⟨cur, hb, hs, hle, hcm, ht⟩ := row_block h
  have hlt : b < w.heap.size := (Array.getElem?_eq_some_iff.1 hb).1
  have hsize : w.heap.size ≤ (sortWorld enc w b 0 n d os).heap.size := by
    show w.heap.size ≤ ((Go.Sort.putRow enc (Go.Sort.ahead w n) b 0 d).heap ++ os).size
    rw [Array.size_append, Go.Sort.size_putRow]
    exact Nat.le_add_right _ _
  have hkeep : ∀ i, i < w.heap.size → (sortWorld enc w b 0 n d os).heap[i]? = (Go.Sort.putRow enc w b 0 d).heap[i]? := by
    intro i hi
    show ((Go.Sort.putRow enc (Go.Sort.ahead w n) b 0 d).heap ++ os)[i]? = _
    rw [Array.getElem?_append_left (by rw [Go.Sort.size_putRow]; exact hi)]
    rfl
  have hnew : (sortWorld enc w b 0 n d os).heap[b]? = some (.cells (Go.Sort.putCells enc 0 d cur) T (0, 0)) := by
    rw [hkeep b hlt]
    show (w.heap.modify b _)[b]? = _
    rw [Array.getElem?_modify, if_pos rfl, hb]
    rfl
  refine ⟨⟨rfl, rfl, rfl, hsize, fun i hi hn => ?_⟩, fun i hi => ?_, fun i hi q hq => ?_, List.pairwise_singleton _ _⟩
  · rw [hkeep i hi]
    show (w.heap.modify b _)[i]? = _
    rw [Array.getElem?_modify, if_neg (fun e => hn ⟨_, .head _, ⟨_, rfl, e⟩⟩)]
  · simp only [List.mem_singleton] at hi
    subst hi
    refine ⟨by simp, .inr ⟨b, c, Go.Sort.putCells enc 0 d cur, rfl, Nat.zero_le _, hnew, by simpa [hd] using hle, hcm, by simp [Go.Sort.putCells, hs], ?_⟩⟩
    apply List.ext_getElem?
    intro j
    simp only [Array.length_toList, Nat.mul_one, List.getElem?_map]
    by_cases hj : j < d.size
    · have hjc : j < cur.size := by omega
      rw [List.getElem?_take_of_lt hj, Array.getElem?_toList]
      simp [Go.Sort.putCells, hjc, hj]
    · rw [List.getElem?_eq_none (by simp; omega), List.getElem?_eq_none (by simp; omega)]
      rfl
  · simp only [List.mem_singleton] at hi
    subst hi
    obtain ⟨a, ha, rfl⟩ := hq
    simp only [Option.some.injEq] at ha
    subst ha
    exact ⟨Nat.lt_of_lt_of_le hlt hsize, .inl ⟨_, .head _, ⟨_, rfl, rfl⟩⟩⟩
theorem sort_fr {α : Type} [Inhabited α] {enc : α → Value} {d : Array α} {n : Nat} {os : Array Obj} : Fr (fun i => i = b) w (sortWorld enc w b 0 n d os) := by
  refine ⟨rfl, rfl, rfl, ?_, fun i hi hn => ?_⟩
  · show w.heap.size ≤ ((Go.Sort.putRow enc (Go.Sort.ahead w n) b 0 d).heap ++ os).size
    rw [Array.size_append, Go.Sort.size_putRow]
    exact Nat.le_add_right _ _
  · show ((Go.Sort.putRow enc (Go.Sort.ahead w n) b 0 d).heap ++ os)[i]? = _
    rw [Array.getElem?_append_left (by rw [Go.Sort.size_putRow]; exact hi)]
    show (w.heap.modify b _)[i]? = _
    rw [Array.getElem?_modify, if_neg (fun e => hn e.symm)]
theorem permIn_perm {α : Type} [Inhabited α] {d d' : Array α} (h : Go.Sort.PermIn 0 d.size d d') : d'.toList.Perm d.toList ∧ d'.size = d.size := by
  obtain ⟨h1, _, h3⟩ := h
  refine ⟨?_, h1⟩
  have e1 : d.extract 0 d.size = d := by simp
  have e2 : d'.extract 0 d.size = d' := by rw [← h1]; simp
  rw [e1, e2] at h3
  exact h3
theorem sortedIn_pairwise {α : Type} [Inhabited α] {lt : α → α → Bool} {d : Array α} {m : Nat} (hm : m = d.size) (h : Go.Sort.SortedIn lt 0 m d) : d.toList.Pairwise fun x y => lt y x = false := by
  subst hm
  rw [List.pairwise_iff_getElem]
  intro i j hi hj hij
  have hi' : i < d.size := by simpa using hi
  have hj' : j < d.size := by simpa using hj
  have := h i j (Nat.zero_le _) hij hj'
  rw [getElem!_pos d i hi', getElem!_pos d j hj'] at this
  simpa using this

/-- slices.SortFunc, on a row of the call's own: elements of one cell; cmp reads only. -/
theorem sortFunc_calls (L : SlLaysF.n6 P ρ) {α : Type} (enc : α → Value) (h1 : ∀ x, (enc x).oneCell' = true) (cf : α → α → Int) (hO : Go.Sort.SWO (ltOf cf)) (g : Nat) (hg : bodied P g = true) (a : Option Addr) (xs : List α) (w : World)
    (hA : Holds [row T 1 a xs.length c (xs.map enc)] w) (hcmp : ∀ q, a = some q → ∀ w', Fr (fun i => i = q.block) w w' → ∀ x y, Calls P g #[enc x, enc y] w' fun e w'' => e = .returned (.int .i64 (cf x y)) ∧ w'' = w') (hsz : xs.length < 4611686018427387904) :
    Calls P (ρ.f 6) #[.slice a xs.length c, .func (.func g) #[] #[]] w fun e w' => e = .returned (.tuple #[]) ∧ ∃ ys : List α, ys.Perm xs ∧ ys.Pairwise (fun x y => ltOf cf y x = false) ∧
      Turns [row T 1 a xs.length c (xs.map enc)] [row T 1 a ys.length c (ys.map enc)] w w' := by
  cases xs with
  | nil =>
    refine (AnyF.slices_SortFunc_none (P := P) (ρ := ρ) { L with } a c (.func (.func g) #[] #[]) w).mono ?_
    rintro e w' ⟨rfl, rfl⟩
    exact ⟨rfl, [], List.Perm.refl _, List.Pairwise.nil, Turns.refl hA⟩
  | cons x0 xs =>
    haveI : Inhabited α := ⟨x0⟩
    have hφ := hA.φ _ (.head _)
    have hbase : ∃ b, a = some ⟨b, 0, none⟩ := by
      have h2 : w.ownsRow 0 T 1 (.slice a (x0 :: xs).length c) (x0 :: xs).length ((x0 :: xs).map enc) := hφ
      rcases h2.2 with ⟨hv, h0⟩ | ⟨g, cc, cur, hv, _⟩
      · simp at h0
      · simp only [Value.slice.injEq] at hv
        exact ⟨g, hv.1⟩
    obtain ⟨b, rfl⟩ := hbase
    have hlt : b < w.heap.size := hA.lt _ (.head _) b ⟨_, rfl, rfl⟩
    have hcon := Any.slices_SortFunc L enc h1 cf hO g #[] b 0 c (x0 :: xs).toArray w (fun args w => enters_bodied hg args w)
      (CmpReads.lays (fun m os dk hs x y => (hcmp _ rfl _ sort_fr x y).mono fun e w' ⟨he, hw⟩ => ⟨he, 0, by rw [hw]; rfl⟩)) (row_holds hφ) hlt (by simpa using hsz)
    have e0 : (x0 :: xs).toArray.size = (x0 :: xs).length := by simp
    rw [e0] at hcon
    refine hcon.mono ?_
    rintro e w' ⟨rfl, d', n, os, hp, hs, rfl⟩
    obtain ⟨hp1, hp2⟩ := permIn_perm (d := (x0 :: xs).toArray) (by rw [e0]; exact hp)
    exact ⟨rfl, d'.toList, by simpa using hp1, sortedIn_pairwise (by rw [hp2, e0]) hs, sort_turns hA (by rw [hp2, e0])⟩
/-- slices.Sort of ints. -/
theorem sortInts_calls (L : SlLaysM.n5 P ρ) (a : Option Addr) (xs : List Int) (w : World) (hA : Holds [row T 1 a xs.length c (xs.map (Value.int .i64))] w) (hsz : xs.length < 4611686018427387904) :
    Calls P (ρ.f 5) #[.slice a xs.length c] w fun e w' => e = .returned (.tuple #[]) ∧ Turns [row T 1 a xs.length c (xs.map (Value.int .i64))] [row T 1 a xs.length c ((xs.mergeSort fun x y => decide (x ≤ y)).map (Value.int .i64))] w w' := by
  cases xs with
  | nil =>
    refine (AnyM.slices_Sort_int_none (P := P) (ρ := ρ) L a c w).mono ?_
    rintro e w' ⟨rfl, rfl⟩
    exact ⟨rfl, by rw [List.mergeSort_nil]; exact Turns.refl hA⟩
  | cons x0 xs =>
    have hφ := hA.φ _ (.head _)
    have hbase : ∃ b, a = some ⟨b, 0, none⟩ := by
      have h2 : w.ownsRow 0 T 1 (.slice a (x0 :: xs).length c) (x0 :: xs).length ((x0 :: xs).map (Value.int .i64)) := hφ
      rcases h2.2 with ⟨hv, h0⟩ | ⟨g, cc, cur, hv, _⟩
      · simp at h0
      · simp only [Value.slice.injEq] at hv
        exact ⟨g, hv.1⟩
    obtain ⟨b, rfl⟩ := hbase
    have hlt : b < w.heap.size := hA.lt _ (.head _) b ⟨_, rfl, rfl⟩
    refine (AnyM.slices_Sort_int (P := P) (ρ := ρ) L b 0 c (x0 :: xs) w (row_holds hφ) hlt hsz).mono ?_
    rintro e w' ⟨rfl, n, os, rfl⟩
    have hl : ((x0 :: xs).mergeSort fun x y => decide (x ≤ y)).length = (x0 :: xs).length := List.length_mergeSort _
    have := sort_turns (n := n) (os := os) (d := ((x0 :: xs).mergeSort fun x y => decide (x ≤ y)).toArray) hA (by simp)
    simp only [List.toList_toArray, hl] at this
    exact ⟨rfl, this⟩
end Go.Hw
