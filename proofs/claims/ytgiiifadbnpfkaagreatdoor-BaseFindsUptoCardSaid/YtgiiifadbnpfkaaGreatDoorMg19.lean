/- Contracts of functions of the program: what each returns and leaves in memory. Printed by gen.py and walk.py. -/
import Derived.Test.YtgiiifadbnpfkaaGreatDoorMg18
import Derived.Test.YtgiiifadbnpfkaaGreatDoorMg17
namespace Go.Proofs.YtgiiifadbnpfkaaGreatDoor
open Go Go.Hw
set_option linter.unusedSimpArgs false
set_option linter.unusedVariables false
/-! ### A script, as it was handed in -/
structure OpB where
  kind : Int
  y : AG
  n : Int
  other : Bool
def opB (o : OpB) : List Value := .int .i64 o.kind :: (agC o.y ++ [.int .i64 o.n, .bool o.other])
theorem opB_len (o : OpB) : (opB o).length = 8 := rfl
structure ROp (w : World) (a : Option Addr) (os : List OpB) : Prop where
  nil : a = none → os.length = 0
  at_ : ∀ q, a = some q → ∀ i o, os[i]? = some o → ∀ j v, (opB o)[j]? = some v → w.cell? ((q.add (i * 8)).add j) = some v
  args : ∀ o ∈ os, RT w o.y.a o.y.x.args
theorem ROp.keeps {w w' : World} {a : Option Addr} {os : List OpB} (h : ROp w a os) (k : Keeps w w') : ROp w' a os := ⟨h.nil, fun q hq i t ht j v hv => k _ _ (h.at_ q hq i t ht j v hv), fun y hy => (h.args y hy).keeps k⟩
theorem ROp.get {w : World} {a : Option Addr} {os : List OpB} (h : ROp w a os) {i : Nat} (hi : i < os.length) : ∃ q o, a = some q ∧ os[i]? = some o ∧ o ∈ os ∧ RT w o.y.a o.y.x.args ∧ ∀ j v, (opB o)[j]? = some v → w.cell? ((q.add (i * 8)).add j) = some v := by
  cases a with
  | none => have := h.nil rfl; omega
  | some q => exact ⟨q, os[i], rfl, List.getElem?_eq_getElem hi, List.getElem_mem hi, h.args _ (List.getElem_mem hi), h.at_ q rfl i _ (List.getElem?_eq_getElem hi)⟩
/-- What the atoms of a script may be. -/
structure OBs (os : List OpB) : Prop where
  len : os.length ≤ 1048576
  args : ∀ o ∈ os, o.y.x.args.length ≤ 1099511627775
  name : ∀ o ∈ os, o.y.x.name.size ≤ 1099511627776
def Fis (is : List IG) : List (At × Nat) := is.map fun i => (i.y.x, i.p)
theorem Fis_fst (is : List IG) : (Fis is).map (·.1) = xsI is := by simp [Fis]
def turnI (i : IG) : IG := ⟨i.y, if i.p = 4 then 2 else 1⟩
theorem Fis_turn (is : List IG) : turnF (Fis is) = Fis (is.map turnI) := by simp [Fis, turnF, turnI]
def tuI (l : List IG) (i : Nat) : List IG := (l.take i).map turnI ++ l.drop i
theorem tuI_length (l : List IG) (i : Nat) : (tuI l i).length = l.length := by simp [tuI]; omega
theorem tuI_get {l : List IG} {i : Nat} {n : IG} (h : l[i]? = some n) : (tuI l i)[i]? = some n := by
  have hi := (List.getElem?_eq_some_iff.1 h).1
  rw [tuI, List.getElem?_append_right (by simp; omega)]
  simp [List.length_take, Nat.min_eq_left (Nat.le_of_lt hi), h]
theorem tuI_set {l : List IG} {i : Nat} {n : IG} (h : l[i]? = some n) : (tuI l i).set i (turnI n) = tuI l (i + 1) := by
  obtain ⟨hi, rfl⟩ := List.getElem?_eq_some_iff.1 h
  rw [tuI, tuI, List.set_append_right _ _ (by simp; omega)]
  simp only [List.length_map, List.length_take, Nat.min_eq_left (Nat.le_of_lt hi), Nat.sub_self]
  rw [List.drop_eq_getElem_cons hi, List.take_add_one, List.getElem?_eq_getElem hi, List.map_append, List.append_assoc]
  rfl
theorem tuI_same {l : List IG} {i : Nat} {n : IG} (h : l[i]? = some n) (ht : turnI n = n) : tuI l i = tuI l (i + 1) := by
  rw [← tuI_set h, ht]
  obtain ⟨hi, he⟩ := List.getElem?_eq_some_iff.1 (tuI_get h)
  rw [← he]; exact (List.set_getElem_self hi).symm
theorem tuI_all (l : List IG) : tuI l l.length = l.map turnI := by simp [tuI]
def cnI (l : List IG) : Nat := (l.filter fun i => decide (i.p = 4)).length
theorem cnI_le (l : List IG) (k : Nat) : cnI (l.take k) ≤ k := Nat.le_trans (List.length_filter_le _ _) (by rw [List.length_take]; omega)
theorem cnI_take {l : List IG} {i : Nat} {n : IG} (h : l[i]? = some n) : cnI (l.take (i + 1)) = cnI (l.take i) + if n.p = 4 then 1 else 0 := by
  rw [cnI, cnI, List.take_add_one, h, List.filter_append, List.length_append]
  congr 1
  by_cases h4 : n.p = 4 <;> simp [h4]
theorem n4_Fis (is : List IG) : n4F (Fis is) = cnI is := by
  unfold n4F Fis cnI
  rw [List.filter_map, List.length_map]
  rfl
theorem flat_set {α : Type} {en : α → List Value} {k : Nat} (hk : ∀ x, (en x).length = k) : ∀ (l : List α) (i j : Nat) (x y : α) (v : Value), l[i]? = some x → j < k → (en x).set j v = en y → (l.flatMap en).set (i * k + j) v = (l.set i y).flatMap en
  | [], _, _, _, _, _, h, _, _ => by simp at h
  | z :: l, 0, j, x, y, v, h, hj, he => by
    simp only [List.getElem?_cons_zero, Option.some.injEq] at h
    subst h
    rw [List.set_cons_zero, List.flatMap_cons, List.flatMap_cons, Nat.zero_mul, Nat.zero_add, List.set_append_left _ _ (by rw [hk]; exact hj), he]
  | z :: l, i + 1, j, x, y, v, h, hj, he => by
    rw [List.set_cons_succ, List.flatMap_cons, List.flatMap_cons, List.set_append_right _ _ (by rw [hk, Nat.add_mul]; omega), hk]
    rw [show (i + 1) * k + j - k = i * k + j by rw [Nat.add_mul]; omega, flat_set hk l i j x y v (by simpa using h) hj he]
theorem placeI_neg (l : List At) (f : At) : decide (placeI l f < 0) = decide (f ∉ l) := by
  by_cases h : f ∈ l
  · obtain ⟨i, hi, _⟩ := placeI_get h
    rw [hi, decide_eq_false (by omega), decide_eq_false (fun k => k h)]
  · rw [placeI_not h, decide_eq_true h]; rfl
theorem T.apIt : appB Tryz.prog 24 36 6 80 = true := by kernel_rfl
structure BI where
  g : BaseG
  a : Option Addr
  c : Nat
  is : List IG
/-- A base and the items that say where its facts must be. -/
structure BIok (z : BI) (k : Nat) : Prop where
  bs : BS z.g k (Fis z.is)
  part : ∀ i ∈ z.is, i.p = 1 ∨ i.p = 2 ∨ i.p = 4
  args : ∀ i ∈ z.is, i.y.x.args.length ≤ 8
  fct : ∀ i ∈ z.is, factB i.y.x = true

set_option maxRecDepth 10000 in
theorem built_calls (os : List OpB) (a : Option Addr) (c : Nat) (hO : OBs os) (w : World) (hN : NoneAt w) (hR : ROp w a os) : Calls Tryz.prog 11 #[.slice a os.length c] w fun e w' => ∃ z : BI, e = .returned (.tuple #[ptr z.g.p, .slice z.a z.is.length z.c, .bool true]) ∧ (BIok z os.length ∧ z.is.length ≤ os.length) ∧ Turns [] (rowIt z.a z.c z.is :: (argsA (z.is.map IG.y) ++ baseA z.g)) w w' := by
  refine enterS (args := [.slice a os.length c]) (fun _ => False) Tryz.func11 rfl Tryz.ntmps11 rfl rfl ?_
  refine WC.seq ?_
  refine WC.region ?_
  refine WL.val (OV.assign rfl) rfl ?_
  refine WL.val (OV.assign rfl) rfl ?_
  refine WL.val (OV.assign rfl) rfl ?_
  refine WL.nil ?_
  refine WX.next ?_
  refine WC.seq ?_
  refine WC.region ?_
  refine WL.callTA (ι := Nat × Nat) (vs := []) (vv := fun z => ptr z.1) (pp := fun _ => True) [] (AA := fun z => baseA ⟨z.1, none, none, 0, [], z.2, []⟩) rfl (by kernel_rfl) rfl rfl (fun w' hw' _ => (bnew_calls w').mono (fun en w'' ⟨p, rb, h1, h2⟩ => ⟨(p, rb), h1, trivial, h2⟩)) ?_
  rintro ⟨pg, rbg⟩ _
  obtain ⟨g0, eg0⟩ : ∃ g : BaseG, g = ⟨pg, none, none, 0, [], rbg, []⟩ := ⟨_, rfl⟩
  have bs0 : BS g0 0 [] := by rw [eg0]; exact new_bs _ _
  have hp0 : g0.p = pg := by rw [eg0]
  refine WL.focus (ow' := baseA g0) (List.Perm.of_eq (by rw [List.append_nil]; exact congrArg baseA eg0)) ?_
  refine WL.val (OV.assign rfl) rfl ?_
  refine WL.nil ?_
  refine WX.next ?_
  refine WC.seq ?_
  refine WC.seq ?_
  refine WC.region ?_
  refine WL.val (OV.move rfl) rfl ?_
  refine WL.val (OV.eqlPN T.u23 rfl rfl) rfl ?_
  refine WL.nil ?_
  refine WX.next ?_
  refine WC.condF rfl ?_
  refine WC.skip ?_
  refine WX.next ?_
  refine WC.seq ?_
  refine WC.region ?_
  refine WL.val (OV.assign rfl) rfl ?_
  refine WL.nil ?_
  refine WX.next ?_
  refine WC.seq ?_
  refine WC.seq ?_
  refine WC.region ?_
  refine WL.val (OV.assign rfl) rfl ?_
  refine WL.nil ?_
  refine WX.next ?_
  refine WC.block ?_
  refine WC.weak (S' := Sat w (fun _ => False) (fun b => b < w.heap.size) w (rowIt none 0 [] :: ([] ++ baseA g0))) (fun w' hw => (hw.rowNil 36 6).perm (List.Perm.of_eq (by first | rfl | (simp; rfl)))) ?_
  refine WC.loop2 (fun (i : Nat) (z : BI) => [(0, .slice a os.length c), (5, ptr pg), (6, .slice z.a z.is.length z.c), (7, .int .i64 (i : Int))])
      (fun i z w' => (i ≤ os.length ∧ BIok z i ∧ z.g.p = pg ∧ z.is.length ≤ i) ∧ Sat w (fun _ => False) (fun b => b < w.heap.size) w (rowIt z.a z.c z.is :: (argsA (z.is.map IG.y) ++ baseA z.g)) w')
      (fun i _ => os.length - i) 0 ⟨g0, none, 0, []⟩ ⟨rfl, rfl, rfl, rfl, trivial⟩ (fun w' hw => ⟨⟨by omega, ⟨bs0, (fun i hi => by cases hi), (fun i hi => by cases hi), (fun i hi => by cases hi)⟩, hp0, Nat.le_refl _⟩, hw⟩) ?_
  intro i z
  refine WC.pure (fun hi => ?_)
  obtain ⟨hi, hz, hzp, hzl⟩ := hi
  have hol0 := hO.len
  refine WC.seq ?_
  refine WC.seq ?_
  refine WC.region ?_
  refine WL.val (OV.move rfl) rfl ?_
  refine WL.val (OV.move rfl) rfl ?_
  first
  | (refine WL.val (OV.lenSlice rfl T.u22) rfl ?_)
  | (refine WL.val (OV.lenStr rfl T.u22) rfl ?_)
  refine WL.val (OV.lss rfl rfl) rfl ?_
  refine WL.nil ?_
  refine WX.next ?_
  refine WC.cond rfl (fun c22 => ?_) (fun c22 => ?_)
  · try simp only [decide_eq_true_eq, decide_eq_false_iff_not, Bool.not_eq_true', Bool.not_eq_false'] at c22
    refine WC.skip ?_
    refine WX.next ?_
    refine WC.seq ?_
    refine WC.block ?_
    refine WC.seq ?_
    refine WC.region ?_
    refine WL.val (OV.move rfl) rfl ?_
    refine WL.val (OV.move rfl) rfl ?_
    obtain ⟨q0, o, hq0, hoi, hom, hra, hrc⟩ := hR.get (i := i) (by omega)
    have hol := hO.args o hom
    have hon := hO.name o hom
    refine WL.val ((OV.indexSlice (show _ = some (Value.slice (some q0) os.length c) by rw [← hq0]; rfl) rfl T.u22 T.z65 (by omega)).cast (u := .pointer (some (q0.add (i * 8)))) (by rw [Int.toNat_natCast])) rfl ?_
    refine WL.val (OV.loadN (cs := opB o) rfl T.u65 rfl T.z65 (fun _ hw j v hj => hw.keeps _ _ (hrc j v hj))) rfl ?_
    refine WL.alloc T.zr65 rfl ?_
    intro bb8
    refine WL.storeAll (vs := opB o) rfl rfl rfl T.z65 rfl ?_
    refine WL.nil ?_
    refine WX.next ?_
    refine WC.seq ?_
    refine WC.region ?_
    first
    | (refine WL.val (OV.fieldAddr0 (off := 0) rfl T.u65 rfl) rfl ?_)
    | (refine WL.val (OV.fieldAddr (off := 0) rfl T.u65 rfl) rfl ?_)
    refine WL.val (OV.load1 (v := .int .i64 o.kind) rfl T.u3 rfl (fun _ hw => (cell_at (hw.it _ (.head _)) (o := 0) rfl).1)) rfl ?_
    refine WL.nil ?_
    refine WX.next ?_
    refine WC.block ?_
    refine WC.seq ?_
    refine WC.region ?_
    refine WL.val (OV.eql rfl rfl) rfl ?_
    refine WL.val (OV.assign rfl) rfl ?_
    refine WL.nil ?_
    refine WX.next ?_
    refine WC.cond rfl (fun c31 => ?_) (fun c31 => ?_)
    · try simp only [decide_eq_true_eq, decide_eq_false_iff_not, Bool.not_eq_true', Bool.not_eq_false'] at c31
      refine WC.seq ?_
      refine WC.region ?_
      refine WL.val (OV.move rfl) rfl ?_
      first
      | (refine WL.val (OV.fieldAddr0 (off := 1) rfl T.u65 rfl) rfl ?_)
      | (refine WL.val (OV.fieldAddr (off := 1) rfl T.u65 rfl) rfl ?_)
      refine WL.val (OV.loadN (cs := agC o.y) rfl T.u34 rfl T.z34 (fun _ hw j v hj => by rw [add_off]; exact own_part hw (.head _) (o := 1) (cs' := agC o.y) rfl j v hj)) rfl ?_
      refine WL.focus (ow' := baseA z.g ++ (own bb8 (.cells (opB o).toArray 65 (0, 0)) :: rowIt z.a z.c z.is :: argsA (z.is.map IG.y))) (by exact perm_cat [[own bb8 (.cells (opB o).toArray 65 (0, 0)), rowIt z.a z.c z.is], argsA (z.is.map IG.y), baseA z.g] [2, 0, 1] (by decide) rfl) ?_
      refine WL.callTA (ι := BaseG) (vs := [ptr z.g.p, atV o.y.x o.y.a o.y.c]) (vv := fun _ => .tuple #[.bool (factB o.y.x && decide (o.y.x ∉ (Fis z.is).map (·.1))), .int .i64 (if factB o.y.x = true then 0 else 81)]) (pp := fun g' => BS g' (i + 1) (addF (Fis z.is) o.y.x) ∧ g'.p = z.g.p) (baseA z.g) (AA := fun g' => baseA g') rfl (by kernel_rfl) (by rw [hzp]; rfl) rfl (fun w' hw' hH => (badd_bs z.g i (Fis z.is) hz.bs (by have := hO.len; omega) o.y.x o.y.a o.y.c hol hon w' (hN.keeps hw'.keeps) (Sat.sepI hw' hN.lt) (hra.keeps hw'.keeps) (fun q hq hl => Sat.sepI hw' (hra.lt hq hl)) hH)) ?_
      rintro g1 ⟨bs1, hp1⟩
      have hp1 : g1.p = pg := by rw [hp1, hzp]
      refine WL.val (OV.move rfl) rfl ?_
      refine WL.val (OV.extract rfl rfl) rfl ?_
      refine WL.val (OV.extract rfl rfl) rfl ?_
      refine WL.val (OV.assign rfl) rfl ?_
      refine WL.val (OV.assign rfl) rfl ?_
      refine WL.nil ?_
      refine WX.next ?_
      refine WC.seq ?_
      refine WC.region ?_
      first
      | (refine WL.val (OV.fieldAddr0 (off := 1) rfl T.u65 rfl) rfl ?_)
      | (refine WL.val (OV.fieldAddr (off := 1) rfl T.u65 rfl) rfl ?_)
      refine WL.val (OV.loadN (cs := agC o.y) rfl T.u34 rfl T.z34 (fun _ hw j v hj => by rw [add_off]; exact own_part hw (List.mem_append_right _ (.head _)) (o := 1) (cs' := agC o.y) rfl j v hj)) rfl ?_
      refine WL.call0 (v := .bool (factB o.y.x)) (by kernel_rfl) rfl rfl (fun w' hw' => fact_calls o.y.x o.y.a o.y.c (by omega) hon w' (hN.keeps hw'.keeps) (hra.keeps hw'.keeps)) ?_
      refine WL.val (OV.assign rfl) rfl ?_
      refine WL.nil ?_
      refine WX.next ?_
      refine WC.seq ?_
      refine WC.region ?_
      refine WL.val (OV.move rfl) rfl ?_
      refine WL.val (OV.move rfl) rfl ?_
      refine WL.split (t := 44) rfl (fun g44 => ?_) (fun g44 => ?_)
      · try simp only [decide_eq_true_eq, decide_eq_false_iff_not, Bool.not_eq_true', Bool.not_eq_false'] at g44
        refine WL.go (b := true) rfl rfl rfl ?_
        refine WL.val (OV.move rfl) rfl ?_
        refine WL.go (b := true) rfl rfl rfl ?_
        first
        | (refine WL.val (OV.fieldAddr0 (off := 1) rfl T.u65 rfl) rfl ?_)
        | (refine WL.val (OV.fieldAddr (off := 1) rfl T.u65 rfl) rfl ?_)
        refine WL.go (b := true) rfl rfl rfl ?_
        refine WL.val (OV.loadN (cs := agC o.y) rfl T.u34 rfl T.z34 (fun _ hw j v hj => by rw [add_off]; exact own_part hw (List.mem_append_right _ (.head _)) (o := 1) (cs' := agC o.y) rfl j v hj)) rfl ?_
        refine WL.go (b := true) rfl rfl rfl ?_
        refine WL.call0 (v := .int .i64 (placeI (xsI z.is) o.y.x)) (vs := [.slice z.a z.is.length z.c, atV o.y.x o.y.a o.y.c]) (by kernel_rfl) rfl rfl (fun w' hw' => place_calls z.is z.a z.c o.y.x o.y.a o.y.c (by omega) (fun i hi => by have := hz.args i hi; omega) (by omega) w' (RIt.of_row hw' (fun i hi => List.mem_append_right _ (.tail _ (by first | exact hi | (unfold itsA at hi; exact hi))))) (hra.keeps hw'.keeps)) ?_
        refine WL.go (b := true) rfl rfl rfl ?_
        refine WL.val (OV.lss rfl rfl) rfl ?_
        refine WL.val (OV.pickT rfl rfl) rfl ?_
        refine WL.val (OV.assign rfl) rfl ?_
        refine WL.nil ?_
        refine WX.next ?_
        refine WC.seq ?_
        refine WC.seq ?_
        refine WC.region ?_
        refine WL.val (OV.move rfl) rfl ?_
        refine WL.val (OV.move rfl) rfl ?_
        refine WL.val ((OV.neqB T.u4 rfl rfl).cast (u := .bool false) (by rw [Fis_fst, placeI_neg]; simp [g44])) rfl ?_
        refine WL.val (OV.move rfl) rfl ?_
        refine WL.known (t := 54) (b := false) rfl (by rfl) ?_
        refine WL.go (b := false) rfl rfl rfl ?_
        refine WL.val (OV.move rfl) rfl ?_
        refine WL.go (b := false) rfl rfl rfl ?_
        refine WL.val ((OV.eql rfl rfl).cast (u := .bool true) (by simp [g44])) rfl ?_
        refine WL.go (b := false) rfl rfl rfl ?_
        refine WL.val (OV.move rfl) rfl ?_
        refine WL.go (b := false) rfl rfl rfl ?_
        refine WL.val ((OV.neqB T.u4 rfl rfl).cast (u := .bool false) (by simp [g44])) rfl ?_
        refine WL.val (OV.pickF rfl rfl) rfl ?_
        refine WL.val (OV.move rfl) rfl ?_
        refine WL.known (t := 60) (b := false) rfl (by rfl) ?_
        refine WL.go (b := false) rfl rfl rfl ?_
        refine WL.val (OV.move rfl) rfl ?_
        refine WL.go (b := false) rfl rfl rfl ?_
        refine WL.val (OV.not rfl) rfl ?_
        refine WL.go (b := false) rfl rfl rfl ?_
        refine WL.val (OV.move rfl) rfl ?_
        refine WL.known (t := 63) (b := false) rfl (by simp [g44]) ?_
        refine WL.skip (b := false) rfl rfl rfl rfl ?_
        refine WL.skip (b := false) rfl rfl rfl rfl ?_
        refine WL.go (b := false) rfl rfl rfl ?_
        refine WL.val (OV.pickF rfl rfl) rfl ?_
        refine WL.val (OV.pickF rfl rfl) rfl ?_
        refine WL.nil ?_
        refine WX.next ?_
        refine WC.condF (show _ = some (Value.bool false) from by rfl) ?_
        refine WC.skip ?_
        refine WX.next ?_
        refine WC.seq ?_
        refine WC.region ?_
        refine WL.val (OV.move rfl) rfl ?_
        refine WL.nil ?_
        refine WX.next ?_
        refine WC.cond rfl (fun c68 => ?_) (fun c68 => ?_)
        · try simp only [decide_eq_true_eq, decide_eq_false_iff_not, Bool.not_eq_true', Bool.not_eq_false'] at c68
          refine WC.seq ?_
          refine WC.focus (ow' := own bb8 (.cells (opB o).toArray 65 (0, 0)) :: rowIt z.a z.c z.is :: (argsA (z.is.map IG.y) ++ baseA g1)) (by exact perm_cat [baseA g1, [own bb8 (.cells (opB o).toArray 65 (0, 0)), rowIt z.a z.c z.is], argsA (z.is.map IG.y)] [1, 2, 0] (by decide) rfl) ?_
          refine WC.region ?_
          first
          | (refine WL.val (OV.fieldAddr0 (off := 1) rfl T.u65 rfl) rfl ?_)
          | (refine WL.val (OV.fieldAddr (off := 1) rfl T.u65 rfl) rfl ?_)
          first
          | (refine WL.val (OV.fieldAddr0 (off := 0) rfl T.u34 rfl) rfl ?_)
          | (refine WL.val (OV.fieldAddr (off := 0) rfl T.u34 rfl) rfl ?_)
          refine WL.val (OV.loadN (cs := tmC o.y.x.b) rfl T.u31 rfl T.z31 (fun _ hw j v hj => by rw [add_off]; exact own_part hw (.head _) (o := 1) (cs' := tmC o.y.x.b) rfl j v hj)) rfl ?_
          first
          | (refine WL.val (OV.fieldAddr0 (off := 1) rfl T.u65 rfl) rfl ?_)
          | (refine WL.val (OV.fieldAddr (off := 1) rfl T.u65 rfl) rfl ?_)
          first
          | (refine WL.val (OV.fieldAddr0 (off := 3) rfl T.u34 rfl) rfl ?_)
          | (refine WL.val (OV.fieldAddr (off := 3) rfl T.u34 rfl) rfl ?_)
          refine WL.val (OV.load1 (v := .string o.y.x.name) rfl T.u9 rfl (fun _ hw => (cell_at (hw.it _ (.head _)) (o := 4) rfl).1)) rfl ?_
          refine WL.val (OV.buildStruct (xs := [(0, .tmp 71), (1, .tmp 74)]) (pl := [(0, 3), (3, 1), (4, 1)]) (cs := atC ⟨o.y.x.b, o.y.x.name, []⟩ none 0) T.u34 T.zr34 (by kernel_rfl) rfl (fill_cons (us := tmC o.y.x.b) rfl rfl (Nat.le_of_ble_eq_true rfl) (fill_cons (us := [_]) rfl rfl (Nat.le_of_ble_eq_true rfl) rfl))) rfl ?_
          refine WL.alloc T.zr34 rfl ?_
          intro b13
          refine WL.storeAll (vs := atC ⟨o.y.x.b, o.y.x.name, []⟩ none 0) rfl rfl rfl T.z34 rfl ?_
          refine WL.nil ?_
          refine WX.next ?_
          refine WC.seq ?_
          refine WC.region ?_
          first
          | (refine WL.val (OV.fieldAddr0 (off := 4) rfl T.u34 rfl) rfl ?_)
          | (refine WL.val (OV.fieldAddr (off := 4) rfl T.u34 rfl) rfl ?_)
          refine WL.val (OV.load1 (v := .slice none 0 0) rfl T.u32 rfl (fun _ hw => (cell_at (hw.it _ (.head _)) (o := 4) rfl).1)) rfl ?_
          first
          | (refine WL.val (OV.fieldAddr0 (off := 1) rfl T.u65 rfl) rfl ?_)
          | (refine WL.val (OV.fieldAddr (off := 1) rfl T.u65 rfl) rfl ?_)
          first
          | (refine WL.val (OV.fieldAddr0 (off := 4) rfl T.u34 rfl) rfl ?_)
          | (refine WL.val (OV.fieldAddr (off := 4) rfl T.u34 rfl) rfl ?_)
          refine WL.val (OV.load1 (v := .slice o.y.a o.y.x.args.length o.y.c) rfl T.u32 rfl (fun _ hw => (cell_at (hw.it _ (.tail _ (.head _))) (o := 5) rfl).1)) rfl ?_
          refine WL.weak (S' := Sat w (fun _ => False) (fun b => b < w.heap.size) w (row 31 3 none 0 0 [] :: own b13 (.cells (atC ⟨o.y.x.b, o.y.x.name, []⟩ none 0).toArray 34 (0, 0)) :: own bb8 (.cells (opB o).toArray 65 (0, 0)) :: rowIt z.a z.c z.is :: (argsA (z.is.map IG.y) ++ baseA g1))) (fun w' hw => hw.rowNil 31 3) ?_
          refine WL.append (news := o.y.x.args.flatMap tmC) rfl rfl T.apT (fun _ _ => Src.of_rt hra.nil (fun _ hw => hra.keeps hw.keeps)) (tms_one _) ⟨by omega, by unfold maxLen; omega⟩ rfl ?_
          intro a81 c81
          simp only [Nat.zero_add, List.nil_append]
          first
          | (refine WL.val (OV.fieldAddr0 (off := 4) rfl T.u34 rfl) rfl ?_)
          | (refine WL.val (OV.fieldAddr (off := 4) rfl T.u34 rfl) rfl ?_)
          refine WL.focus perm1 (WL.store1 (o := 4) rfl rfl rfl T.z32 (by show 4 < 5; omega) ?_)
          refine WL.nil ?_
          refine WX.next ?_
          refine WC.region ?_
          refine WL.val (OV.move rfl) rfl ?_
          refine WL.val (OV.loadN (cs := atC ⟨o.y.x.b, o.y.x.name, o.y.x.args⟩ a81 c81) rfl T.u34 rfl T.z34 (fun _ hw j v hj => by rw [add_off, Nat.zero_add]; exact own_cells hw (.head _) j v hj)) rfl ?_
          refine WL.val (OV.buildStruct (xs := [(0, .tmp 84), (1, .const (.int .i64 4))]) (pl := [(0, 5), (5, 1)]) (cs := igC ⟨⟨o.y.x, a81, c81⟩, 4⟩) T.u36 T.zr36 (by kernel_rfl) rfl (fill_cons (us := atC ⟨o.y.x.b, o.y.x.name, o.y.x.args⟩ a81 c81) rfl rfl (Nat.le_of_ble_eq_true rfl) (fill_cons (us := [_]) rfl rfl (Nat.le_of_ble_eq_true rfl) rfl))) rfl ?_
          refine WL.buildSliceA (cs := igC ⟨⟨o.y.x, a81, c81⟩, 4⟩) T.u24 T.z36 T.zr36 rfl rfl (by omega) (by omega) rfl ?_
          intro b86
          refine WL.focus (ow' := rowIt z.a z.c z.is :: own b86 (.cells (igC ⟨⟨o.y.x, a81, c81⟩, 4⟩).toArray 36 (0, 0)) :: own b13 (.cells (atC ⟨o.y.x.b, o.y.x.name, o.y.x.args⟩ a81 c81).toArray 34 (0, 0)) :: rowT a81 c81 o.y.x.args :: own bb8 (.cells (opB o).toArray 65 (0, 0)) :: (argsA (z.is.map IG.y) ++ baseA g1)) (perm_pick [_, _, _, _, _] [4, 0, 1, 2, 3] (by decide) rfl) ?_
          refine WL.append (news := igC ⟨⟨o.y.x, a81, c81⟩, 4⟩) rfl rfl T.apIt (fun _ _ => own_srcN (.tail _ (.head _)) rfl) (igC_one _) ⟨by omega, by unfold maxLen; omega⟩ rfl ?_
          intro a87 c87
          refine WL.val (OV.assign rfl) rfl ?_
          refine WL.nil ?_
          refine WX.block_normal ?_
          refine WX.block_normal ?_
          refine WX.next ?_
          refine WC.region ?_
          refine WL.val (OV.move rfl) rfl ?_
          refine WL.val (OV.addN (j := 1) rfl rfl (by omega)) rfl ?_
          refine WL.val (OV.assign rfl) rfl ?_
          refine WL.nil ?_
          have hnot : o.y.x ∉ xsI z.is := fun hm => by
            obtain ⟨j, hj, _⟩ := placeI_get hm
            omega
          have el : z.is.length + 1 = (z.is ++ [(⟨⟨o.y.x, a81, c81⟩, 4⟩ : IG)]).length := by simp
          have ef : z.is.flatMap igC ++ igC ⟨⟨o.y.x, a81, c81⟩, 4⟩ = (z.is ++ [(⟨⟨o.y.x, a81, c81⟩, 4⟩ : IG)]).flatMap igC := by simp
          have em : argsA ((z.is ++ [(⟨⟨o.y.x, a81, c81⟩, 4⟩ : IG)]).map IG.y) = argsA (z.is.map IG.y) ++ [rowT a81 c81 o.y.x.args] := by simp [argsA]
          refine WX.round2 (i + 1) ⟨g1, a87, c87, z.is ++ [⟨⟨o.y.x, a81, c81⟩, 4⟩]⟩ ⟨rfl, rfl, by rw [← el]; rfl, rfl, trivial⟩ (fun w' hw => ⟨⟨by omega, ⟨?_, ?_, ?_, ?_⟩, hp1, by simp; omega⟩, ?_⟩) (by show os.length - (i + 1) < os.length - i; omega)
          · have e : addF (Fis z.is) o.y.x = Fis (z.is ++ [⟨⟨o.y.x, a81, c81⟩, 4⟩]) := by
              unfold addF
              rw [if_pos ⟨by simpa using g44, by rw [Fis_fst]; exact hnot⟩]
              simp [Fis]
            rw [e] at bs1; exact bs1
          · intro q hq
            rcases List.mem_append.1 hq with h | h
            · exact hz.part q h
            · simp only [List.mem_singleton] at h; subst h; exact .inr (.inr rfl)
          · intro q hq
            rcases List.mem_append.1 hq with h | h
            · exact hz.args q h
            · simp only [List.mem_singleton] at h; subst h; exact fact_args (by simpa using g44)
          · intro q hq
            rcases List.mem_append.1 hq with h | h
            · exact hz.fct q h
            · simp only [List.mem_singleton] at h; subst h; simpa using g44
          · rw [el, ef] at hw
            rw [em]
            exact (hw.pick [[rowIt a87 c87 (z.is ++ [⟨⟨o.y.x, a81, c81⟩, 4⟩])], [own b86 (.cells (igC ⟨⟨o.y.x, a81, c81⟩, 4⟩).toArray 36 (0, 0))], [own b13 (.cells (atC ⟨o.y.x.b, o.y.x.name, o.y.x.args⟩ a81 c81).toArray 34 (0, 0))], [rowT a81 c81 o.y.x.args], [own bb8 (.cells (opB o).toArray 65 (0, 0))], argsA (z.is.map IG.y), baseA g1] [0, 5, 3, 6] 7 rfl (by decide) (by decide)).perm (List.Perm.of_eq (by simp [cat]))
        · try simp only [decide_eq_true_eq, decide_eq_false_iff_not, Bool.not_eq_true', Bool.not_eq_false'] at c68
          refine WC.skip ?_
          refine WX.block_normal ?_
          refine WX.block_normal ?_
          refine WX.next ?_
          refine WC.region ?_
          refine WL.val (OV.move rfl) rfl ?_
          refine WL.val (OV.addN (j := 1) rfl rfl (by omega)) rfl ?_
          refine WL.val (OV.assign rfl) rfl ?_
          refine WL.nil ?_
          have hin : o.y.x ∈ xsI z.is := Classical.byContradiction fun hm => by
            have := placeI_not hm
            omega
          have e : addF (Fis z.is) o.y.x = Fis z.is := by
            unfold addF; rw [if_neg (fun k => k.2 (by rw [Fis_fst]; exact hin))]
          rw [e] at bs1
          exact WX.round2 (i + 1) ⟨g1, z.a, z.c, z.is⟩ ⟨rfl, rfl, rfl, rfl, trivial⟩ (fun w' hw => ⟨⟨by omega, ⟨bs1, hz.part, hz.args, hz.fct⟩, hp1, by show z.is.length ≤ i + 1; omega⟩, hw.pick [baseA g1, [own bb8 (.cells (opB o).toArray 65 (0, 0))], [rowIt z.a z.c z.is], argsA (z.is.map IG.y)] [2, 3, 0] 4 rfl (by decide) (by decide)⟩) (by show os.length - (i + 1) < os.length - i; omega)
      · try simp only [decide_eq_true_eq, decide_eq_false_iff_not, Bool.not_eq_true', Bool.not_eq_false'] at g44
        refine WL.skip (b := false) rfl rfl rfl rfl ?_
        refine WL.skip (b := false) rfl rfl rfl rfl ?_
        refine WL.skip (b := false) rfl rfl rfl rfl ?_
        refine WL.skip (b := false) rfl rfl rfl rfl ?_
        refine WL.skip (b := false) rfl rfl rfl rfl ?_
        refine WL.val (OV.pickF rfl rfl) rfl ?_
        refine WL.val (OV.assign rfl) rfl ?_
        refine WL.nil ?_
        refine WX.next ?_
        refine WC.seq ?_
        refine WC.seq ?_
        refine WC.region ?_
        refine WL.val (OV.move rfl) rfl ?_
        refine WL.val (OV.move rfl) rfl ?_
        refine WL.val ((OV.neqB T.u4 rfl rfl).cast (u := .bool false) (by simp [g44])) rfl ?_
        refine WL.val (OV.move rfl) rfl ?_
        refine WL.known (t := 54) (b := false) rfl (by rfl) ?_
        refine WL.go (b := false) rfl rfl rfl ?_
        refine WL.val (OV.move rfl) rfl ?_
        refine WL.go (b := false) rfl rfl rfl ?_
        refine WL.val ((OV.eql rfl rfl).cast (u := .bool false) (by simp [g44])) rfl ?_
        refine WL.go (b := false) rfl rfl rfl ?_
        refine WL.val (OV.move rfl) rfl ?_
        refine WL.go (b := false) rfl rfl rfl ?_
        refine WL.val ((OV.neqB T.u4 rfl rfl).cast (u := .bool false) (by simp [g44])) rfl ?_
        refine WL.val (OV.pickF rfl rfl) rfl ?_
        refine WL.val (OV.move rfl) rfl ?_
        refine WL.known (t := 60) (b := false) rfl (by rfl) ?_
        refine WL.go (b := false) rfl rfl rfl ?_
        refine WL.val (OV.move rfl) rfl ?_
        refine WL.go (b := false) rfl rfl rfl ?_
        refine WL.val (OV.not rfl) rfl ?_
        refine WL.go (b := false) rfl rfl rfl ?_
        refine WL.val (OV.move rfl) rfl ?_
        refine WL.known (t := 63) (b := true) rfl (by simp [g44]) ?_
        refine WL.go (b := true) rfl rfl rfl ?_
        refine WL.val (OV.move rfl) rfl ?_
        refine WL.go (b := true) rfl rfl rfl ?_
        refine WL.val ((OV.neq rfl rfl).cast (u := .bool false) (by simp [g44])) rfl ?_
        refine WL.go (b := false) rfl rfl rfl ?_
        refine WL.val (OV.pickT rfl rfl) rfl ?_
        refine WL.val (OV.pickF rfl rfl) rfl ?_
        refine WL.nil ?_
        refine WX.next ?_
        refine WC.condF (show _ = some (Value.bool false) from by rfl) ?_
        refine WC.skip ?_
        refine WX.next ?_
        refine WC.seq ?_
        refine WC.region ?_
        refine WL.val (OV.move rfl) rfl ?_
        refine WL.nil ?_
        refine WX.next ?_
        refine WC.condF rfl ?_
        refine WC.skip ?_
        refine WX.block_normal ?_
        refine WX.block_normal ?_
        refine WX.next ?_
        refine WC.region ?_
        refine WL.val (OV.move rfl) rfl ?_
        refine WL.val (OV.addN (j := 1) rfl rfl (by omega)) rfl ?_
        refine WL.val (OV.assign rfl) rfl ?_
        refine WL.nil ?_
        have e : addF (Fis z.is) o.y.x = Fis z.is := addF_not (by simpa using g44)
        rw [e] at bs1
        exact WX.round2 (i + 1) ⟨g1, z.a, z.c, z.is⟩ ⟨rfl, rfl, rfl, rfl, trivial⟩ (fun w' hw => ⟨⟨by omega, ⟨bs1, hz.part, hz.args, hz.fct⟩, hp1, by show z.is.length ≤ i + 1; omega⟩, hw.pick [baseA g1, [own bb8 (.cells (opB o).toArray 65 (0, 0))], [rowIt z.a z.c z.is], argsA (z.is.map IG.y)] [2, 3, 0] 4 rfl (by decide) (by decide)⟩) (by show os.length - (i + 1) < os.length - i; omega)
    · try simp only [decide_eq_true_eq, decide_eq_false_iff_not, Bool.not_eq_true', Bool.not_eq_false'] at c31
      refine WC.seq ?_
      refine WC.region ?_
      refine WL.val (OV.eql rfl rfl) rfl ?_
      refine WL.val (OV.assign rfl) rfl ?_
      refine WL.nil ?_
      refine WX.next ?_
      refine WC.cond rfl (fun c88 => ?_) (fun c88 => ?_)
      · try simp only [decide_eq_true_eq, decide_eq_false_iff_not, Bool.not_eq_true', Bool.not_eq_false'] at c88
        refine WC.seq ?_
        refine WC.region ?_
        refine WL.val (OV.assign rfl) rfl ?_
        refine WL.nil ?_
        refine WX.next ?_
        refine WC.seq ?_
        refine WC.seq ?_
        refine WC.region ?_
        refine WL.val (OV.assign rfl) rfl ?_
        refine WL.nil ?_
        refine WX.next ?_
        refine WC.block ?_
        refine WC.know (fun w' hw => (fun hp => row_addrK (hw.it (rowIt z.a z.c z.is) (.tail _ (.head _))) hp : 0 < z.is.length → ∃ q, z.a = some ⟨q, 0, none⟩)) (fun hza => ?_)
        refine WC.focus perm1 ?_
        refine WC.loop1 (fun (k : Nat) => [(0, .slice a os.length c), (5, ptr pg), (6, .slice z.a z.is.length z.c), (7, .int .i64 (i : Int)), (8, .pointer (some ⟨bb8, 0, none⟩)), (14, .int .i64 (cnI (z.is.take k) : Int)), (15, .int .i64 (k : Int))])
            (fun k w' => k ≤ z.is.length ∧ Sat w (fun _ => False) (fun b => b < w.heap.size) w (row 36 6 z.a z.is.length z.c ((tuI z.is k).flatMap igC) :: own bb8 (.cells (opB o).toArray 65 (0, 0)) :: (argsA (z.is.map IG.y) ++ baseA z.g)) w')
            (fun k => z.is.length - k) 0 ⟨rfl, rfl, rfl, rfl, rfl, rfl, rfl, trivial⟩ (fun w' hw => ⟨by omega, hw⟩) ?_
        intro k
        refine WC.pure (fun hk => ?_)
        refine WC.seq ?_
        refine WC.seq ?_
        refine WC.region ?_
        refine WL.val (OV.move rfl) rfl ?_
        refine WL.val (OV.move rfl) rfl ?_
        first
        | (refine WL.val (OV.lenSlice rfl T.u24) rfl ?_)
        | (refine WL.val (OV.lenStr rfl T.u24) rfl ?_)
        refine WL.val (OV.lss rfl rfl) rfl ?_
        refine WL.nil ?_
        refine WX.next ?_
        refine WC.cond rfl (fun c93 => ?_) (fun c93 => ?_)
        · try simp only [decide_eq_true_eq, decide_eq_false_iff_not, Bool.not_eq_true', Bool.not_eq_false'] at c93
          refine WC.skip ?_
          refine WX.next ?_
          refine WC.seq ?_
          refine WC.block ?_
          refine WC.seq ?_
          refine WC.region ?_
          refine WL.val (OV.move rfl) rfl ?_
          refine WL.val (OV.move rfl) rfl ?_
          obtain ⟨i0, hi0⟩ : ∃ i0, z.is[k]? = some i0 := ⟨_, List.getElem?_eq_getElem (by omega)⟩
          have hi0m := List.mem_of_getElem? hi0
          obtain ⟨qb, hqb⟩ := hza (by omega)
          refine WL.val ((OV.indexSlice (show _ = some (Value.slice (some ⟨qb, 0, none⟩) z.is.length z.c) by rw [← hqb]; rfl) rfl T.u24 T.z36 (by omega)).cast (u := .pointer (some ⟨qb, k * 6, none⟩)) (by rw [Int.toNat_natCast, add_off, Nat.zero_add])) rfl ?_
          first
          | (refine WL.val (OV.fieldAddr0 (off := 5) rfl T.u36 rfl) rfl ?_)
          | (refine WL.val (OV.fieldAddr (off := 5) rfl T.u36 rfl) rfl ?_)
          refine WL.val (OV.load1 (v := .int .i64 (i0.p : Int)) rfl T.u3 rfl (fun _ hw => by have h := row_cellsE hw hqb (.head _) (k * 6 + 5) (.int .i64 (i0.p : Int)) (by rw [flat_get igC_len _ k 5 i0 (tuI_get hi0) (by omega)]; rfl); rw [add_off, Nat.zero_add] at h; exact h)) rfl ?_
          refine WL.nil ?_
          refine WX.next ?_
          refine WC.block ?_
          refine WC.seq ?_
          refine WC.region ?_
          refine WL.val (OV.eql rfl rfl) rfl ?_
          refine WL.val (OV.assign rfl) rfl ?_
          refine WL.nil ?_
          refine WX.next ?_
          refine WC.cond rfl (fun c101 => ?_) (fun c101 => ?_)
          · try simp only [decide_eq_true_eq, decide_eq_false_iff_not, Bool.not_eq_true', Bool.not_eq_false'] at c101
            refine WC.region ?_
            refine WL.val (OV.move rfl) rfl ?_
            refine WL.val (OV.move rfl) rfl ?_
            refine WL.val ((OV.indexSlice (show _ = some (Value.slice (some ⟨qb, 0, none⟩) z.is.length z.c) by rw [← hqb]; rfl) rfl T.u24 T.z36 (by omega)).cast (u := .pointer (some ⟨qb, k * 6, none⟩)) (by rw [Int.toNat_natCast, add_off, Nat.zero_add])) rfl ?_
            first
            | (refine WL.val (OV.fieldAddr0 (off := 5) rfl T.u36 rfl) rfl ?_)
            | (refine WL.val (OV.fieldAddr (off := 5) rfl T.u36 rfl) rfl ?_)
            refine WL.storeRow (o := k * 6 + 5) rfl hqb rfl rfl T.z3 (by rw [flat_len igC_len, tuI_length]; omega) ?_
            refine WL.nil ?_
            refine WX.block_normal ?_
            refine WX.block_normal ?_
            refine WX.next ?_
            refine WC.region ?_
            refine WL.val (OV.move rfl) rfl ?_
            refine WL.val (OV.addN (j := 1) rfl rfl (by omega)) rfl ?_
            refine WL.val (OV.assign rfl) rfl ?_
            refine WL.nil ?_
            have hip : i0.p = 2 := by omega
            exact WX.round1 (k + 1) ⟨rfl, rfl, rfl, rfl, rfl, by rw [cnI_take hi0, hip]; rfl, rfl, trivial⟩ (fun w' hw => ⟨by omega, by
              rw [flat_set igC_len _ k 5 i0 ⟨i0.y, 1⟩ (.int .i64 1) (tuI_get hi0) (by omega) rfl, show (⟨i0.y, 1⟩ : IG) = turnI i0 from by unfold turnI; rw [hip]; rfl, tuI_set hi0] at hw
              exact hw⟩) (by show z.is.length - (k + 1) < z.is.length - k; omega)
          · try simp only [decide_eq_true_eq, decide_eq_false_iff_not, Bool.not_eq_true', Bool.not_eq_false'] at c101
            refine WC.seq ?_
            refine WC.region ?_
            refine WL.val (OV.eql rfl rfl) rfl ?_
            refine WL.val (OV.assign rfl) rfl ?_
            refine WL.nil ?_
            refine WX.next ?_
            refine WC.cond rfl (fun c107 => ?_) (fun c107 => ?_)
            · try simp only [decide_eq_true_eq, decide_eq_false_iff_not, Bool.not_eq_true', Bool.not_eq_false'] at c107
              refine WC.seq ?_
              refine WC.region ?_
              refine WL.val (OV.move rfl) rfl ?_
              refine WL.val (OV.move rfl) rfl ?_
              refine WL.val ((OV.indexSlice (show _ = some (Value.slice (some ⟨qb, 0, none⟩) z.is.length z.c) by rw [← hqb]; rfl) rfl T.u24 T.z36 (by omega)).cast (u := .pointer (some ⟨qb, k * 6, none⟩)) (by rw [Int.toNat_natCast, add_off, Nat.zero_add])) rfl ?_
              first
              | (refine WL.val (OV.fieldAddr0 (off := 5) rfl T.u36 rfl) rfl ?_)
              | (refine WL.val (OV.fieldAddr (off := 5) rfl T.u36 rfl) rfl ?_)
              refine WL.storeRow (o := k * 6 + 5) rfl hqb rfl rfl T.z3 (by rw [flat_len igC_len, tuI_length]; omega) ?_
              refine WL.nil ?_
              refine WX.next ?_
              refine WC.region ?_
              refine WL.val (OV.move rfl) rfl ?_
              have hcn : cnI (z.is.take k) ≤ k := cnI_le _ _
              refine WL.val (OV.addN (i := cnI (z.is.take k)) (j := 1) rfl rfl (by omega)) rfl ?_
              refine WL.val (OV.assign rfl) rfl ?_
              refine WL.nil ?_
              refine WX.block_normal ?_
              refine WX.block_normal ?_
              refine WX.next ?_
              refine WC.region ?_
              refine WL.val (OV.move rfl) rfl ?_
              refine WL.val (OV.addN (j := 1) rfl rfl (by omega)) rfl ?_
              refine WL.val (OV.assign rfl) rfl ?_
              refine WL.nil ?_
              have hip : i0.p = 4 := by omega
              exact WX.round1 (k + 1) ⟨rfl, rfl, rfl, rfl, rfl, by rw [cnI_take hi0, hip]; rfl, rfl, trivial⟩ (fun w' hw => ⟨by omega, by
                rw [flat_set igC_len _ k 5 i0 ⟨i0.y, 2⟩ (.int .i64 2) (tuI_get hi0) (by omega) rfl, show (⟨i0.y, 2⟩ : IG) = turnI i0 from by unfold turnI; rw [hip]; rfl, tuI_set hi0] at hw
                exact hw⟩) (by show z.is.length - (k + 1) < z.is.length - k; omega)
            · try simp only [decide_eq_true_eq, decide_eq_false_iff_not, Bool.not_eq_true', Bool.not_eq_false'] at c107
              refine WC.skip ?_
              refine WX.block_normal ?_
              refine WX.block_normal ?_
              refine WX.next ?_
              refine WC.region ?_
              refine WL.val (OV.move rfl) rfl ?_
              refine WL.val (OV.addN (j := 1) rfl rfl (by omega)) rfl ?_
              refine WL.val (OV.assign rfl) rfl ?_
              refine WL.nil ?_
              have hip : i0.p = 1 := by
                have := hz.part i0 hi0m
                omega
              exact WX.round1 (k + 1) ⟨rfl, rfl, rfl, rfl, rfl, by rw [cnI_take hi0, hip]; rfl, rfl, trivial⟩ (fun w' hw => ⟨by omega, by
                rw [tuI_same hi0 (by cases i0; simp only at hip; subst hip; rfl)] at hw
                exact hw⟩) (by show z.is.length - (k + 1) < z.is.length - k; omega)
        · try simp only [decide_eq_true_eq, decide_eq_false_iff_not, Bool.not_eq_true', Bool.not_eq_false'] at c93
          refine WC.exit ?_
          refine WX.then_exit ?_
          refine WX.then_exit ?_
          refine WX.block_hit ?_
          refine WX.next ?_
          refine WC.seq ?_
          have hkl : k = z.is.length := by omega
          rw [hkl, tuI_all]
          refine WC.focus (ow' := baseA z.g ++ ([row 36 6 z.a z.is.length z.c ((z.is.map turnI).flatMap igC), own bb8 (.cells (opB o).toArray 65 (0, 0))] ++ argsA (z.is.map IG.y))) (by exact perm_cat [[row 36 6 z.a z.is.length z.c ((z.is.map turnI).flatMap igC), own bb8 (.cells (opB o).toArray 65 (0, 0))], argsA (z.is.map IG.y), baseA z.g] [2, 0, 1] (by decide) rfl) ?_
          refine WC.region ?_
          refine WL.val (OV.move rfl) rfl ?_
          refine WL.callTA (ι := BaseG) (vs := [ptr z.g.p]) (vv := fun _ => .int .i64 ((n4F (Fis z.is) : Nat) : Int)) (pp := fun g' => BS g' i (Fis (z.is.map turnI)) ∧ g'.p = z.g.p) (baseA z.g) (AA := fun g' => baseA g') rfl (by kernel_rfl) (by rw [hzp]; rfl) rfl (fun w' hw' hH => (bturn_bs z.g i (Fis z.is) hz.bs w' hH).mono (fun en w'' ⟨g', h1, h2, h3⟩ => ⟨g', h1, by rw [← Fis_turn]; exact h2, h3⟩)) ?_
          rintro g1 ⟨bs1, hp1⟩
          have hp1 : g1.p = pg := by rw [hp1, hzp]
          refine WL.val (OV.move rfl) rfl ?_
          refine WL.val (OV.neq rfl rfl) rfl ?_
          refine WL.nil ?_
          refine WX.next ?_
          refine WC.condF (show _ = some (Value.bool false) from by exact congrArg (fun b => some (Value.bool b)) (by rw [n4_Fis, List.take_of_length_le (by omega)]; simp)) ?_
          refine WC.skip ?_
          refine WX.block_normal ?_
          refine WX.block_normal ?_
          refine WX.next ?_
          refine WC.region ?_
          refine WL.val (OV.move rfl) rfl ?_
          refine WL.val (OV.addN (j := 1) rfl rfl (by omega)) rfl ?_
          refine WL.val (OV.assign rfl) rfl ?_
          refine WL.nil ?_
          have em : (z.is.map turnI).map IG.y = z.is.map IG.y := by rw [List.map_map]; rfl
          exact WX.round2 (i + 1) ⟨g1, z.a, z.c, z.is.map turnI⟩ ⟨rfl, rfl, by rw [List.length_map]; rfl, rfl, trivial⟩ (fun w' hw => ⟨⟨by omega, ⟨bs1.mono (by omega), (fun q hq => by
            obtain ⟨p, hp, rfl⟩ := List.mem_map.1 hq
            show (if p.p = 4 then 2 else 1) = 1 ∨ (if p.p = 4 then 2 else 1) = 2 ∨ (if p.p = 4 then 2 else 1) = 4
            split
            · exact .inr (.inl rfl)
            · exact .inl rfl), (fun q hq => by
            obtain ⟨p, hp, rfl⟩ := List.mem_map.1 hq
            exact hz.args p hp), (fun q hq => by
            obtain ⟨p, hp, rfl⟩ := List.mem_map.1 hq
            exact hz.fct p hp)⟩, hp1, by simp; omega⟩, by
            have h2 := hw.pick [baseA g1, [row 36 6 z.a z.is.length z.c ((z.is.map turnI).flatMap igC), own bb8 (.cells (opB o).toArray 65 (0, 0))], argsA (z.is.map IG.y)] [1, 2, 0] 3 rfl (by decide) (by decide)
            have h3 := h2.pick [[row 36 6 z.a z.is.length z.c ((z.is.map turnI).flatMap igC)], [own bb8 (.cells (opB o).toArray 65 (0, 0))], argsA (z.is.map IG.y), baseA g1] [0, 2, 3] 4 rfl (by decide) (by decide)
            unfold rowIt
            rw [em, List.length_map]
            exact h3⟩) (by show os.length - (i + 1) < os.length - i; omega)
      · try simp only [decide_eq_true_eq, decide_eq_false_iff_not, Bool.not_eq_true', Bool.not_eq_false'] at c88
        refine WC.skip ?_
        refine WX.block_normal ?_
        refine WX.block_normal ?_
        refine WX.next ?_
        refine WC.region ?_
        refine WL.val (OV.move rfl) rfl ?_
        refine WL.val (OV.addN (j := 1) rfl rfl (by omega)) rfl ?_
        refine WL.val (OV.assign rfl) rfl ?_
        refine WL.nil ?_
        exact WX.round2 (i + 1) z ⟨rfl, rfl, rfl, rfl, trivial⟩ (fun w' hw => ⟨⟨by omega, ⟨hz.bs.mono (by omega), hz.part, hz.args, hz.fct⟩, hzp, by omega⟩, hw.drop⟩) (by show os.length - (i + 1) < os.length - i; omega)
  · try simp only [decide_eq_true_eq, decide_eq_false_iff_not, Bool.not_eq_true', Bool.not_eq_false'] at c22
    refine WC.exit ?_
    refine WX.then_exit ?_
    refine WX.then_exit ?_
    refine WX.block_hit ?_
    refine WX.next ?_
    refine WC.seq ?_
    refine WC.region ?_
    refine WL.val (OV.move rfl) rfl ?_
    refine WL.val (OV.move rfl) rfl ?_
    refine WL.val (OV.assign rfl) rfl ?_
    refine WL.val (OV.assign rfl) rfl ?_
    refine WL.val (OV.assign rfl) rfl ?_
    refine WL.nil ?_
    refine WX.next ?_
    refine WC.ret ?_
    exact WX.ret3 rfl rfl rfl rfl rfl (fun w' hw => ⟨z, by rw [hzp], ⟨by rw [show os.length = i by omega]; exact hz, by omega⟩, hw.turned0⟩)

end Go.Proofs.YtgiiifadbnpfkaaGreatDoor

namespace Go.Proofs.YtgiiifadbnpfkaaGreatDoor
open Go Go.Hw
set_option linter.unusedSimpArgs false
set_option linter.unusedVariables false
section
open Go.ChangeShapes Go.WideShapes Go.ChangeAt Go.RowKit
variable {H : Type} {enc : TypeId × Value → H} {w : World} {base : Nat} {spare : Nat → Bool} {held : Bool} {r : Reach} {b0 : Nat}
def wtO (o : OpB) : Nat := wtA o.y + 4
set_option maxRecDepth 100000 in
theorem trod_op {fuel : Nat} {cs : List Value} {x : DataW H × List MemPlace} (h : DataW.trod enc Tryz.prog w base spare held fuel 65 cs = some x) :
    ∃ o : OpB, cs = opB o ∧ RT w o.y.a o.y.x.args ∧ wtO o ≤ Rows.uptoBulk x.1 := by
  obtain ⟨xs, n, rfl, rfl, hl, hxs, hf⟩ := DataW.trod_struct T.u65 h
  have hl8 : cs.length = 8 := by rw [hl]; kernel_rfl
  have cI : Program.cellsOf Tryz.prog 3 = 1 := by kernel_rfl
  have cA : Program.cellsOf Tryz.prog 34 = 5 := by kernel_rfl
  have cB : Program.cellsOf Tryz.prog 4 = 1 := by kernel_rfl
  match cs, hl8 with
  | [v0, v1, v2, v3, v4, v5, v6, v7], _ =>
    match xs, hxs with
    | [x0, x1, x2, x3], _ =>
      have k0 : DataW.trod enc Tryz.prog w base spare held n 3 [v0] = some x0 := by
        have k : DataW.trod enc Tryz.prog w base spare held n 3 (List.take (Program.cellsOf Tryz.prog 3) (List.drop 0 [v0, v1, v2, v3, v4, v5, v6, v7])) = some x0 := hf 0 _ rfl
        rw [cI] at k; exact k
      have k1 : DataW.trod enc Tryz.prog w base spare held n 34 [v1, v2, v3, v4, v5] = some x1 := by
        have k : DataW.trod enc Tryz.prog w base spare held n 34 (List.take (Program.cellsOf Tryz.prog 34) (List.drop 1 [v0, v1, v2, v3, v4, v5, v6, v7])) = some x1 := hf 1 _ rfl
        rw [cA] at k; exact k
      have k2 : DataW.trod enc Tryz.prog w base spare held n 3 [v6] = some x2 := by
        have k : DataW.trod enc Tryz.prog w base spare held n 3 (List.take (Program.cellsOf Tryz.prog 3) (List.drop 6 [v0, v1, v2, v3, v4, v5, v6, v7])) = some x2 := hf 2 _ rfl
        rw [cI] at k; exact k
      have k3 : DataW.trod enc Tryz.prog w base spare held n 4 [v7] = some x3 := by
        have k : DataW.trod enc Tryz.prog w base spare held n 4 (List.take (Program.cellsOf Tryz.prog 4) (List.drop 7 [v0, v1, v2, v3, v4, v5, v6, v7])) = some x3 := hf 3 _ rfl
        rw [cB] at k; exact k
      obtain ⟨kind, e0, rfl, w0⟩ := DataW.trod_int T.u3 k0
      obtain ⟨y, e1, r1, b1⟩ := trod_atom k1
      obtain ⟨num, e2, rfl, w2⟩ := DataW.trod_int T.u3 k2
      obtain ⟨other, e3, rfl⟩ := DataW.trod_bool T.u4 k3
      simp only [agC, atC, List.cons.injEq, and_true] at e0 e1 e2 e3
      obtain ⟨rfl, rfl, rfl, rfl, rfl⟩ := e1
      subst e0; subst e2; subst e3
      refine ⟨⟨kind, y, num, other⟩, rfl, r1, ?_⟩
      simp only [List.map_cons, List.map_nil, Rows.uptoBulk, Rows.uptoBulkAll, wtO]
      omega
set_option maxRecDepth 100000 in
theorem open_ops {v : Value} {d : DataW H} {p : List MemPlace} (hv : Value.okWide Tryz.prog w r b0 22 v) (h : DataW.Trod enc Tryz.prog w base spare held 22 v d p) :
    ∃ a c os, v = .slice a os.length c ∧ ROp w a os ∧ (os.map wtO).sum + 1 ≤ Rows.uptoBulk d := by
  obtain ⟨fuel, hf⟩ := h
  obtain ⟨a, c, os, e, ha, hat, hg, hb⟩ := trod_listN (⟨0, ⟨default, none, 0⟩, 0, false⟩ : OpB) (s := 8) T.u22 (by kernel_rfl) opB opB_len (fun o => RT w o.y.a o.y.x.args) wtO (fun fuel cs x hx => by
    obtain ⟨o, e, h1, h2⟩ := trod_op hx
    exact ⟨o, e, h1, h2⟩) hf
  exact ⟨a, c, os, slice_of_ok (P := Tryz.prog) T.u22 hv e, ⟨ha, hat, hg⟩, hb⟩
theorem ops_ok {os : List OpB} (h : (os.map wtO).sum + 1 ≤ 1048576) : OBs os := by
  have h1 := len_wt wtO (k := 1) (fun y => by unfold wtO; omega) os
  refine ⟨by omega, fun o ho => ?_, fun o ho => ?_⟩
  · have h2 := le_sum wtO ho
    have h3 : o.y.x.args.length ≤ wtO o := by unfold wtO wtA; omega
    omega
  · have h2 := le_sum wtO ho
    have h3 : o.y.x.name.size ≤ wtO o := by unfold wtO wtA; omega
    omega
end

end Go.Proofs.YtgiiifadbnpfkaaGreatDoor

namespace Go.Proofs.YtgiiifadbnpfkaaGreatDoor
open Go Go.Hw
set_option linter.unusedSimpArgs false
set_option linter.unusedVariables false
section
open Go.ChangeShapes Go.WideShapes Go.ChangeAt Go.RowKit
variable {H : Type} {enc : TypeId × Value → H} {w : World} {base : Nat} {spare : Nat → Bool} {held : Bool} {r : Reach} {b0 : Nat}
set_option maxRecDepth 100000 in
theorem open_atom {v : Value} {d : DataW H} {p : List MemPlace} (hv : Value.okWide Tryz.prog w r b0 34 v) (h : DataW.Trod enc Tryz.prog w base spare held 34 v d p) :
    ∃ y : AG, v = atV y.x y.a y.c ∧ RT w y.a y.x.args ∧ wtA y ≤ Rows.uptoBulk d := by
  obtain ⟨fuel, hf⟩ := h
  obtain ⟨y, e, h1, h2⟩ := trod_atom hf
  have ha : ∃ cs, v = .agg cs := by
    unfold Value.okWide at hv
    rw [T.u34] at hv
    cases v <;> simp_all
  obtain ⟨cs, rfl⟩ := ha
  refine ⟨y, ?_, h1, h2⟩
  have e2 : cs.toList = agC y := e
  show Value.agg cs = Value.agg (atC y.x y.a y.c).toArray
  rw [show cs = (agC y).toArray from by rw [← e2]]
  rfl
end

end Go.Proofs.YtgiiifadbnpfkaaGreatDoor

namespace Go.Proofs.YtgiiifadbnpfkaaGreatDoor
open Go Go.Hw
set_option linter.unusedSimpArgs false
set_option linter.unusedVariables false
end Go.Proofs.YtgiiifadbnpfkaaGreatDoor
namespace Go.Hw
open Go Go.RowKit Go.Proofs Go.Shelf
section
variable {P : Program} {ρ : Ren} {w : World} {T : TypeId} {b c : Nat}
/-- slices.pdqsortCmpFunc, on a row of the call's own: structs of k cells; cmp reads, and may lay blocks. -/
theorem pdqK_calls (L : SlLaysF0.n14 P ρ) {α : Type} [Inhabited α] (k : Nat) (hag : (P.underlying (ρ.t 24)).map aggD = some true) (hz : P.sz (ρ.t 24) = some k) (enc : α → List Value) (hk : ∀ x, (enc x).length = k) (h1 : ∀ x, ∀ v ∈ enc x, v.oneCell' = true) (cf : α → α → Int) (hO : Go.Sort.SWO (ltOf cf)) (g : Nat) (hg : bodied P g = true) (b : Nat) (xs : List α) (limit : Nat) (hlim : limit < 4611686018427387904) (w : World)
    (hA : Holds [row T k (some ⟨b, 0, none⟩) xs.length c (xs.flatMap enc)] w) (hcmp : ∀ w', Fr (fun i => i = b) w w' → ∀ x y, Calls P g #[.agg (enc x).toArray, .agg (enc y).toArray] w' fun e w'' => e = .returned (.int .i64 (cf x y)) ∧ Fr0 w' w'') (hsz : xs.length < 4611686018427387904) :
    Calls P (ρ.f 14) #[.slice (some ⟨b, 0, none⟩) xs.length c, .int .i64 0, .int .i64 (xs.length : Int), .int .i64 (limit : Int), .func (.func g) #[] #[]] w fun e w' => e = .returned (.tuple #[]) ∧ ∃ ys : List α, ys.Perm xs ∧ ys.Pairwise (fun x y => ltOf cf y x = false) ∧
      Turns [row T k (some ⟨b, 0, none⟩) xs.length c (xs.flatMap enc)] [row T k (some ⟨b, 0, none⟩) ys.length c (ys.flatMap enc)] w w' := by
  have hφ := hA.φ _ (.head _)
  have hlt : b < w.heap.size := hA.lt _ (.head _) b ⟨_, rfl, rfl⟩
  obtain ⟨d, hu, hd⟩ := Option.map_eq_some_iff.1 hag
  have hflat : Go.Sort.flatK enc k xs.toArray = (xs.flatMap enc).toArray := by
    apply Array.toList_inj.1
    rw [flat_flatK hk]
  have e0 : xs.toArray.size = xs.length := by simp
  have hcon := AnyQ.pdqsortCmpFunc_all (P := P) (ρ := ρ) L k (fun w => by rw [run_isAgg hu, hd]) (fun w => Hw.run_sizeOf hz w) enc cf g #[] hO b 0 c xs.toArray w (fun args w => enters_bodied hg args w)
    (fun m os dk hs x y => (hcmp _ (sort_frK (F := Go.Sort.flatK enc k dk) (n := m) (os := os)) x y).mono fun e w' ⟨he, hw⟩ => ⟨he, Fr.grown hw⟩)
    ⟨hk, h1, (show Go.Sort.Holds id w b 0 (Go.Sort.flatK enc k xs.toArray) by rw [hflat]; exact row_holdsK hφ), hlt⟩
    (xs.toArray.size + 1) 0 xs.toArray.size limit xs.toArray w (by omega) rfl (SWK.start (show Go.Sort.Holds id w b 0 (Go.Sort.flatK enc k xs.toArray) by rw [hflat]; exact row_holdsK hφ)) (Nat.zero_le _) (Nat.le_refl _) (by simpa using hsz) hlim (Or.inl rfl)
  rw [e0] at hcon
  refine hcon.mono ?_
  rintro e w' ⟨rfl, n, os, rfl⟩
  have hso := Go.Sort.pdq_sorts (ltOf cf) hO xs.toArray 0 xs.length limit true true (Nat.zero_le _) (by simp) (Or.inl rfl)
  obtain ⟨d', hd'⟩ : ∃ d', d' = Go.Sort.pdq (ltOf cf) xs.toArray 0 xs.length limit true true := ⟨_, rfl⟩
  rw [← hd'] at hso
  rw [← hd']
  obtain ⟨hp1, hp2⟩ := permIn_perm (d := xs.toArray) (by rw [e0]; exact hso.1)
  have hl : d'.toList.length = xs.length := by rw [Array.length_toList, hp2, e0]
  refine ⟨rfl, d'.toList, by simpa using hp1, sortedIn_pairwise (by rw [hp2, e0]) hso.2, ?_⟩
  have ht := sort_turnsK (T := T) (c := c) (F := Go.Sort.flatK enc k d') (n := n) (os := os) hA (by rw [Go.Sort.size_flatK, hp2, e0])
  rw [flat_flatK hk] at ht
  rw [hl]
  exact ht
end
end Go.Hw
namespace Go.Proofs.YtgiiifadbnpfkaaGreatDoor
open Go Go.Hw

theorem bitsLen_calls (n : Nat) (hn : n < 4611686018427387904) (w : World) : Calls Tryz.prog 68 #[.int .u64 (n : Int)] w fun e w' => e = .returned (.int .i64 ((Lib.bitLen n : Nat) : Int)) ∧ w' = w := by
  have h := Any.bits_Len (SlLaysF0.n15.bits Go.Proofs.Tryz.bitsLen) (n : Int) w (by omega) (by omega)
  rwa [Int.toNat_natCast] at h
/-- A bind, as it lies. -/
structure Bd where
  v : Int
  t : Tm
instance : Inhabited Bd := ⟨⟨0, T0⟩⟩
def bdC (x : Bd) : List Value := .int .i64 x.v :: tmC x.t
theorem bdC_len (x : Bd) : (bdC x).length = 4 := rfl
theorem bdC_one (x : Bd) : ∀ v ∈ bdC x, v.oneCell' = true := by simp [bdC, tmC, Value.oneCell']
abbrev rowB (a : Option Addr) (c : Nat) (ys : List Bd) : Hw.Item := row 103 4 a ys.length c (ys.flatMap bdC)
def cmpB (x y : Bd) : Int := cmpN x.v y.v
theorem cmpB_swo : Go.Sort.SWO (Go.Proofs.ltOf cmpB) := ⟨fun a => cmpN_ok.swo.irrefl a.v, fun a b c => cmpN_ok.swo.trans a.v b.v c.v, fun a b c => cmpN_ok.swo.ntrans a.v b.v c.v⟩
theorem Fr0.of_eq {w w' : World} (h : w' = w) : Fr0 w w' := by subst h; exact Fr.refl _ _

set_option maxRecDepth 10000 in
theorem cmpB_calls (x y : Bd) (w : World) : Calls Tryz.prog 77 #[.agg (bdC x).toArray, .agg (bdC y).toArray] w fun e w' => e = .returned (.int .i64 (cmpB x y)) ∧ Fr0 w w' := by
  refine enterS (args := [.agg (bdC x).toArray, .agg (bdC y).toArray]) (fun _ => False) Tryz.func77 rfl Tryz.ntmps77 rfl rfl ?_
  refine WC.seq ?_
  refine WC.region ?_
  refine WL.box rfl rfl rfl ?_
  intro b2
  refine WL.box rfl rfl rfl ?_
  intro b3
  refine WL.val (OV.assign rfl) rfl ?_
  refine WL.nil ?_
  refine WX.next ?_
  refine WC.seq ?_
  refine WC.region ?_
  first
  | (refine WL.val (OV.fieldAddr0 (off := 0) rfl T.u103 rfl) rfl ?_)
  | (refine WL.val (OV.fieldAddr (off := 0) rfl T.u103 rfl) rfl ?_)
  refine WL.val (OV.load1 (v := .int .i64 x.v) rfl T.u3 rfl (fun _ hw => (cell_at (hw.it _ (.tail _ (.head _))) (o := 0) rfl).1)) rfl ?_
  first
  | (refine WL.val (OV.fieldAddr0 (off := 0) rfl T.u103 rfl) rfl ?_)
  | (refine WL.val (OV.fieldAddr (off := 0) rfl T.u103 rfl) rfl ?_)
  refine WL.val (OV.load1 (v := .int .i64 y.v) rfl T.u3 rfl (fun _ hw => (cell_at (hw.it _ (.head _)) (o := 0) rfl).1)) rfl ?_
  refine WL.call0 (v := .int .i64 (cmpN x.v y.v)) (by kernel_rfl) rfl rfl (fun w' hw' => cmpN_calls _ _ w') ?_
  refine WL.val (OV.assign rfl) rfl ?_
  refine WL.nil ?_
  refine WX.next ?_
  refine WC.ret ?_
  exact WX.ret1 rfl rfl rfl (fun w' hw => ⟨rfl, hw.fr⟩)

set_option maxRecDepth 10000 in
theorem sortB_calls (b : Nat) (c : Nat) (xs : List Bd) (hl : xs.length ≤ 1099511627776) (w : World) (hA : Holds [rowB (some ⟨b, 0, none⟩) c xs] w) : Calls Tryz.prog 76 #[.slice (some ⟨b, 0, none⟩) xs.length c, .func (.func 77) #[] #[]] w fun e w' => e = .returned (.tuple #[]) ∧ ∃ ys : List Bd, ys.Perm xs ∧ Turns [rowB (some ⟨b, 0, none⟩) c xs] [rowB (some ⟨b, 0, none⟩) c ys] w w' := by
  refine enterA hA (args := [.slice (some ⟨b, 0, none⟩) xs.length c, .func (.func 77) #[] #[]]) Tryz.func76 rfl Tryz.ntmps76 rfl rfl ?_
  refine WC.seq ?_
  refine WC.region ?_
  refine WL.val (OV.move rfl) rfl ?_
  first
  | (refine WL.val (OV.lenSlice rfl T.u48) rfl ?_)
  | (refine WL.val (OV.lenStr rfl T.u48) rfl ?_)
  refine WL.val (OV.assign rfl) rfl ?_
  refine WL.nil ?_
  refine WX.next ?_
  refine WC.region ?_
  refine WL.val (OV.move rfl) rfl ?_
  refine WL.val (OV.move rfl) rfl ?_
  refine WL.val (OV.move rfl) rfl ?_
  first
  | (refine WL.val (OV.conv8_32 T.u3 T.u125 rfl) rfl ?_)
  | (refine WL.val (OV.conv32_8 T.u3 T.u125 rfl) rfl ?_)
  | (refine WL.val (OV.convI T.u3 T.u125 rfl (by omega)) rfl ?_)
  | (refine WL.val (OV.convU64 T.u3 T.u125 rfl (by omega)) rfl ?_)
  | (refine WL.val (OV.conv T.u3 T.u125 rfl) rfl ?_)
  refine WL.call0 (v := .int .i64 ((Lib.bitLen xs.length : Nat) : Int)) (by kernel_rfl) rfl rfl (fun w' hw' => (bitsLen_calls xs.length (by omega) w').mono (fun en w'' ⟨h1, h2⟩ => ⟨h1, Fr0.of_eq h2⟩)) ?_
  refine WL.val (OV.move rfl) rfl ?_
  have hlim : Lib.bitLen xs.length < 4611686018427387904 := Nat.lt_of_le_of_lt (Lib.bitLen_le xs.length 62 (by omega) (by omega)) (by omega)
  refine WL.callTA (ι := List Bd) (vs := [.slice (some ⟨b, 0, none⟩) xs.length c, .int .i64 0, .int .i64 (xs.length : Int), .int .i64 ((Lib.bitLen xs.length : Nat) : Int), .func (.func 77) #[] #[]]) (vv := fun _ => .tuple #[]) (pp := fun ys => ys.Perm xs) [rowB (some ⟨b, 0, none⟩) c xs] (AA := fun ys => [rowB (some ⟨b, 0, none⟩) c ys]) rfl (by kernel_rfl) rfl rfl (fun w' hw' hH => (pdqK_calls (P := Tryz.prog) Go.Proofs.Tryz.sortB (T := 103) (c := c) 4 (by kernel_rfl) T.z103 bdC bdC_len bdC_one cmpB cmpB_swo 77 (by kernel_rfl) b xs (Lib.bitLen xs.length) hlim w' hH (fun w2 _ x y => cmpB_calls x y w2) (by omega)).mono (fun en w'' ⟨h1, ys, h2, h3, h4⟩ => ⟨ys, h1, h2, h4⟩)) ?_
  rintro ys hys
  refine WL.nil ?_
  exact WX.ret0 rfl rfl (fun w' hw => ⟨rfl, ys, hys, hw.turned⟩)

end Go.Proofs.YtgiiifadbnpfkaaGreatDoor

namespace Go.Proofs.YtgiiifadbnpfkaaGreatDoor
open Go Go.Hw
set_option linter.unusedSimpArgs false
set_option linter.unusedVariables false
end Go.Proofs.YtgiiifadbnpfkaaGreatDoor
namespace Go.Hw
open Go Go.RowKit Go.Proofs
section
variable {P : Program} {w0 ws : World} {M I : Nat → Prop} {ow : List Item} {ops : Array Oper} {Q : Post} {n : Nat} {ds : DS} {e : Env} {rest : List Oper}
/-- make([]T, 0, m): an empty row with room for m. -/
theorem WL.makeRow0 {t lt T : TypeId} {p : String} {af : Array Edge} {k m s : Nat} {x y : Operand} {zs : Array Value} {bytes : Nat}
    (hx : ev e x = some (.int .i64 0)) (hy : ev e y = some (.int .i64 (m : Int))) (hu : P.underlying lt = some (.slice T)) (hz : P.sz T = some s) (hzr : P.zr T = some zs) (hb : (P.info? T).map (·.bytes) = some bytes) (hm : bytes * m ≤ 281474976710656 ∧ m ≤ 9223372036854775807 ∧ m ≤ maxLen) (hk : Nat.blt k n = true)
    (h : ∀ b, WL P ops Q n ds ((k, .slice (some ⟨b, 0, none⟩) 0 m) :: e) (Sat w0 M I ws (row T s (some ⟨b, 0, none⟩) 0 m [] :: ow)) rest) :
    WL P ops Q n ds e (Sat w0 M I ws ow) (⟨some k, .makeSlice lt x y, t, p, af, none⟩ :: rest) := by
  refine WL.runX (ι := Nat) (vv := fun b => .slice (some ⟨b, 0, none⟩) 0 m) (SS := fun b => Sat w0 M I ws (row T s (some ⟨b, 0, none⟩) 0 m [] :: ow)) ?_ hk h
  intro a w ha hw
  unfold Program.sz at hz
  unfold Program.zr at hzr
  obtain ⟨i, hi, hsz⟩ := Option.map_eq_some_iff.1 hz
  obtain ⟨i2, hi2, h2⟩ := Option.bind_eq_some_iff.1 hzr
  obtain ⟨zv, hzv, hzc⟩ := Option.map_eq_some_iff.1 h2
  obtain ⟨i3, hi3, hby⟩ := Option.map_eq_some_iff.1 hb
  obtain rfl := Option.some.inj (hi.symm.trans hi2)
  obtain rfl := Option.some.inj (hi.symm.trans hi3)
  have hr := run_make (P := P) w lt T i zv hu hi hzv .i64 .i64 0 (m : Int) (by omega) (by omega) (by
    have h' : ((bytes * m : Nat) : Int) ≤ ((281474976710656 : Nat) : Int) := Int.ofNat_le.2 hm.1
    rw [Int.natCast_mul] at h'
    rw [hby]
    exact h') (by omega)
  have hrow : (row T s (some ⟨w.heap.size, 0, none⟩) 0 m []).φ (w.alloc (.cells (madeCells zv.cells ((m : Int).toNat * i.size)) T)) := by
    refine ⟨by simp, .inr ⟨w.heap.size, m, madeCells zv.cells ((m : Int).toNat * i.size), rfl, Nat.zero_le _, own_alloc _ _, Nat.zero_le _, hm.2.2, ?_, by simp⟩⟩
    rw [Int.toNat_natCast, hsz]; simp [madeCells]
  refine ⟨w.heap.size, w.alloc (.cells (madeCells zv.cells ((m : Int).toNat * i.size)) T), ?_, hw.fresh (Fr.alloc _ _) hrow (fun b hb => ?_)⟩
  · simp [execOp, ha.eval hx, ha.eval hy, hr]
  · obtain ⟨q, hq, rfl⟩ := hb
    cases hq
    simp
end
end Go.Hw
namespace Go.Proofs.YtgiiifadbnpfkaaGreatDoor
open Go Go.Hw

def kvT (l : List (Int × Tm)) : List (Int × Value) := l.map fun q => (q.1, tmV q.2)
abbrev iV (k : Int) : Value := .int .i64 k
theorem kvT_len (l : List (Int × Tm)) : (kvT l).length = l.length := by simp [kvT]
theorem kvT_get {l : List (Int × Tm)} {i : Nat} {q : Int × Value} (h : (kvT l)[i]? = some q) : ∃ x, l[i]? = some x ∧ x ∈ l ∧ q = (x.1, tmV x.2) ∧ i < l.length := by
  unfold kvT at h
  rw [List.getElem?_map] at h
  obtain ⟨x, hx, rfl⟩ := Option.map_eq_some_iff.1 h
  exact ⟨x, hx, List.mem_of_getElem? hx, rfl, (List.getElem?_eq_some_iff.1 hx).1⟩
theorem Vs.count {α : Type} {rs : List α} {vis : List Nat} (h : Vs rs vis) : vis.length ≤ rs.length := by
  have h2 : vis.Perm ((List.range rs.length).filter fun i => decide (i ∈ vis)) := (List.perm_ext_iff_of_nodup h.nd (List.nodup_range.filter _)).2 fun i => by
    simp only [List.mem_filter, List.mem_range, decide_eq_true_eq]
    exact ⟨fun hi => ⟨h.lt i hi, hi⟩, fun hi => hi.2⟩
  rw [h2.length_eq]
  exact Nat.le_trans (List.length_filter_le _ _) (by simp)
theorem T.apBd : appB Tryz.prog 48 103 4 40 = true := by kernel_rfl

set_option maxRecDepth 10000 in
theorem sorted_calls (mb : Nat) (l : List (Int × Tm)) (hl : l.length ≤ 1048576) (w : World) (hM : w.heap[mb]? = some (mapK iV (kvT l))) : Calls Tryz.prog 50 #[.map (some mb)] w fun e w' => ∃ b c ys, e = .returned (.slice (some ⟨b, 0, none⟩) ys.length c) ∧ Turns [] [rowB (some ⟨b, 0, none⟩) c ys] w w' := by
  refine enterS (args := [.map (some mb)]) (fun _ => False) Tryz.func50 rfl Tryz.ntmps50 rfl rfl ?_
  refine WC.seq ?_
  refine WC.region ?_
  refine WL.val (OV.assign rfl) rfl ?_
  refine WL.nil ?_
  refine WX.next ?_
  refine WC.seq ?_
  refine WC.region ?_
  refine WL.val (OV.move rfl) rfl ?_
  refine WL.val (OV.lenMap T.u101 rfl (fun _ hw => ((hw.snap mb (Array.getElem?_eq_some_iff.1 hM).1).2.trans hM))) rfl ?_
  refine WL.makeRow0 (m := l.length) (bytes := 40) rfl (by rw [kvT_len]; rfl) T.u48 T.z103 T.zr103 (by kernel_rfl) ⟨by omega, by omega, by unfold maxLen; omega⟩ rfl ?_
  intro b8
  refine WL.val (OV.assign rfl) rfl ?_
  refine WL.nil ?_
  refine WX.next ?_
  refine WC.seq ?_
  refine WC.seq ?_
  refine WC.region ?_
  refine WL.val (OV.move rfl) rfl ?_
  refine WL.range T.u101 rfl (fun _ hw => ((hw.snap mb (Array.getElem?_eq_some_iff.1 hM).1).2.trans hM)) rfl ?_
  intro it10
  refine WL.nil ?_
  refine WX.next ?_
  refine WC.block ?_
  refine WC.loop4 (fun (vis : List Nat) (la : Option Addr) (lc : Nat) (ys : List Bd) => [(0, .map (some mb)), (3, .slice la ys.length lc), (10, .pointer (some ⟨it10, 0, none⟩))])
      (fun vis la lc ys w' => (Vs l vis ∧ ys.length = vis.length ∧ ((∃ b, la = some ⟨b, 0, none⟩) ∨ 0 < ys.length)) ∧ Sat w (fun _ => False) (fun b => b < w.heap.size) w (own it10 (iterK mb (kvT l).length vis) :: rowB la lc ys :: []) w') (fun vis _ _ _ => unseen (kvT l).length vis) [] (some ⟨b8, 0, none⟩) l.length [] ⟨rfl, rfl, rfl, trivial⟩ (fun w' hw => ⟨⟨Vs.start _, rfl, .inl ⟨_, rfl⟩⟩, hw.perm (List.Perm.of_eq (by first | rfl | (simp; rfl)))⟩) ?_
  intro vis la lc ys
  refine WC.pure (fun hi => ?_)
  obtain ⟨hvs, hyl, hla⟩ := hi
  have hvc0 := hvs.count
  refine WC.seq ?_
  refine WC.region ?_
  refine WL.next (enc := iV) (kv := kvT l) rfl rfl (fun _ hw => ((hw.snap mb (Array.getElem?_eq_some_iff.1 hM).1).2.trans hM)) ?_ ?_
  · intro hall
    refine WL.val (OV.extract rfl rfl) rfl ?_
    refine WL.nil ?_
    refine WX.next ?_
    refine WC.seq ?_
    refine WC.condF rfl ?_
    refine WC.exit ?_
    refine WX.then_exit ?_
    refine WX.then_exit ?_
    refine WX.block_hit ?_
    refine WX.next ?_
    refine WC.seq ?_
    refine WC.know (fun w' hw => (show ∃ b, la = some ⟨b, 0, none⟩ from by
      rcases hla with h | h
      · exact h
      · exact row_addrK (hw.it (rowB la lc ys) (.tail _ (.head _))) (by omega))) (fun hla2 => ?_)
    obtain ⟨bq, rfl⟩ := hla2
    refine WC.region ?_
    refine WL.val (OV.move rfl) rfl ?_
    refine WL.focus (ow' := rowB (some ⟨bq, 0, none⟩) lc ys :: own it10 (iterK mb (kvT l).length vis) :: []) perm1 ?_
    refine WL.callTA (ι := List Bd) (vs := [.slice (some ⟨bq, 0, none⟩) ys.length lc, .func (.func 77) #[] #[]]) (vv := fun _ => .tuple #[]) (pp := fun zs => zs.Perm ys) [rowB (some ⟨bq, 0, none⟩) lc ys] (AA := fun zs => [rowB (some ⟨bq, 0, none⟩) lc zs]) rfl (by kernel_rfl) rfl rfl (fun w' hw' hH => (sortB_calls bq lc ys (by omega) w' hH).mono (fun en w'' ⟨h1, zs, h2, h3⟩ => ⟨zs, h1, h2, h3⟩)) ?_
    rintro zs hzs
    have hzl : zs.length = ys.length := hzs.length_eq
    refine WL.nil ?_
    refine WX.next ?_
    refine WC.seq ?_
    refine WC.region ?_
    refine WL.val (OV.move rfl) rfl ?_
    refine WL.val (OV.assign rfl) rfl ?_
    refine WL.nil ?_
    refine WX.next ?_
    refine WC.ret ?_
    refine WX.ret1 rfl rfl (by rw [← hzl]; rfl) (fun w' hw => ⟨bq, lc, zs, rfl, ?_⟩)
    exact (hw.pick [[rowB (some ⟨bq, 0, none⟩) lc zs], [own it10 (iterK mb (kvT l).length vis)]] [0] 2 rfl (by decide) (by decide)).turned0
  · intro i q hi2 hv
    obtain ⟨x, hx, hxm, rfl, hil⟩ := kvT_get hi2
    refine WL.val (OV.extract rfl rfl) rfl ?_
    refine WL.nil ?_
    refine WX.next ?_
    refine WC.seq ?_
    refine WC.condT rfl ?_
    refine WC.skip ?_
    refine WX.next ?_
    refine WC.block ?_
    refine WC.seq ?_
    refine WC.region ?_
    refine WL.val (OV.entry (enc := iV) (kv := kvT l) (i := i) rfl (fun _ hw => hw.it _ (.head _)) (fun _ hw => ((hw.snap mb (Array.getElem?_eq_some_iff.1 hM).1).2.trans hM)) hi2) rfl ?_
    refine WL.val (OV.extract rfl rfl) rfl ?_
    refine WL.val (OV.extract rfl rfl) rfl ?_
    refine WL.alloc T.zr31 rfl ?_
    intro b5
    refine WL.val (OV.assign rfl) rfl ?_
    refine WL.storeAll (vs := tmC x.2) rfl rfl rfl T.z31 rfl ?_
    refine WL.nil ?_
    refine WX.next ?_
    refine WC.region ?_
    refine WL.val (OV.move rfl) rfl ?_
    refine WL.val (OV.move rfl) rfl ?_
    refine WL.val (OV.loadN (cs := tmC x.2) rfl T.u31 rfl T.z31 (fun _ hw j v hj => by rw [add_off, Nat.zero_add]; exact own_cells hw (.head _) j v hj)) rfl ?_
    refine WL.val (OV.buildStruct (xs := [(0, .tmp 17), (1, .tmp 18)]) (pl := [(0, 1), (1, 3)]) (cs := bdC ⟨x.1, x.2⟩) T.u103 T.zr103 (by kernel_rfl) rfl (fill_cons (us := [_]) rfl rfl (Nat.le_of_ble_eq_true rfl) (fill_cons (us := tmC x.2) rfl rfl (Nat.le_of_ble_eq_true rfl) rfl))) rfl ?_
    refine WL.buildSliceA (cs := bdC ⟨x.1, x.2⟩) T.u48 T.z103 T.zr103 rfl rfl (by omega) (by omega) rfl ?_
    intro b20
    have hvc := hvs.count
    refine WL.focus (ow' := rowB la lc ys :: own b20 (.cells (bdC ⟨x.1, x.2⟩).toArray 103 (0, 0)) :: own b5 (.cells (tmC x.2).toArray 31 (0, 0)) :: own it10 (iterK mb (kvT l).length (vis ++ [i])) :: []) (perm_pick [_, _, _, _] [3, 0, 1, 2] (by decide) rfl) ?_
    refine WL.append (news := bdC ⟨x.1, x.2⟩) rfl rfl T.apBd (fun _ _ => own_srcN (.tail _ (.head _)) rfl) (bdC_one _) ⟨by omega, by unfold maxLen; omega⟩ rfl ?_
    intro a21 c21
    refine WL.val (OV.assign rfl) rfl ?_
    refine WL.nil ?_
    refine WX.block_normal ?_
    have el : ys.length + 1 = (ys ++ [(⟨x.1, x.2⟩ : Bd)]).length := by simp
    have ef : ys.flatMap bdC ++ bdC ⟨x.1, x.2⟩ = (ys ++ [(⟨x.1, x.2⟩ : Bd)]).flatMap bdC := by simp
    exact WX.round4 (vis ++ [i]) a21 c21 (ys ++ [⟨x.1, x.2⟩]) ⟨rfl, by rw [← el]; rfl, rfl, trivial⟩ (fun w' hw => ⟨⟨hvs.step hil hv, by simp [hyl], .inr (by simp)⟩, by
      rw [el, ef] at hw
      exact hw.pick [[rowB a21 c21 (ys ++ [⟨x.1, x.2⟩])], [own b20 (.cells (bdC ⟨x.1, x.2⟩).toArray 103 (0, 0))], [own b5 (.cells (tmC x.2).toArray 31 (0, 0))], [own it10 (iterK mb (kvT l).length (vis ++ [i]))]] [3, 0] 4 rfl (by decide) (by decide)⟩) (unseen_lt (by rw [kvT_len]; exact hil) hv)

end Go.Proofs.YtgiiifadbnpfkaaGreatDoor

namespace Go.Proofs.YtgiiifadbnpfkaaGreatDoor
open Go Go.Hw
set_option linter.unusedSimpArgs false
set_option linter.unusedVariables false
def gotT : List (Int × Tm) → Int → Option Tm
  | [], _ => none
  | q :: l, a => if a = q.1 then some q.2 else gotT l a
def upsT : List (Int × Tm) → Int → Tm → List (Int × Tm)
  | [], a, t => [(a, t)]
  | q :: l, a, t => if a = q.1 then (a, t) :: l else q :: upsT l a t
theorem got_kvT (l : List (Int × Tm)) (a : Int) : got (kvT l) a = (gotT l a).map tmV := by
  have key : ∀ (l : List (Int × Tm)) (i : Nat), (spot (kvT l) a i).map (·.2) = (gotT l a).map tmV := by
    intro l
    induction l with
    | nil => intro i; rfl
    | cons q l ih =>
      intro i
      show (if a = q.1 then some (i, tmV q.2) else spot (kvT l) a (i + 1)).map (·.2) = (if a = q.1 then some q.2 else gotT l a).map tmV
      by_cases h : a = q.1
      · rw [if_pos h, if_pos h]; rfl
      · rw [if_neg h, if_neg h]; exact ih (i + 1)
  exact key l 0
theorem ups_kvT (a : Int) (t : Tm) : ∀ l : List (Int × Tm), ups (kvT l) a (tmV t) = kvT (upsT l a t)
  | [] => rfl
  | q :: l => by
    show (if a = q.1 then (a, tmV t) :: kvT l else (q.1, tmV q.2) :: ups (kvT l) a (tmV t)) = kvT (if a = q.1 then (a, t) :: l else q :: upsT l a t)
    by_cases h : a = q.1
    · rw [if_pos h, if_pos h]; rfl
    · rw [if_neg h, if_neg h, ups_kvT a t l]; rfl
theorem upsT_len (a : Int) (t : Tm) : ∀ l : List (Int × Tm), (upsT l a t).length ≤ l.length + 1
  | [] => by simp [upsT]
  | q :: l => by
    have := upsT_len a t l
    unfold upsT
    split <;> simp <;> omega
/-- What makes the pattern's places into the atom's. -/
def matchGo : List (Int × Tm) → List Tm → List Tm → Bool
  | _, [], _ => true
  | _, _ :: _, [] => true
  | m, t :: ts, u :: us => if varB t = false then (if t = u then matchGo m ts us else false) else if (gotT m t.n).isSome ∧ (gotT m t.n).getD T0 ≠ u then false else matchGo (upsT m t.n u) ts us
def plc (x : At) : List Tm := x.b :: x.args
def matchB (p x : At) : Bool := decide (p.name = x.name ∧ p.args.length = x.args.length ∧ ¬ (varB p.b = true ∧ x.b.kind = 0)) && matchGo [] (plc p) (plc x)
theorem go_drop {m : List (Int × Tm)} {ts us : List Tm} {i : Nat} {t u : Tm} (h1 : ts[i]? = some t) (h2 : us[i]? = some u) : matchGo m (ts.drop i) (us.drop i) = if varB t = false then (if t = u then matchGo m (ts.drop (i + 1)) (us.drop (i + 1)) else false) else if (gotT m t.n).isSome ∧ (gotT m t.n).getD T0 ≠ u then false else matchGo (upsT m t.n u) (ts.drop (i + 1)) (us.drop (i + 1)) := by
  rw [drop_cons h1, drop_cons h2]; rfl
theorem intKey : KeyLaw Tryz.prog 3 iV := KeyLaw.int T.u3

set_option maxRecDepth 10000 in
theorem places_calls (x : At) (a : Option Addr) (c : Nat) (hl : x.args.length ≤ 1048576) (w : World) (hr : RT w a x.args) : Calls Tryz.prog 49 #[atV x a c] w fun e w' => ∃ b lc, e = .returned (.slice (some ⟨b, 0, none⟩) (plc x).length lc) ∧ Turns [] [rowT (some ⟨b, 0, none⟩) lc (plc x)] w w' := by
  refine enterS (args := [atV x a c]) (fun _ => False) Tryz.func49 rfl Tryz.ntmps49 rfl rfl ?_
  refine WC.seq ?_
  refine WC.region ?_
  refine WL.box rfl rfl rfl ?_
  intro b1
  refine WL.val (OV.assign rfl) rfl ?_
  refine WL.nil ?_
  refine WX.next ?_
  refine WC.seq ?_
  refine WC.region ?_
  first
  | (refine WL.val (OV.fieldAddr0 (off := 0) rfl T.u34 rfl) rfl ?_)
  | (refine WL.val (OV.fieldAddr (off := 0) rfl T.u34 rfl) rfl ?_)
  refine WL.val (OV.loadN (cs := tmC x.b) rfl T.u31 rfl T.z31 (fun _ hw j v hj => by rw [add_off]; exact own_part hw (.head _) (o := 0) (cs' := tmC x.b) rfl j v hj)) rfl ?_
  refine WL.buildSliceA (cs := tmC x.b) T.u32 T.z31 T.zr31 rfl rfl (by omega) (by omega) rfl ?_
  intro b5
  refine WL.weak (S' := Sat w (fun _ => False) (fun b => b < w.heap.size) w (row 31 3 (some ⟨b5, 0, none⟩) 1 1 (tmC x.b) :: own b1 (.cells (atC x a c).toArray 34 (0, 0)) :: [])) (fun w' hw => hw.asRow (m := 1) rfl (by decide)) ?_
  first
  | (refine WL.val (OV.fieldAddr0 (off := 4) rfl T.u34 rfl) rfl ?_)
  | (refine WL.val (OV.fieldAddr (off := 4) rfl T.u34 rfl) rfl ?_)
  refine WL.val (OV.load1 (v := .slice a x.args.length c) rfl T.u32 rfl (fun _ hw => (cell_at (hw.it _ (.tail _ (.head _))) (o := 4) rfl).1)) rfl ?_
  refine WL.append (news := x.args.flatMap tmC) rfl rfl T.apT (fun _ _ => Src.of_rt hr.nil (fun _ hw => hr.keeps hw.keeps)) (tms_one _) ⟨by omega, by unfold maxLen; omega⟩ rfl ?_
  intro a8 c8
  refine WL.val (OV.assign rfl) rfl ?_
  refine WL.nil ?_
  refine WX.next ?_
  refine WC.ret ?_
  have el : 1 + x.args.length = (plc x).length := by simp [plc]; omega
  have ef : tmC x.b ++ x.args.flatMap tmC = (plc x).flatMap tmC := rfl
  rw [el, ef]
  refine WX.know (fun w' hw => (show ∃ b, a8 = some ⟨b, 0, none⟩ from row_addrK (hw.it (rowT a8 c8 (plc x)) (.head _)) (by simp [plc]))) (fun hq => ?_)
  obtain ⟨bq, rfl⟩ := hq
  exact WX.ret1 rfl rfl rfl (fun w' hw => ⟨bq, c8, rfl, (hw.pick [[rowT (some ⟨bq, 0, none⟩) c8 (plc x)], [own b1 (.cells (atC x a c).toArray 34 (0, 0))]] [0] 2 rfl (by decide) (by decide)).turned0⟩)

end Go.Proofs.YtgiiifadbnpfkaaGreatDoor
