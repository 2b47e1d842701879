/- Contracts of functions of the program: what each returns and leaves in memory. Printed by gen.py and walk.py. -/
import Derived.Test.YtgiiifadbnpfkaaGreatDoorMg15
import Derived.Test.YtgiiifadbnpfkaaGreatDoorRows
set_option maxRecDepth 10000
namespace Go.Proofs.YtgiiifadbnpfkaaGreatDoor
open Go Go.Hw
set_option linter.unusedSimpArgs false
set_option linter.unusedVariables false
structure AG where
  x : At
  a : Option Addr
  c : Nat
def agC (y : AG) : List Value := atC y.x y.a y.c
theorem agC_len (y : AG) : (agC y).length = 5 := rfl
theorem agC_one (y : AG) : ∀ v ∈ agC y, v.oneCell' = true := by simp [agC, atC, Value.oneCell']
abbrev argA (y : AG) : Hw.Item := rowT y.a y.c y.x.args
abbrev argsA (ys : List AG) : List Hw.Item := ys.map argA
abbrev rowAt (la : Option Addr) (lc : Nat) (ys : List AG) : Hw.Item := row 34 5 la ys.length lc (ys.flatMap agC)
def atsA (la : Option Addr) (lc : Nat) (ys : List AG) : List Hw.Item := rowAt la lc ys :: argsA ys
def sortA (l : List At) : List At := l.mergeSort fun a b => !decide (cmpA b a < 0)
theorem sortA_perm (l : List At) : (sortA l).Perm l := List.mergeSort_perm _ _
theorem sortA_sorted (l : List At) : (sortA l).Pairwise fun a b => ¬ cmpA b a < 0 := by
  have hO := cmpA_ok.swo
  have h := List.pairwise_mergeSort (le := fun a b => !decide (cmpA b a < 0)) (fun a b c h1 h2 => by
    simp only [Bool.not_eq_true', decide_eq_false_iff_not] at *
    have := hO.ntrans c b a (by simpa [Go.Proofs.ltOf] using h2) (by simpa [Go.Proofs.ltOf] using h1)
    simpa [Go.Proofs.ltOf] using this) (fun a b => by
    simp only [Bool.or_eq_true, Bool.not_eq_true', decide_eq_false_iff_not]
    have := cmpA_ok.anti a b
    omega) l
  refine h.imp ?_
  intro a b hab
  simpa using hab
theorem sortA_eq {ys rows : List At} (hp : ys.Perm rows) (hs : ys.Pairwise fun a b => ¬ cmpA b a < 0) : ys = sortA rows := by
  refine List.Perm.eq_of_pairwise (le := fun a b => ¬ cmpA b a < 0) (fun a b _ _ h1 h2 => ?_) hs (sortA_sorted rows) (hp.trans (sortA_perm _).symm)
  have := cmpA_ok.anti a b
  exact cmpA_ok.eq _ _ (by omega)
theorem T.apA : appB Tryz.prog 27 34 5 72 = true := by kernel_rfl
theorem RT.fr {w w' : World} {M : Nat → Prop} {a : Option Addr} {ts : List Tm} (h : RT w a ts) (hne : ∀ q, a = some q → 0 < ts.length → ¬ M q.block) (hf : Fr M w w') : RT w' a ts := by
  refine ⟨h.nil, fun q hq i t ht j v hv => ?_⟩
  have hl : 0 < ts.length := by have := (List.getElem?_eq_some_iff.1 ht).1; omega
  have h1 := h.at_ q hq i t ht j v hv
  have h2 := hf.keep q.block (h.lt hq hl) (hne q hq hl)
  unfold World.cell? at h1 ⊢
  rw [add_block, add_block] at h1 ⊢
  rw [h2]; exact h1
theorem selR_and {g : RelG} (ok : RelOK g) (parts : Int) : selR (rp g) (bits .and .i64 parts 7) [] [] = selR (rp g) parts [] [] := by
  unfold selR
  congr 2
  refine List.filter_congr fun q hq => ?_
  obtain ⟨e, he, rfl⟩ := List.mem_map.1 hq
  rw [inP_and parts (ok.part e he)]
theorem selR_mem {L : List (List Int × Nat)} {parts : Int} {l : List Int} (h : l ∈ selR L parts [] []) : ∃ q ∈ L, q.1 = l := by
  have h1 := (sortR_perm _).mem_iff.1 h
  obtain ⟨q, hq, rfl⟩ := List.mem_map.1 h1
  exact ⟨q, (List.mem_filter.1 hq).1, rfl⟩
theorem flat_perm {α β : Type} (f h : α → List β) : ∀ l : List α, (∀ x ∈ l, (f x).Perm (h x)) → (l.flatMap f).Perm (l.flatMap h)
  | [], _ => .refl _
  | x :: l, hh => by
    rw [List.flatMap_cons, List.flatMap_cons]
    exact (hh x (.head _)).append (flat_perm f h l fun y hy => hh y (.tail _ hy))
/-- What has been told of the relations that were visited. -/
def accF (g : BaseG) (parts : Int) (rs : List (Pd × RelG)) : List At := rs.flatMap fun x => (selR (rp x.2) parts [] []).map (atomOf g.vs x.1)
theorem accF_perm (g : BaseG) (parts : Int) : (accF g parts g.rs).Perm (selF (factsB g) parts) := by
  unfold accF selF factsB
  rw [List.filter_flatMap, List.map_flatMap]
  refine flat_perm _ _ _ fun x _ => ?_
  rw [List.filter_map, List.map_map]
  refine ((sortR_perm _).map _).trans (List.Perm.of_eq ?_)
  rw [List.map_map]
  have e : (fun p : List Int × Nat => inP parts p.2 && decide (fitsL p.1 [] [])) = fun p => inP parts p.2 := by
    funext p
    simp [fitsL]
  rw [e]
  rfl
theorem accF_len (g : BaseG) (parts : Int) (rs : List (Pd × RelG)) : (accF g parts rs).length = (rs.map fun x => (selR (rp x.2) parts [] []).length).sum := by
  unfold accF
  rw [List.length_flatMap]
  congr 1
  exact List.map_congr_left fun x _ => by rw [List.length_map]
theorem accF_snoc (g : BaseG) (parts : Int) (rs : List (Pd × RelG)) (x : Pd × RelG) : accF g parts (rs ++ [x]) = accF g parts rs ++ (selR (rp x.2) parts [] []).map (atomOf g.vs x.1) := by simp [accF]

theorem CmpOK.pull_swo {α β : Type} {f : β → β → Int} (hf : CmpOK f) (m : α → β) : Go.Sort.SWO (Go.Proofs.ltOf fun a b => f (m a) (m b)) :=
  ⟨fun a => hf.swo.irrefl (m a), fun a b c => hf.swo.trans (m a) (m b) (m c), fun a b c => hf.swo.ntrans (m a) (m b) (m c)⟩
theorem col_at2 {ys : List Col} {rows : List (List Int)} (h : ys.map Col.l = rows) {k : Nat} (hk : k < ys.length) : ∃ y, ys[k]? = some y ∧ y ∈ ys ∧ rows[k]? = some y.l :=
  ⟨ys[k], List.getElem?_eq_getElem hk, List.getElem_mem hk, by rw [← h, List.getElem?_map, List.getElem?_eq_getElem hk]; rfl⟩
theorem lst_addr2 {w0 ws w : World} {M I : Nat → Prop} {ow : List Hw.Item} {za : Option Addr} {zc : Nat} {zs : List Col} (hw : Sat w0 M I ws ow w) (hm : row 74 1 za zs.length zc (zs.map encC) ∈ ow) : 0 < zs.length → ∃ q, za = some ⟨q, 0, none⟩ := fun hp => row_addrK (hw.it _ hm) hp
theorem zmem {za : Option Addr} {zc : Nat} {zs : List Col} {z : Col} {A B : List Hw.Item} {i j k : Hw.Item} (h : z ∈ zs) : row 3 1 z.a z.l.length z.c (ints z.l) ∈ i :: j :: k :: (A ++ (B ++ lstA za zc zs)) := .tail _ (.tail _ (.tail _ (List.mem_append_right _ (List.mem_append_right _ (.tail _ (List.mem_flatMap.2 ⟨z, h, .head _⟩))))))
theorem sub_tab (g : BaseG) (X A B : List Hw.Item) : (tabA g).Sublist (X ++ (A ++ (baseA g ++ B))) := ((((List.sublist_append_left (tabA g) _).trans (List.sublist_append_left (baseA g) B)).trans (List.sublist_append_right A _))).trans (List.sublist_append_right X _)
theorem row_cellsφE {w : World} {T : TypeId} {size : Nat} {a : Option Addr} {q : Addr} {m cap : Nat} {xs : List Value} (hq : a = some q) (h : (row T size a m cap xs).φ w) : ∀ j u, xs[j]? = some u → w.cell? (q.add j) = some u := by
  subst hq
  intro j u hj
  have h1 : w.ownsRow 0 T size (.slice (some q) m cap) m xs := h
  have h2 := h1.cells (g := q.block) rfl j u hj
  rcases h1.2 with ⟨hv, _⟩ | ⟨g, c, cur, hv, _⟩
  · cases hv
  · simp only [Value.slice.injEq, Option.some.injEq] at hv
    rw [hv.1] at h2 ⊢
    exact h2
theorem row_cellsE {w0 ws w : World} {M I : Nat → Prop} {ow : List Hw.Item} (h : Sat w0 M I ws ow w) {T : TypeId} {size : Nat} {a : Option Addr} {q : Addr} {m cap : Nat} {xs : List Value} (hq : a = some q) (hm : row T size a m cap xs ∈ ow) : ∀ j u, xs[j]? = some u → w.cell? (q.add j) = some u :=
  row_cellsφE hq (h.it _ hm)
theorem row_cap {w : World} {T c m : Nat} {a : Option Addr} {xs : List Value} (h : (row T 1 a m c xs).φ w) : m ≤ c := by
  have h1 : w.ownsRow 0 T 1 (.slice a m c) m xs := h
  rcases h1.2 with ⟨hv, h0⟩ | ⟨g, cc, cur, hv, _, _, hmc, _⟩
  · omega
  · simp only [Value.slice.injEq] at hv; omega

set_option maxHeartbeats 2000000 in
theorem bfacts_calls (g : BaseG) (ok : BaseOK g) (parts : Int) (w : World) (hA : Holds (baseA g) w) : Calls Tryz.prog 12 #[ptr g.p, .int .i64 parts] w fun e w' => ∃ g1 la lc ys, e = .returned (.slice la ys.length lc) ∧ ys.map AG.x = sortA (selF (factsB g) parts) ∧ SameB g g1 ∧ Turns (baseA g) (baseA g1 ++ atsA la lc ys) w w' := by
  refine enterA hA (args := [ptr g.p, .int .i64 parts]) Tryz.func12 rfl Tryz.ntmps12 rfl rfl ?_
  refine Csr (Za rfl (Nn (Csr (Za rfl (Nn (Cs (Csr (Zm rfl (Zv (OV.nilCheck rfl) (Zv (OV.fieldAddr0 (off := 2) rfl T.u84 rfl) (Zv (OV.load1 (v := .map (some g.rb)) rfl T.u82 rfl (fun _ hw => (cell_at (hw.it _ (.head _)) (o := 2) rfl).1)) (WL.range T.u82 rfl (fun _ hw => own_map (kv := relKV g.rs) (List.mem_append_right _ (.head _)) _ hw) rfl ?_))))))))))))
  intro it14
  refine Nn (Cb ?_)
  refine WC.weak (S' := SatA w (baseA g) (own it14 (iterK g.rb (relKV g.rs).length []) :: rowAt none 0 [] :: (baseA g ++ argsA []))) (fun w' hw => by
    have h2 := (hw.rowNil 34 5).pick [[row 34 5 none 0 0 []], [own it14 (iterK g.rb (relKV g.rs).length [])], baseA g] [1, 0, 2] 3 rfl (by decide) (by decide)
    exact h2.perm (List.Perm.of_eq (by simp [cat, argsA, rowAt]))) ?_
  refine WC.loop5 (fun (vis : List Nat) (la : Option Addr) (lc : Nat) (ys : List AG) (g1 : BaseG) => [(0, ptr g.p), (1, .int .i64 parts), (5, .slice la ys.length lc), (14, .pointer (some ⟨it14, 0, none⟩))])
      (fun vis la lc ys g1 w' => (Vs g.rs vis ∧ SameB g g1 ∧ ys.map AG.x = accF g parts (visL g.rs vis) ∧ (∀ y ∈ ys, y.x.args.length ≤ 8) ∧ ys.length ≤ 1099511627776) ∧ SatA w (baseA g) (own it14 (iterK g.rb (relKV g.rs).length vis) :: rowAt la lc ys :: (baseA g1 ++ argsA ys)) w') (fun vis _ _ _ _ => unseen (relKV g.rs).length vis) [] none 0 [] g ⟨rfl, rfl, rfl, rfl, trivial⟩ (fun w' hw => ⟨⟨Vs.start _, SameB.refl ok, rfl, (fun y hy => by cases hy), by decide⟩, hw⟩) ?_
  intro vis la lc ys g1
  refine WC.pure (fun hi => ?_)
  obtain ⟨hvs, hsame, hys, hyargs, hyl⟩ := hi
  refine Csr ?_
  refine WL.next (enc := pdV) (kv := relKV g.rs) rfl rfl (fun _ hw => by rw [← hsame.kv, ← hsame.rb]; exact own_map (.tail _ (.tail _ (List.mem_append_left _ (List.mem_append_right _ (.head _))))) _ hw) ?_ ?_
  · intro hall
    refine Zv (OV.extract rfl rfl) (Nn (Cs (WC.condF rfl ?_)))
    refine Ce (Xe (Xe (Xh (Xn (Csr (Zm rfl ?_))))))
    have hal : ∀ i, i < g.rs.length → i ∈ vis := fun i hi => hall i (by rw [relKV_len]; exact hi)
    have hpm : (ys.map AG.x).Perm (selF (factsB g) parts) := by
      rw [hys]
      refine List.Perm.trans ?_ (accF_perm g parts)
      unfold accF
      exact (hvs.all hal).flatMap_right _
    refine WL.focus (ow' := rowAt la lc ys :: (argsA ys ++ (own it14 (iterK g.rb (relKV g.rs).length vis) :: baseA g1))) (by exact perm_cat [[own it14 (iterK g.rb (relKV g.rs).length vis)], [rowAt la lc ys], baseA g1, argsA ys] [1, 3, 0, 2] (by decide) rfl) ?_
    obtain ⟨us, hus⟩ : ∃ us : List {y : AG // y ∈ ys}, us.map (·.1) = ys := ⟨_, List.attach_map_subtype_val ys⟩
    have hul : us.length = ys.length := by have h := congrArg List.length hus; rwa [List.length_map] at h
    have huf : us.flatMap (fun z => agC z.1) = ys.flatMap agC := by have h := congrArg (List.flatMap agC) hus; rwa [List.flatMap_map] at h
    refine WL.callTA (ι := List {y : AG // y ∈ ys}) (vs := [.slice la ys.length lc, .func (.func 38) #[] #[]]) (vv := fun _ => .tuple #[]) (pp := fun vs => vs.Perm us ∧ vs.Pairwise (fun x y => Go.Proofs.ltOf (fun a b : {y : AG // y ∈ ys} => cmpA a.1.x b.1.x) y x = false)) [rowAt la lc ys] (AA := fun vs => [rowAt la lc (vs.map (·.1))]) rfl (by kernel_rfl) rfl rfl (fun w' hw' hH => ?_) ?_
    · have hcon := sortFuncK_calls (P := Tryz.prog) Tryz.sortA (T := 34) (c := lc) 5 (by decide) (by kernel_rfl) T.z34 (fun z : {y : AG // y ∈ ys} => agC z.1) (fun _ => rfl) (fun z => agC_one z.1) (fun a b => cmpA a.1.x b.1.x) (cmpA_ok.pull_swo fun z : {y : AG // y ∈ ys} => z.1.x) 38 (by kernel_rfl) la us w' (by rw [hul, huf]; exact hH) ?_ (by omega)
      · rw [hul, huf] at hcon
        refine hcon.mono ?_
        rintro en w'' ⟨h1, vs, h2, h3, h4⟩
        refine ⟨vs, h1, ⟨h2, h3⟩, ?_⟩
        have e1 : (vs.map (·.1)).length = vs.length := List.length_map ..
        have e2 : (vs.map (·.1)).flatMap agC = vs.flatMap fun z => agC z.1 := by rw [List.flatMap_map]
        show Turns _ [row _ _ la (vs.map (·.1)).length lc ((vs.map (·.1)).flatMap agC)] _ _
        rw [e1, e2]; exact h4
      · intro q hq w2 hf y1 y2
        have hrt : ∀ y : {y : AG // y ∈ ys}, RT w2 y.1.a y.1.x.args := fun y => by
          have hm : argA y.1 ∈ rowAt la lc ys :: (argsA ys ++ (own it14 (iterK g.rb (relKV g.rs).length vis) :: baseA g1)) := .tail _ (List.mem_append_left _ (List.mem_map.2 ⟨y.1, y.2, rfl⟩))
          refine RT.fr (RT.of_row (c := y.1.c) rfl hw' hm) (fun q2 hq2 _ he => ?_) hf
          exact (List.pairwise_cons.1 hw'.disj).1 (argA y.1) (List.mem_append_right _ (List.mem_append_left _ (List.mem_map.2 ⟨y.1, y.2, rfl⟩))) q.block ⟨q, hq, rfl⟩ ⟨q2, hq2, he⟩
        exact cmpA_calls y1.1.x y2.1.x y1.1.a y2.1.a y1.1.c y2.1.c (by have := hyargs y1.1 y1.2; omega) (by have := hyargs y2.1 y2.2; omega) w2 (hrt y1) (hrt y2)
    rintro vs hpp
    obtain ⟨hvp, hvsort⟩ : vs.Perm us ∧ vs.Pairwise (fun x y => Go.Proofs.ltOf (fun a b : {y : AG // y ∈ ys} => cmpA a.1.x b.1.x) y x = false) := hpp
    obtain ⟨ts, hts⟩ : ∃ ts, ts = vs.map (·.1) := ⟨_, rfl⟩
    have htp : ts.Perm ys := by have h := hvp.map (·.1); rwa [hus, ← hts] at h
    have htl : ts.length = ys.length := htp.length_eq
    have htx : ts.map AG.x = sortA (selF (factsB g) parts) := by
      refine sortA_eq ((htp.map _).trans hpm) ?_
      rw [hts, List.map_map, List.pairwise_map]
      refine hvsort.imp ?_
      intro a b hab
      simpa [Go.Proofs.ltOf] using hab
    rw [← hts]
    refine Nn (Csr (Zm rfl (Za rfl (Nn (WC.ret ?_)))))
    refine WX.ret1 rfl rfl rfl (fun w' hw => ⟨g1, la, lc, ts, by rw [htl], htx, hsame, ?_⟩)
    have h2 := (show Sat w (DD (baseA g)) (fun b => b < w.heap.size ∧ ¬ DD (baseA g) b) w ([rowAt la lc ts] ++ (argsA ys ++ ([own it14 (iterK g.rb (relKV g.rs).length vis)] ++ baseA g1))) w' from hw).pick [[rowAt la lc ts], argsA ys, [own it14 (iterK g.rb (relKV g.rs).length vis)], baseA g1] [3, 0, 1] 4 rfl (by decide) (by decide)
    refine Hw.Sat.turned (h2.perm (ow' := baseA g1 ++ atsA la lc ts) ?_)
    exact List.Perm.append_left _ (List.Perm.cons _ (htp.map _))
  intro i q hi2 hv
  obtain ⟨x, hx, hxm, rfl, hil⟩ := relKV_get hi2
  refine Zv (OV.extract rfl rfl) (Nn (Cs (WC.condT rfl ?_)))
  refine Ck (Xn (Cb (Csr (Zv (OV.entry (enc := pdV) (kv := relKV g.rs) (i := i) rfl (fun _ hw => hw.it _ (.head _)) (fun _ hw => by rw [← hsame.kv, ← hsame.rb]; exact own_map (.tail _ (.tail _ (List.mem_append_left _ (List.mem_append_right _ (.head _))))) _ hw) hi2) (Zv (OV.extract rfl rfl) (Zv (OV.extract rfl rfl) (WL.alloc T.zr43 rfl ?_)))))))
  intro b6
  refine WL.storeAll (vs := pdC x.1) rfl rfl rfl T.z43 rfl ?_
  refine Za rfl (Nn (Csr (Zm rfl (Zm rfl (Zv (OV.and rfl rfl) ?_)))))
  obtain ⟨x', hx', hx1, hxe, hxr, hxw, okx⟩ := hsame.at_ i x hx
  obtain ⟨r1, r2, hs1, _⟩ := split_get hx'
  refine WL.focus (ow' := own b6 (.cells (pdC x.1).toArray 43 (0, 0)) :: own it14 (iterK g.rb (relKV g.rs).length (vis ++ [i])) :: rowAt la lc ys :: ((tabA g1 ++ (rbA g1 :: (relsA r1 ++ (relA x'.2 ++ relsA r2)))) ++ argsA ys)) (List.Perm.of_eq (by unfold baseA; rw [hs1, show x' = (x'.1, x'.2) from rfl, relsA_mid])) ?_
  refine WL.focus (ow' := relA x'.2 ++ (([own b6 (.cells (pdC x.1).toArray 43 (0, 0)), own it14 (iterK g.rb (relKV g.rs).length (vis ++ [i])), rowAt la lc ys] ++ (tabA g1 ++ [rbA g1])) ++ (relsA r1 ++ (relsA r2 ++ argsA ys)))) (by
    refine List.Perm.trans ?_ (List.Perm.of_eq (show [own b6 (.cells (pdC x.1).toArray 43 (0, 0)), own it14 (iterK g.rb (relKV g.rs).length (vis ++ [i])), rowAt la lc ys] ++ (tabA g1 ++ ([rbA g1] ++ (relsA r1 ++ (relA x'.2 ++ (relsA r2 ++ argsA ys))))) = _ by simp))
    exact (List.Perm.of_eq (by simp [cat])).trans (perm_cat [[own b6 (.cells (pdC x.1).toArray 43 (0, 0)), own it14 (iterK g.rb (relKV g.rs).length (vis ++ [i])), rowAt la lc ys], tabA g1, [rbA g1], relsA r1, relA x'.2, relsA r2, argsA ys] [4, 0, 1, 2, 3, 5, 6] (by decide) rfl)) ?_
  refine WL.callTA (ι := RelG × Option Addr × Nat × List Col) (vs := [ptr x'.2.r, .int .i64 (bits .and .i64 parts 7)]) (vv := fun z => .slice z.2.1 z.2.2.2.length z.2.2.1) (pp := fun z => z.2.2.2.map Col.l = selR (rp x'.2) (bits .and .i64 parts 7) [] [] ∧ RelOK z.1 ∧ RelLe x'.2 z.1 ∧ z.1.es = x'.2.es) (relA x'.2) (AA := fun z => relA z.1 ++ lstA z.2.1 z.2.2.1 z.2.2.2) rfl (by kernel_rfl) (by rw [hxr]; rfl) rfl (fun w' hw' hH => (rows_calls x'.2 okx (bits .and .i64 parts 7) w' hH).mono (fun en w'' ⟨g', la, lc, ys, h1, h2, h3, h4, h5, h6⟩ => ⟨(g', la, lc, ys), h1, ⟨h2, h3, h4, h5⟩, h6⟩)) ?_
  rintro ⟨gr, za, zc, zs⟩ hpp
  obtain ⟨hzs0, okr, ler, esr⟩ : zs.map Col.l = selR (rp x'.2) (bits .and .i64 parts 7) [] [] ∧ RelOK gr ∧ RelLe x'.2 gr ∧ gr.es = x'.2.es := hpp
  have hzs : zs.map Col.l = selR (rp x.2) parts [] [] := by rw [hzs0, selR_and okx, rp, hxe, rp]
  have hzn : zs.length ≤ x.2.es.length := by
    have h1 := congrArg List.length hzs
    rw [List.length_map] at h1
    have h2 := selR_len (rp x.2) parts [] []
    rw [rp_len] at h2; omega
  obtain ⟨g2, hg2⟩ : ∃ g2 : BaseG, g2 = { g1 with rs := r1 ++ (x'.1, gr) :: r2 } := ⟨_, rfl⟩
  have hsame2 : SameB g g2 := by rw [hg2]; exact hsame.setRel hs1 esr ler.r ler.width okr
  have hp2 : g2.p = g.p := hsame2.p
  have hbnd : (accF g parts (visL g.rs vis)).length + zs.length ≤ 1099511627776 := by
    have h1 := vis_le (f := fun x : Pd × RelG => (selR (rp x.2) parts [] []).length) (f2 := fun x => x.2.es.length) (fun y => by have := selR_len (rp y.2) parts [] []; rw [rp_len] at this; exact this) (hvs.step hil hv)
    rw [visL_snoc hx, ← accF_len g, accF_snoc, List.length_append, List.length_map, ← hzs, List.length_map] at h1
    have := ok.fl
    omega
  refine WL.weak (S' := SatA w (baseA g) (own b6 (.cells (pdC x.1).toArray 43 (0, 0)) :: own it14 (iterK g.rb (relKV g.rs).length (vis ++ [i])) :: rowAt la lc ys :: (argsA ys ++ (baseA g2 ++ lstA za zc zs)))) (fun w' hw => ?_) ?_
  · have h2 := hw.perm (ow' := relA gr ++ (lstA za zc zs ++ (([own b6 (.cells (pdC x.1).toArray 43 (0, 0)), own it14 (iterK g.rb (relKV g.rs).length (vis ++ [i])), rowAt la lc ys] ++ (tabA g1 ++ [rbA g1])) ++ (relsA r1 ++ (relsA r2 ++ argsA ys))))) (List.Perm.of_eq (List.append_assoc _ _ _).symm)
    have h3 := h2.perm (ow' := relA gr ++ (lstA za zc zs ++ ([own b6 (.cells (pdC x.1).toArray 43 (0, 0)), own it14 (iterK g.rb (relKV g.rs).length (vis ++ [i])), rowAt la lc ys] ++ (tabA g1 ++ ([rbA g1] ++ (relsA r1 ++ (relsA r2 ++ argsA ys))))))) (List.Perm.of_eq (by simp))
    have h4 := h3.pick [relA gr, lstA za zc zs, [own b6 (.cells (pdC x.1).toArray 43 (0, 0)), own it14 (iterK g.rb (relKV g.rs).length (vis ++ [i])), rowAt la lc ys], tabA g1, [rbA g1], relsA r1, relsA r2, argsA ys] [2, 7, 3, 4, 5, 0, 6, 1] 8 rfl (by decide) (by decide)
    refine h4.perm (List.Perm.of_eq ?_)
    have hk : relKV g1.rs = relKV (r1 ++ (x'.1, gr) :: r2) := by rw [hs1]; simp [relKV, ler.r]
    rw [hg2]
    unfold baseA rbA
    simp only [relsA_mid, ← hk]
    simp [cat, tabA, nbA]
    rfl
  refine Zv (OV.lenSlice rfl T.u86) (Zm rfl (Nn (Cb ?_)))
  refine WC.know (fun w' hw => (lst_addr2 (za := za) (zc := zc) (zs := zs) hw (.tail _ (.tail _ (.tail _ (List.mem_append_right _ (List.mem_append_right _ (.head _)))))) : 0 < zs.length → ∃ q, za = some ⟨q, 0, none⟩)) (fun hza => ?_)
  refine WC.loop4 (fun (k : Nat) (la2 : Option Addr) (lc2 : Nat) (ys2 : List AG) => [(0, ptr g.p), (1, .int .i64 parts), (5, .slice la2 ys2.length lc2), (6, .pointer (some ⟨b6, 0, none⟩)), (14, .pointer (some ⟨it14, 0, none⟩)), (23, .slice za zs.length zc), (24, .int .i64 (zs.length : Int)), (25, .int .i64 (k : Int))])
      (fun k la2 lc2 ys2 w' => (k ≤ zs.length ∧ ys2.length = ys.length + k ∧ ys2.map AG.x = accF g parts (visL g.rs vis) ++ ((selR (rp x.2) parts [] []).take k).map (atomOf g.vs x.1) ∧ (∀ y ∈ ys2, y.x.args.length ≤ 8)) ∧ SatA w (baseA g) (own b6 (.cells (pdC x.1).toArray 43 (0, 0)) :: own it14 (iterK g.rb (relKV g.rs).length (vis ++ [i])) :: rowAt la2 lc2 ys2 :: (argsA ys2 ++ (baseA g2 ++ lstA za zc zs))) w')
      (fun k _ _ _ => zs.length - k) 0 la lc ys ⟨rfl, rfl, rfl, rfl, rfl, rfl, rfl, rfl, trivial⟩ (fun w' hw => ⟨⟨by omega, rfl, by simp [hys], hyargs⟩, hw⟩) ?_
  have hyn : ys.length = (accF g parts (visL g.rs vis)).length := by rw [← hys, List.length_map]
  intro k la2 lc2 ys2
  refine WC.pure (fun hi => ?_)
  obtain ⟨hk, hyl2, hys2, hya2⟩ := hi
  refine Csr (Zv (OV.lss rfl rfl) (Nn (Cs ?_)))
  refine Cc rfl (fun c26 => ?_) (fun c26 => ?_)
  · refine Ck (Xn (Cs (Cb (Csr ?_))))
    obtain ⟨z, hz, hzm, hzl⟩ := col_at2 hzs (k := k) (by omega)
    obtain ⟨zq, hzq⟩ := hza (by omega)
    obtain ⟨zr, hzr, hzrl⟩ := selR_mem (List.mem_of_getElem? hzl)
    obtain ⟨hrl, hrin⟩ := rel_row ok hxm hzr
    rw [hzrl] at hrl hrin
    have har := ok.ar x hxm
    refine Zv (OV.indexSliceA (a := ⟨zq, 0, none⟩) (i := k) (show _ = some (Value.slice (some ⟨zq, 0, none⟩) zs.length zc) by rw [← hzq]; rfl) rfl T.u86 T.z74 (by omega)) ?_
    refine WL.val (OV.load1 (v := encC z) rfl T.u74 rfl (fun _ hw => row_cellsE hw hzq (.tail _ (.tail _ (.tail _ (List.mem_append_right _ (List.mem_append_right _ (.head _)))))) k _ (by rw [List.getElem?_map, hz]; rfl))) rfl ?_
    refine Za rfl (Nn (Cr (Zm rfl (Zm rfl (Zv (OV.loadN (cs := pdC x.1) rfl T.u43 rfl T.z43 (fun _ hw j v hj => by rw [add_off, Nat.zero_add]; exact own_cells hw (.head _) j v hj)) (Zm rfl ?_))))))
    refine WL.callTA (ι := Option Addr × Nat) (vs := [ptr g.p, pdV x.1, encC z]) (vv := fun q => atV (atomOf g.vs x.1 z.l) q.1 q.2) (pp := fun _ => True) [] (AA := fun q => [rowT q.1 q.2 (atomOf g.vs x.1 z.l).args]) rfl (by kernel_rfl) rfl rfl (fun w' hw' _ => (by
      have h5 := bfact_calls g2 (hsame2.ok ok) x.1 z.l z.a z.c (by omega) (by omega) (row_cap (hw'.it _ (zmem hzm))) (by rw [hsame2.vs]; exact hrin) w' (RI.of_row (c := z.c) hw' (zmem hzm)) (Hw.Sat.part (sub_tab g2 [own b6 (.cells (pdC x.1).toArray 43 (0, 0)), own it14 (iterK g.rb (relKV g.rs).length (vis ++ [i])), rowAt la2 lc2 ys2] (argsA ys2) (lstA za zc zs)) hw').holdsAll
      rw [hp2, hsame2.vs] at h5
      exact h5.mono (fun en w'' ⟨la, lc, h1, h2⟩ => ⟨(la, lc), h1, trivial, h2⟩))) ?_
    rintro ⟨fa, fc⟩ _
    refine WL.buildSliceA (cs := agC ⟨atomOf g.vs x.1 z.l, fa, fc⟩) T.u27 T.z34 T.zr34 rfl rfl (by omega) (by omega) rfl ?_
    intro b34
    refine WL.focus (ow' := rowAt la2 lc2 ys2 :: own b34 (.cells (agC ⟨atomOf g.vs x.1 z.l, fa, fc⟩).toArray 34 (0, 0)) :: rowT fa fc (atomOf g.vs x.1 z.l).args :: own b6 (.cells (pdC x.1).toArray 43 (0, 0)) :: own it14 (iterK g.rb (relKV g.rs).length (vis ++ [i])) :: (argsA ys2 ++ (baseA g2 ++ lstA za zc zs))) (perm_pick [_, _, _, _, _] [4, 0, 1, 2, 3] (by decide) rfl) ?_
    refine WL.append (news := agC ⟨atomOf g.vs x.1 z.l, fa, fc⟩) rfl rfl T.apA (fun _ _ => own_srcN (.tail _ (.head _)) rfl) (agC_one _) ⟨by omega, by unfold maxLen; omega⟩ rfl ?_
    intro a35 c35
    refine Za rfl (Nl (Xb (Xn (Cr (Zv (OV.addN (j := 1) rfl rfl (by omega)) (Zm rfl (Nl ?_)))))))
    have el : ys2.length + 1 = (ys2 ++ [(⟨atomOf g.vs x.1 z.l, fa, fc⟩ : AG)]).length := by simp
    have ef : ys2.flatMap agC ++ agC ⟨atomOf g.vs x.1 z.l, fa, fc⟩ = (ys2 ++ [(⟨atomOf g.vs x.1 z.l, fa, fc⟩ : AG)]).flatMap agC := by simp
    have em : argsA (ys2 ++ [(⟨atomOf g.vs x.1 z.l, fa, fc⟩ : AG)]) = argsA ys2 ++ [rowT fa fc (atomOf g.vs x.1 z.l).args] := by simp [argsA]
    exact WX.round4 (k + 1) a35 c35 (ys2 ++ [(⟨atomOf g.vs x.1 z.l, fa, fc⟩ : AG)]) ⟨rfl, rfl, by rw [← el]; rfl, rfl, rfl, rfl, rfl, rfl, trivial⟩ (fun w' hw => ⟨⟨by omega, by simp [hyl2]; omega, by rw [List.map_append, hys2, List.take_add_one, hzl]; simp, fun y hy => by
      rcases List.mem_append.1 hy with h | h
      · exact hya2 y h
      · simp only [List.mem_singleton] at h
        subst h
        simp [atomOf, hrl]; exact har⟩, by
      rw [el, ef] at hw
      rw [em]
      exact (hw.pick [[rowAt a35 c35 (ys2 ++ [(⟨atomOf g.vs x.1 z.l, fa, fc⟩ : AG)])], [own b34 (.cells (agC ⟨atomOf g.vs x.1 z.l, fa, fc⟩).toArray 34 (0, 0))], [rowT fa fc (atomOf g.vs x.1 z.l).args], [own b6 (.cells (pdC x.1).toArray 43 (0, 0))], [own it14 (iterK g.rb (relKV g.rs).length (vis ++ [i]))], argsA ys2, baseA g2 ++ lstA za zc zs] [3, 4, 0, 5, 2, 6] 7 rfl (by decide) (by decide)).perm (List.Perm.of_eq (by simp [cat]))⟩) (by show zs.length - (k + 1) < zs.length - k; omega)
  refine Ce (Xe (Xe (Xh (Xb ?_))))
  have hk : zs.length ≤ k := by omega
  exact WX.round5 (vis ++ [i]) la2 lc2 ys2 g2 ⟨rfl, rfl, rfl, rfl, trivial⟩ (fun w' hw => ⟨⟨hvs.step hil hv, hsame2, by rw [visL_snoc hx, accF_snoc, hys2, ← hzs, List.take_of_length_le (by rw [List.length_map]; omega)], hya2, by omega⟩, hw.pick [[own b6 (.cells (pdC x.1).toArray 43 (0, 0))], [own it14 (iterK g.rb (relKV g.rs).length (vis ++ [i]))], [rowAt la2 lc2 ys2], argsA ys2, baseA g2, lstA za zc zs] [1, 2, 4, 3] 6 rfl (by decide) (by decide)⟩) (unseen_lt (by rw [relKV_len]; exact hil) hv)

end Go.Proofs.YtgiiifadbnpfkaaGreatDoor

set_option maxRecDepth 10000
namespace Go.Proofs.YtgiiifadbnpfkaaGreatDoor
open Go Go.Hw
set_option linter.unusedSimpArgs false
set_option linter.unusedVariables false
abbrev rowPd (la : Option Addr) (lc : Nat) (ys : List Pd) : Hw.Item := row 43 2 la ys.length lc (ys.flatMap pdC)
end Go.Proofs.YtgiiifadbnpfkaaGreatDoor

set_option maxRecDepth 10000
namespace Go.Proofs.YtgiiifadbnpfkaaGreatDoor
open Go Go.Hw
set_option linter.unusedSimpArgs false
set_option linter.unusedVariables false
theorem take_extA {α : Type} {l m : List α} {i : Nat} (h1 : l.length = m.length) (h : l.take i = m.take i) (hi : l.length ≤ i) : l = m := by
  rwa [List.take_of_length_le hi, List.take_of_length_le (by omega)] at h
/-- Atoms that lie one behind the other. -/
structure RA (w : World) (a : Option Addr) (ys : List AG) : Prop where
  nil : a = none → ys.length = 0
  at_ : ∀ q, a = some q → ∀ i y, ys[i]? = some y → ∀ j v, (agC y)[j]? = some v → w.cell? ((q.add (i * 5)).add j) = some v
  args : ∀ y ∈ ys, RT w y.a y.x.args
theorem RA.keeps {w w' : World} {a : Option Addr} {ys : List AG} (h : RA w a ys) (k : Keeps w w') : RA w' a ys := ⟨h.nil, fun q hq i t ht j v hv => k _ _ (h.at_ q hq i t ht j v hv), fun y hy => (h.args y hy).keeps k⟩
theorem RA.get {w : World} {a : Option Addr} {ys : List AG} (h : RA w a ys) {i : Nat} (hi : i < ys.length) : ∃ q y, a = some q ∧ ys[i]? = some y ∧ y ∈ ys ∧ RT w y.a y.x.args ∧ ∀ j v, (agC y)[j]? = some v → w.cell? ((q.add (i * 5)).add j) = some v := by
  cases a with
  | none => have := h.nil rfl; omega
  | some q => exact ⟨q, ys[i], rfl, List.getElem?_eq_getElem hi, List.getElem_mem hi, h.args _ (List.getElem_mem hi), h.at_ q rfl i _ (List.getElem?_eq_getElem hi)⟩
theorem RA.of_row {w0 ws w : World} {M I : Nat → Prop} {ow : List Hw.Item} {a : Option Addr} {c : Nat} {ys : List AG} (hw : Sat w0 M I ws ow w) (hm : ∀ i ∈ atsA a c ys, i ∈ ow) : RA w a ys := by
  have hr : rowAt a c ys ∈ ow := hm _ (.head _)
  refine ⟨fun ha => ?_, fun q hq i t ht j v hv => ?_, fun y hy => RT.of_row (c := y.c) rfl hw (hm _ (.tail _ (List.mem_map.2 ⟨y, hy, rfl⟩)))⟩
  · rcases (row_base hw hr).2 with ⟨_, h, _⟩ | ⟨b, hb, _⟩
    · exact h
    · rw [ha] at hb; cases hb
  · subst hq
    have hj : j < 5 := (List.getElem?_eq_some_iff.1 hv).1
    have h1 := row_cells hw hr (i * 5 + j) v (by rw [flat_get agC_len ys i j t ht hj]; exact hv)
    rwa [add_add] at h1
/-- Predicates that lie one behind the other. -/
structure RP (w : World) (a : Option Addr) (ys : List Pd) : Prop where
  nil : a = none → ys.length = 0
  at_ : ∀ q, a = some q → ∀ i y, ys[i]? = some y → ∀ j v, (pdC y)[j]? = some v → w.cell? ((q.add (i * 2)).add j) = some v
theorem RP.get {w : World} {a : Option Addr} {ys : List Pd} (h : RP w a ys) {i : Nat} (hi : i < ys.length) : ∃ q y, a = some q ∧ ys[i]? = some y ∧ y ∈ ys ∧ ∀ j v, (pdC y)[j]? = some v → w.cell? ((q.add (i * 2)).add j) = some v := by
  cases a with
  | none => have := h.nil rfl; omega
  | some q => exact ⟨q, ys[i], rfl, List.getElem?_eq_getElem hi, List.getElem_mem hi, h.at_ q rfl i _ (List.getElem?_eq_getElem hi)⟩
theorem pdC_len' : ∀ y : Pd, (pdC y).length = 2 := fun _ => rfl
theorem RP.of_row {w0 ws w : World} {M I : Nat → Prop} {ow : List Hw.Item} {a : Option Addr} {c : Nat} {ys : List Pd} (hw : Sat w0 M I ws ow w) (hr : rowPd a c ys ∈ ow) : RP w a ys := by
  refine ⟨fun ha => ?_, fun q hq i t ht j v hv => ?_⟩
  · rcases (row_base hw hr).2 with ⟨_, h, _⟩ | ⟨b, hb, _⟩
    · exact h
    · rw [ha] at hb; cases hb
  · subst hq
    have hj : j < 2 := (List.getElem?_eq_some_iff.1 hv).1
    have h1 := row_cells hw hr (i * 2 + j) v (by rw [flat_get pdC_len' ys i j t ht hj]; exact hv)
    rwa [add_add] at h1

theorem sameTerms_calls (ls ms : List Tm) (a1 a2 : Option Addr) (c1 c2 : Nat) (h1 : ls.length ≤ 1099511627776) (h2 : ms.length ≤ 1099511627776) (w : World) (hr1 : RT w a1 ls) (hr2 : RT w a2 ms) : Calls Tryz.prog 60 #[.slice a1 ls.length c1, .slice a2 ms.length c2] w fun e w' => e = .returned (.bool (decide (ls = ms))) ∧ Fr0 w w' := by
  refine enterS (args := [.slice a1 ls.length c1, .slice a2 ms.length c2]) (fun _ => False) Tryz.func60 rfl Tryz.ntmps60 rfl rfl ?_
  refine Csr (Za rfl (Nn (Cs (Csr (Zm rfl (Zv (OV.lenSlice rfl T.u32) (Zm rfl (Zv (OV.lenSlice rfl T.u32) (Zv (OV.neq rfl rfl) (Nn ?_))))))))))
  refine Cc rfl (fun c10 => ?_) (fun c10 => ?_)
  · refine Csr (Za rfl (Nn (WC.ret ?_)))
    refine Xr ?_
    exact WX.ret1 rfl rfl rfl (fun w' hw => ⟨by rw [decide_eq_false (fun h => c10 (by have h9 := congrArg List.length h; (try simp only [List.length_map] at h9); omega))], hw.fr⟩)
  refine Ck (Xn (Cs (Csr (Za rfl (Nn (Cb ?_))))))
  refine WC.loop1 (fun (i : Nat) => [(0, .slice a1 ls.length c1), (1, .slice a2 ms.length c2), (5, .int .i64 (i : Int))])
      (fun i w' => (i ≤ ls.length ∧ ls.take i = ms.take i) ∧ Sat w (fun _ => False) (fun b => b < w.heap.size) w [] w')
      (fun i => ls.length - i) 0 ⟨rfl, rfl, rfl, trivial⟩ (fun w' hw => ⟨⟨by omega, by simp⟩, hw⟩) ?_
  intro i
  refine WC.pure (fun hi => ?_)
  obtain ⟨hi, heq⟩ := hi
  refine Cs (Csr (Zm rfl (Zm rfl (Zv (OV.lenSlice rfl T.u32) (Zv (OV.lss rfl rfl) (Nn ?_))))))
  refine Cc rfl (fun c14 => ?_) (fun c14 => ?_)
  · refine Ck (Xn (Cs (Cb (Cs (Hq [] (m := 9) rfl ?_)))))
    refine Hf 0 rfl (OV.move rfl) (Hf 1 rfl (OV.move rfl) ?_)
    obtain ⟨q1, t1, rfl, ht1, hm1, _, hc1⟩ := hr1.get (i := i) (by omega)
    obtain ⟨q2, t2, rfl, ht2, hm2, _, hc2⟩ := hr2.get (i := i) (by omega)
    refine Hf 2 rfl ((OV.indexSlice rfl rfl T.u32 T.z31 (by omega)).cast (u := .pointer (some (q1.add (i * 3)))) (by rw [Int.toNat_natCast])) (Ht 3 rfl (OV.loadN (cs := tmC t1) rfl T.u31 rfl T.z31 (fun _ hw j v hj => hw.keeps _ _ (hc1 j v hj))) (Hf 4 rfl (OV.move rfl) (Hf 5 rfl (OV.move rfl) (Hf 6 rfl ((OV.indexSlice rfl rfl T.u32 T.z31 (by omega)).cast (u := .pointer (some (q2.add (i * 3)))) (by rw [Int.toNat_natCast])) (Ht 7 rfl (OV.loadN (cs := tmC t2) rfl T.u31 rfl T.z31 (fun _ hw j v hj => hw.keeps _ _ (hc2 j v hj))) (Hf 8 rfl (OV.neqTm (a := t1) (b := t2) rfl rfl) (He (Xn ?_))))))))
    refine Cc rfl (fun c25 => ?_) (fun c25 => ?_)
    · refine Csr (Za rfl (Nn (WC.ret ?_)))
      refine Xq (Xr (Xr (Xq (Xr ?_))))
      exact WX.ret1 rfl rfl rfl (fun w' hw => ⟨by rw [decide_eq_false (fun h => c25 (by rw [h] at ht1; exact Option.some.inj (ht1.symm.trans ht2)))], hw.fr⟩)
    refine Ck (Xb (Xn (Cr (Zm rfl (Zv (OV.addN (j := 1) rfl rfl (by omega)) (Za rfl (Nl ?_)))))))
    have hg : t1 = t2 := by simpa using c25
    exact WX.round1 (i + 1) ⟨rfl, rfl, rfl, trivial⟩ (fun w' hw => ⟨⟨by omega, take_ext_step heq ht1 (by rw [hg]; exact ht2)⟩, hw⟩) (by show ls.length - (i + 1) < ls.length - i; omega)
  refine Ce (Xe (Xe (Xh (Xn (Csr (Za rfl (Nn (WC.ret ?_))))))))
  exact WX.ret1 rfl rfl rfl (fun w' hw => ⟨by rw [decide_eq_true (take_extA (by (try simp only [List.length_map]); omega) heq (by (try simp only [List.length_map]); omega))], hw.fr⟩)

theorem At.eq_iff {x y : At} : x = y ↔ x.b = y.b ∧ x.name = y.name ∧ x.args = y.args := by
  cases x; cases y; simp

theorem sameAtom_calls (x y : At) (a1 a2 : Option Addr) (c1 c2 : Nat) (h1 : x.args.length ≤ 1099511627776) (h2 : y.args.length ≤ 1099511627776) (w : World) (hr1 : RT w a1 x.args) (hr2 : RT w a2 y.args) : Calls Tryz.prog 26 #[atV x a1 c1, atV y a2 c2] w fun e w' => e = .returned (.bool (decide (x = y))) ∧ Fr0 w w' := by
  refine enterS (args := [atV x a1 c1, atV y a2 c2]) (fun _ => False) Tryz.func26 rfl Tryz.ntmps26 rfl rfl ?_
  refine Csr (WL.box rfl rfl rfl ?_)
  intro b2
  refine WL.box rfl rfl rfl ?_
  intro b3
  refine Za rfl (Nn (Csr (Zv (OV.fieldAddr0 (off := 0) rfl T.u34 rfl) (Zv (OV.loadN (cs := tmC x.b) rfl T.u31 rfl T.z31 (fun _ hw j v hj => by rw [add_off]; exact own_part hw (.tail _ (.head _)) (o := 0) (cs' := tmC x.b) rfl j v hj)) (Zv (OV.fieldAddr0 (off := 0) rfl T.u34 rfl) (Zv (OV.loadN (cs := tmC y.b) rfl T.u31 rfl T.z31 (fun _ hw j v hj => by rw [add_off]; exact own_part hw (.head _) (o := 0) (cs' := tmC y.b) rfl j v hj)) (Zv (OV.eqlTm (a := x.b) (b := y.b) rfl rfl) (Zm rfl ?_))))))))
  refine Zp (t := 10) rfl (fun g10 => ?_) (fun g10 => ?_)
  · refine Zg rfl rfl rfl (Zv (OV.fieldAddr0 (off := 3) rfl T.u34 rfl) (Zg rfl rfl rfl (Zv (OV.load1 (v := .string x.name) rfl T.u9 rfl (fun _ hw => (cell_at (hw.it _ (.tail _ (.head _))) (o := 3) rfl).1)) (Zg rfl rfl rfl (Zv (OV.fieldAddr0 (off := 3) rfl T.u34 rfl) (Zg rfl rfl rfl (Zv (OV.load1 (v := .string y.name) rfl T.u9 rfl (fun _ hw => (cell_at (hw.it _ (.head _)) (o := 3) rfl).1)) (Zg rfl rfl rfl (Zv (OV.eqlS rfl rfl) (Zv (OV.pickT rfl rfl) (Zm rfl ?_)))))))))))
    refine Zp (t := 17) rfl (fun g17 => ?_) (fun g17 => ?_)
    · refine Zg rfl rfl rfl (Zv (OV.fieldAddr0 (off := 4) rfl T.u34 rfl) (Zg rfl rfl rfl (Zv (OV.load1 (v := .slice a1 x.args.length c1) rfl T.u32 rfl (fun _ hw => (cell_at (hw.it _ (.tail _ (.head _))) (o := 4) rfl).1)) (Zg rfl rfl rfl (Zv (OV.fieldAddr0 (off := 4) rfl T.u34 rfl) (Zg rfl rfl rfl (Zv (OV.load1 (v := .slice a2 y.args.length c2) rfl T.u32 rfl (fun _ hw => (cell_at (hw.it _ (.head _)) (o := 4) rfl).1)) (Zg rfl rfl rfl (WL.call0 (v := .bool (decide (x.args = y.args))) (by kernel_rfl) rfl rfl (fun w' hw' => sameTerms_calls x.args y.args a1 a2 c1 c2 h1 h2 w' (hr1.keeps hw'.keeps) (hr2.keeps hw'.keeps)) ?_)))))))))
      refine Zv (OV.pickT rfl rfl) (Za rfl (Nn (WC.ret ?_)))
      exact WX.ret1 rfl rfl rfl (fun w' hw => ⟨by clear hw; congr 2; simp_all [At.eq_iff], hw.fr⟩)
    refine Zs rfl rfl rfl (Zs rfl rfl rfl (Zs rfl rfl rfl (Zs rfl rfl rfl (Zs rfl rfl rfl (Zv (OV.pickF rfl rfl) (Za rfl (Nn (WC.ret ?_))))))))
    exact WX.ret1 rfl rfl rfl (fun w' hw => ⟨by clear hw; congr 2; simp_all [At.eq_iff], hw.fr⟩)
  refine Zs rfl rfl rfl (Zs rfl rfl rfl (Zs rfl rfl rfl (Zs rfl rfl rfl (Zs rfl rfl rfl (Zv (OV.pickF rfl rfl) (Zm rfl (Zs rfl rfl rfl (Zs rfl rfl rfl (Zs rfl rfl rfl (Zs rfl rfl rfl (Zs rfl rfl rfl (Zv (OV.pickF rfl rfl) (Za rfl (Nn (WC.ret ?_)))))))))))))))
  exact WX.ret1 rfl rfl rfl (fun w' hw => ⟨by clear hw; congr 2; simp_all [At.eq_iff], hw.fr⟩)

end Go.Proofs.YtgiiifadbnpfkaaGreatDoor

set_option maxRecDepth 10000
namespace Go.Proofs.YtgiiifadbnpfkaaGreatDoor
open Go Go.Hw
set_option linter.unusedSimpArgs false
set_option linter.unusedVariables false
/-- A base behind k Adds, with the facts F (in any order). -/
structure BS (g : BaseG) (k : Nat) (F : List (At × Nat)) : Prop where
  ok : BaseOK g
  fs : (factsB g).Perm F
  vk : g.vs.length ≤ 9 * k
  rk : g.rs.length ≤ k
  fk : F.length ≤ k
theorem addF_perm {F G : List (At × Nat)} (h : F.Perm G) (x : At) : (addF F x).Perm (addF G x) := by
  unfold addF
  have h1 : (x ∉ F.map (·.1)) ↔ (x ∉ G.map (·.1)) := by rw [(h.map (·.1)).mem_iff]
  by_cases hc : factB x = true ∧ x ∉ F.map (·.1)
  · rw [if_pos hc, if_pos ⟨hc.1, h1.1 hc.2⟩]; exact h.append_right _
  · rw [if_neg hc, if_neg (fun k => hc ⟨k.1, h1.2 k.2⟩)]; exact h
theorem addF_len (F : List (At × Nat)) (x : At) : (addF F x).length ≤ F.length + 1 := by
  unfold addF; split <;> simp
theorem BS.add {g g' : BaseG} {k : Nat} {F : List (At × Nat)} (b : BS g k F) {x : At} (ok : BaseOK g') (h : (factsB g').Perm (addF (factsB g) x)) (h1 : g'.vs.length ≤ g.vs.length + 9) (h2 : g'.rs.length ≤ g.rs.length + 1) : BS g' (k + 1) (addF F x) :=
  ⟨ok, h.trans (addF_perm b.fs x), by have := b.vk; omega, by have := b.rk; omega, by have := b.fk; have := addF_len F x; omega⟩
theorem BS.turn {g : BaseG} {k : Nat} {F : List (At × Nat)} (b : BS g k F) : BS (turnB g) k (turnF F) :=
  ⟨turnB_ok b.ok, by rw [factsB_turn]; exact b.fs.map _, b.vk, by simpa [turnB] using b.rk, by simpa [turnF] using b.fk⟩
theorem BS.same {g g1 : BaseG} {k : Nat} {F : List (At × Nat)} (b : BS g k F) (h : SameB g g1) : BS g1 k F :=
  ⟨h.ok b.ok, by rw [h.facts]; exact b.fs, by rw [h.vs]; exact b.vk, by rw [h.len]; exact b.rk, b.fk⟩
theorem BS.nodup {g : BaseG} {k : Nat} {F : List (At × Nat)} (b : BS g k F) : (F.map (·.1)).Nodup := (b.fs.map (·.1)).nodup_iff.1 (facts_nodup b.ok)
theorem BS.mem {g : BaseG} {k : Nat} {F : List (At × Nat)} (b : BS g k F) (x : At) : x ∈ (factsB g).map (·.1) ↔ x ∈ F.map (·.1) := (b.fs.map (·.1)).mem_iff
theorem selF_perm {F G : List (At × Nat)} (h : F.Perm G) (parts : Int) : (selF F parts).Perm (selF G parts) := (h.filter _).map _
theorem n4F_perm {F G : List (At × Nat)} (h : F.Perm G) : n4F F = n4F G := (h.filter _).length_eq
theorem sortA_congr {l m : List At} (h : l.Perm m) : sortA l = sortA m := sortA_eq ((sortA_perm l).trans h) (sortA_sorted l)
theorem new_bs (p rb : Nat) : BS ⟨p, none, none, 0, [], rb, []⟩ 0 [] :=
  ⟨⟨fun _ => rfl, List.nodup_nil, List.nodup_nil, (fun x hx => by cases hx), (fun x hx => by cases hx), (fun x hx => by cases hx), (fun x hx => by cases hx), by simp, by simp, by simp⟩, .refl _, by simp, by simp, by simp⟩
theorem pred_atom {g : BaseG} (ok : BaseOK g) {x : Pd × RelG} (hx : x ∈ g.rs) {q : List Int × Nat} (hq : q ∈ rp x.2) : predOf (atomOf g.vs x.1 q.1) = x.1 := by
  have h := (rel_row ok hx hq).1
  unfold predOf atomOf
  simp [h]
theorem facts_args {g : BaseG} (ok : BaseOK g) {x : At} (h : x ∈ (factsB g).map (·.1)) : x.args.length ≤ 8 := by
  obtain ⟨⟨y, n⟩, hy, rfl⟩ := List.mem_map.1 h
  unfold factsB at hy
  obtain ⟨z, hz, hq⟩ := List.mem_flatMap.1 hy
  obtain ⟨q, hq, he⟩ := List.mem_map.1 hq
  simp only [Prod.mk.injEq] at he
  have h1 := pred_atom ok hz hq
  rw [he.1] at h1
  have h2 := ok.ar z hz
  rw [← h1] at h2
  exact h2
/-! ### Many Adds -/
end Go.Proofs.YtgiiifadbnpfkaaGreatDoor

set_option maxRecDepth 10000
namespace Go.Proofs.YtgiiifadbnpfkaaGreatDoor
open Go Go.Hw
set_option linter.unusedSimpArgs false
set_option linter.unusedVariables false
def factP (n : Int) : At := ⟨T0, ⟨#[112]⟩, [⟨1, n, E0⟩]⟩
theorem badd_bs (g : BaseG) (k : Nat) (F : List (At × Nat)) (b : BS g k F) (hk : k ≤ 100000000000) (x : At) (a : Option Addr) (c : Nat) (hl : x.args.length ≤ 1099511627775) (hs : x.name.size ≤ 1099511627776) (w : World) (hN : NoneAt w) (hN1 : ¬ DD (baseA g) 1) (hr : RT w a x.args) (hne : ∀ q, a = some q → 0 < x.args.length → ¬ DD (baseA g) q.block) (hA : Holds (baseA g) w) :
    Calls Tryz.prog 24 #[ptr g.p, atV x a c] w fun e w' => ∃ g', e = .returned (.tuple #[.bool (factB x && decide (x ∉ F.map (·.1))), .int .i64 (if factB x = true then 0 else 81)]) ∧ (BS g' (k + 1) (addF F x) ∧ g'.p = g.p) ∧ Turns (baseA g) (baseA g') w w' := by
  have h1 := b.vk
  have h2 := b.rk
  have h3 := b.fk
  have h4 := b.fs.length_eq
  refine (badd_calls g b.ok x a c hl hs (by omega) (by omega) (by omega) w hN hN1 hr hne hA).mono ?_
  rintro e w' ⟨he, g', ok, hp, hf, hv, hrs, ht⟩
  have hx : (x ∉ (factsB g).map (·.1)) ↔ (x ∉ F.map (·.1)) := not_congr (b.mem x)
  exact ⟨g', by rw [he]; simp only [hx], ⟨b.add ok hf hv hrs, hp⟩, ht⟩
theorem bturn_bs (g : BaseG) (k : Nat) (F : List (At × Nat)) (b : BS g k F) (w : World) (hA : Holds (baseA g) w) :
    Calls Tryz.prog 25 #[ptr g.p] w fun e w' => ∃ g', e = .returned (.int .i64 ((n4F F : Nat) : Int)) ∧ (BS g' k (turnF F) ∧ g'.p = g.p) ∧ Turns (baseA g) (baseA g') w w' := by
  refine (bturn_calls g b.ok w hA).mono ?_
  rintro e w' ⟨he, ht⟩
  exact ⟨turnB g, by rw [he, n4F_perm b.fs], ⟨b.turn, rfl⟩, ht⟩
structure AnsA where
  g : BaseG
  a : Option Addr
  c : Nat
  ys : List AG
theorem bfacts_bs (g : BaseG) (k : Nat) (F : List (At × Nat)) (b : BS g k F) (parts : Int) (w : World) (hA : Holds (baseA g) w) :
    Calls Tryz.prog 12 #[ptr g.p, .int .i64 parts] w fun e w' => ∃ z : AnsA, e = .returned (.slice z.a z.ys.length z.c) ∧ (z.ys.map AG.x = sortA (selF F parts) ∧ BS z.g k F ∧ z.g.p = g.p ∧ (∀ y ∈ z.ys, y.x.args.length ≤ 8) ∧ z.ys.length ≤ k) ∧ Turns (baseA g) (baseA z.g ++ atsA z.a z.c z.ys) w w' := by
  refine (bfacts_calls g b.ok parts w hA).mono ?_
  rintro e w' ⟨g1, la, lc, ys, he, hx, hs, ht⟩
  have hx2 : ys.map AG.x = sortA (selF F parts) := by rw [hx, sortA_congr (selF_perm b.fs parts)]
  refine ⟨⟨g1, la, lc, ys⟩, he, ⟨hx2, b.same hs, hs.p, fun y hy => ?_, ?_⟩, ht⟩
  · have h1 : y.x ∈ sortA (selF (factsB g) parts) := by rw [← hx]; exact List.mem_map.2 ⟨y, hy, rfl⟩
    have h2 := (sortA_perm _).mem_iff.1 h1
    obtain ⟨q, hq, he⟩ := List.mem_map.1 h2
    exact facts_args b.ok (by rw [← he]; exact List.mem_map.2 ⟨q, (List.mem_filter.1 hq).1, rfl⟩)
  · have h1 := congrArg List.length hx2
    rw [List.length_map, (sortA_perm _).length_eq, selF, List.length_map] at h1
    have := List.length_filter_le (fun q : At × Nat => inP parts q.2) F
    have := b.fk
    show ys.length ≤ k
    have h2 : ys.length = (F.filter fun q => inP parts q.2).length := h1
    omega
theorem RT.of_own {w0 ws w : World} {M I : Nat → Prop} {ow : List Hw.Item} (hw : Sat w0 M I ws ow w) {b : Nat} {t : Tm} {f : Nat × Nat} {T : TypeId} (hm : own b (.cells (tmC t).toArray T f) ∈ ow) : RT w (some ⟨b, 0, none⟩) [t] := by
  refine ⟨(fun h => by cases h), fun q hq i u hu j v hv => ?_⟩
  cases hq
  have hi : i = 0 := by have := (List.getElem?_eq_some_iff.1 hu).1; simpa using this
  subst hi
  simp only [List.getElem?_cons_zero, Option.some.injEq] at hu
  subst hu
  have h := own_cells hw hm j v hv
  have e : ((⟨b, 0, none⟩ : Addr).add (0 * 3)).add j = ⟨b, j, none⟩ := by rw [Nat.zero_mul, addr_add0, add_off, Nat.zero_add]
  rw [e]; exact h

theorem lfact_calls (n : Int) (w : World) : Calls Tryz.prog 27 #[.int .i64 n] w fun e w' => ∃ b, e = .returned (atV (factP n) (some ⟨b, 0, none⟩) 1) ∧ Turns [] [own b (.cells (tmC ⟨1, n, E0⟩).toArray 31 (0, 0))] w w' := by
  refine enterS (args := [.int .i64 n]) (fun _ => False) Tryz.func27 rfl Tryz.ntmps27 rfl rfl ?_
  refine Csr (WL.alloc T.zr34 rfl ?_)
  intro b2
  refine Nn (Csr (Zm rfl (Zv (OV.buildStruct (xs := [(0, .const (.int .i64 1)), (1, .tmp 3)]) (pl := [(0, 1), (1, 1), (2, 1)]) (cs := tmC ⟨1, n, E0⟩) T.u31 T.zr31 (by kernel_rfl) rfl (fill_cons (us := [_]) rfl rfl (Nat.le_of_ble_eq_true rfl) (fill_cons (us := [_]) rfl rfl (Nat.le_of_ble_eq_true rfl) rfl))) (WL.buildSliceA (cs := tmC ⟨1, n, E0⟩) T.u32 T.z31 T.zr31 rfl rfl (by omega) (by omega) rfl ?_))))
  intro b5
  refine Zv (OV.buildStruct (xs := [(1, .const (.string ⟨#[112]⟩)), (2, .tmp 5)]) (pl := [(0, 3), (3, 1), (4, 1)]) (cs := atC (factP n) (some ⟨b5, 0, none⟩) 1) T.u34 T.zr34 (by kernel_rfl) rfl (fill_cons (us := [_]) rfl rfl (Nat.le_of_ble_eq_true rfl) (fill_cons (us := [_]) rfl rfl (Nat.le_of_ble_eq_true rfl) rfl))) ?_
  refine WL.focus perm1 (WL.storeAll (vs := atC (factP n) (some ⟨b5, 0, none⟩) 1) rfl rfl rfl T.z34 rfl ?_)
  refine Nn (WC.ret ?_)
  refine WX.retC (cs := atC (factP n) (some ⟨b5, 0, none⟩) 1) rfl rfl rfl T.u34 rfl T.z34 (fun w' hw j v hj => own_cells hw (.head _) j v hj) (fun w' hw => ⟨b5, rfl, ?_⟩)
  exact (hw.pick [[own b2 (.cells (atC (factP n) (some ⟨b5, 0, none⟩) 1).toArray 34 (0, 0))], [own b5 (.cells (tmC ⟨1, n, E0⟩).toArray 31 (0, 0))]] [1] 2 rfl (by decide) (by decide)).turned0

end Go.Proofs.YtgiiifadbnpfkaaGreatDoor

set_option maxRecDepth 10000
namespace Go.Proofs.YtgiiifadbnpfkaaGreatDoor
open Go Go.Hw
set_option linter.unusedSimpArgs false
set_option linter.unusedVariables false
theorem cloneT_calls (ts : List Tm) (a : Option Addr) (c : Nat) (hm : ts.length ≤ 1099511627776) (w : World) (hr : RT w a ts) : Calls Tryz.prog 52 #[.slice a ts.length c] w fun e w' => ∃ a' c', e = .returned (.slice a' ts.length c') ∧ Turns [] [rowT a' c' ts] w w' := by
  refine enterS (args := [.slice a ts.length c]) (fun _ => False) Tryz.func52 rfl Tryz.ntmps52 rfl rfl ?_
  refine Csr (Za rfl (Nn (Cs (Csr (Zm rfl (Zv (OV.eqlSN T.u32 rfl rfl) (Nn ?_)))))))
  refine WC.cond rfl (fun c4 => ?_) (fun c4 => ?_)
  · skip -- c4
    refine Csr (Za rfl (Nn (WC.ret ?_)))
    refine Xr ?_
    have hn : a = none := by cases a <;> simp at c4; rfl
    have hl : ts = [] := List.eq_nil_of_length_eq_zero (hr.nil hn)
    subst hl
    exact WX.ret1 rfl rfl rfl (fun w hw => ⟨none, 0, rfl, (hw.rowNil 31 3).turned0⟩)
  skip -- c4
  refine Ck (Xn (Csr (WL.buildSlice0 T.u32 T.z31 rfl ?_)))
  intro b5
  refine Zm rfl (WL.append (news := ts.flatMap tmC) rfl rfl T.apT (fun _ _ => Src.of_rt hr.nil (fun _ hw => hr.keeps hw.keeps)) (tms_one _) ⟨by omega, by unfold maxLen; omega⟩ rfl ?_)
  intro a7 c7
  refine Za rfl (Nn (WC.ret ?_))
  refine WX.ret1 rfl rfl rfl (fun w hw => ⟨a7, c7, by rw [Nat.zero_add], ?_⟩)
  rw [List.nil_append, Nat.zero_add] at hw
  exact hw.turned0

theorem bfind_calls (g : BaseG) (parts : Int) (x : At) (a : Option Addr) (c : Nat) (hl : x.args.length ≤ 1099511627776) (w : World) (hr : RT w a x.args) : Calls Tryz.prog 22 #[ptr g.p, .int .i64 parts, atV x a c] w fun e w' => ∃ z : Nat × Nat × Nat × Option Addr × Nat, e = .returned (.func (.func 53) #[] #[ptr z.1, ptr z.2.1, ptr z.2.2.1]) ∧ Turns [] [own z.1 (.cells [ptr g.p].toArray 23 (0, 0)), own z.2.1 (.cells [.int .i64 parts].toArray 3 (0, 0)), own z.2.2.1 (.cells (atC x z.2.2.2.1 z.2.2.2.2).toArray 34 (0, 0)), rowT z.2.2.2.1 z.2.2.2.2 x.args] w w' := by
  refine enterS (args := [ptr g.p, .int .i64 parts, atV x a c]) (fun _ => False) Tryz.func22 rfl Tryz.ntmps22 rfl rfl ?_
  refine Csr (WL.box rfl rfl rfl ?_)
  intro b3
  refine WL.box rfl rfl rfl ?_
  intro b4
  refine WL.box rfl rfl rfl ?_
  intro b5
  refine Za rfl (Nn (Cs (Hd (fun w' => w'.heap[b5]? = some (.cells (atC x a c).toArray 34 (0, 0))) [] (fun _ hw => hw.it (own b5 _) (by simp)) (m := 10) rfl ?_)))
  refine Hf 0 rfl (OV.fieldAddr0 (off := 0) rfl T.u34 rfl) (Ht 1 rfl (OV.loadN (cs := tmC x.b) rfl T.u31 rfl T.z31 (fun _ hw j v hj => by rw [add_off]; exact heap_part hw (o := 0) (cs' := tmC x.b) rfl j v hj)) (Hf 2 rfl (OV.fieldAddr0 (off := 3) rfl T.u34 rfl) (Ht 3 rfl (OV.load1 (v := .string x.name) rfl T.u9 rfl (fun _ hw => (cell_at hw (o := 3) rfl).1)) (Hf 4 rfl (OV.fieldAddr0 (off := 4) rfl T.u34 rfl) (Ht 5 rfl (OV.load1 (v := .slice a x.args.length c) rfl T.u32 rfl (fun _ hw => (cell_at hw (o := 4) rfl).1)) ?_)))))
  refine Hr (WH.two 6 8 rfl rfl (by kernel_rfl) (listed1 := [true, true, true, true, true, true, true, false, false, false]) rfl (listed2 := [true, true, true, true, true, true, false, false, true, false]) rfl (fl1 := false) rfl (fl2 := false) rfl ?_ ?_)
  · refine WL.callTA (ι := Option Addr × Nat) (vs := [.slice a x.args.length c]) (vv := fun q => .slice q.1 x.args.length q.2) (pp := fun _ => True) [] (AA := fun q => [rowT q.1 q.2 x.args]) rfl (by kernel_rfl) rfl rfl (fun w' hw' _ => (cloneT_calls x.args a c hl w' (hr.keeps hw'.keeps)).mono (fun en w'' ⟨la, lc, h1, h2⟩ => ⟨(la, lc), h1, trivial, h2⟩)) ?_
    rintro ⟨la, lc⟩ _
    refine Hc (fun _ => (fun _ hw => hw.it (own b5 _) (by simp))) ?_
    refine Hf 7 rfl (OV.buildStruct (xs := [(0, .tmp 9), (1, .tmp 11), (2, .tmp 14)]) (pl := [(0, 3), (3, 1), (4, 1)]) (cs := atC x la lc) T.u34 T.zr34 (by kernel_rfl) rfl (fill_cons (us := tmC x.b) rfl rfl (Nat.le_of_ble_eq_true rfl) (fill_cons (us := [_]) rfl rfl (Nat.le_of_ble_eq_true rfl) (fill_cons (us := [_]) rfl rfl (Nat.le_of_ble_eq_true rfl) rfl)))) (Ho 8 rfl (fl' := false) rfl ?_)
    refine WL.alloc T.zr34 rfl ?_
    intro b7
    refine Hc (fun _ => (fun _ hw => hw.it (own b5 _) (by simp))) ?_
    refine Ho 9 rfl (fl' := false) rfl ?_
    refine WL.storeAll (vs := atC x la lc) rfl rfl rfl T.z34 rfl ?_
    refine Hc (fun _ => (fun _ hw => hw.it (own b5 _) (by simp))) ?_
    refine He (Xn (Csr (Zv (OV.makeFunc rfl) (Za rfl (Nn (WC.ret ?_))))))
    refine WX.ret1 rfl rfl rfl (fun w' hw => ⟨(b3, b4, b7, la, lc), rfl, ?_⟩)
    exact (hw.pick [[own b7 (.cells (atC x la lc).toArray 34 (0, 0))], [rowT la lc x.args], [own b5 (.cells (atC x a c).toArray 34 (0, 0))], [own b4 (.cells [.int .i64 parts].toArray 3 (0, 0))], [own b3 (.cells [ptr g.p].toArray 23 (0, 0))]] [4, 3, 0, 1] 5 rfl (by decide) (by decide)).turned0
  refine WL.alloc T.zr34 rfl ?_
  intro b7
  refine Hc (fun _ => (fun _ hw => hw.it (own b5 _) (by simp))) ?_
  refine Ho 6 rfl (fl' := false) rfl ?_
  refine WL.callTA (ι := Option Addr × Nat) (vs := [.slice a x.args.length c]) (vv := fun q => .slice q.1 x.args.length q.2) (pp := fun _ => True) [] (AA := fun q => [rowT q.1 q.2 x.args]) rfl (by kernel_rfl) rfl rfl (fun w' hw' _ => (cloneT_calls x.args a c hl w' (hr.keeps hw'.keeps)).mono (fun en w'' ⟨la, lc, h1, h2⟩ => ⟨(la, lc), h1, trivial, h2⟩)) ?_
  rintro ⟨la, lc⟩ _
  refine Hc (fun _ => (fun _ hw => hw.it (own b5 _) (by simp))) ?_
  refine Hf 7 rfl (OV.buildStruct (xs := [(0, .tmp 9), (1, .tmp 11), (2, .tmp 14)]) (pl := [(0, 3), (3, 1), (4, 1)]) (cs := atC x la lc) T.u34 T.zr34 (by kernel_rfl) rfl (fill_cons (us := tmC x.b) rfl rfl (Nat.le_of_ble_eq_true rfl) (fill_cons (us := [_]) rfl rfl (Nat.le_of_ble_eq_true rfl) (fill_cons (us := [_]) rfl rfl (Nat.le_of_ble_eq_true rfl) rfl)))) (Ho 9 rfl (fl' := false) rfl ?_)
  refine WL.focus perm1 (WL.storeAll (vs := atC x la lc) rfl rfl rfl T.z34 rfl ?_)
  refine Hc (fun _ => (fun _ hw => hw.it (own b5 _) (by simp))) ?_
  refine He (Xn (Csr (Zv (OV.makeFunc rfl) (Za rfl (Nn (WC.ret ?_))))))
  refine WX.ret1 rfl rfl rfl (fun w' hw => ⟨(b3, b4, b7, la, lc), rfl, ?_⟩)
  exact (hw.pick [[own b7 (.cells (atC x la lc).toArray 34 (0, 0))], [rowT la lc x.args], [own b5 (.cells (atC x a c).toArray 34 (0, 0))], [own b4 (.cells [.int .i64 parts].toArray 3 (0, 0))], [own b3 (.cells [ptr g.p].toArray 23 (0, 0))]] [4, 3, 0, 1] 5 rfl (by decide) (by decide)).turned0

end Go.Proofs.YtgiiifadbnpfkaaGreatDoor

set_option maxRecDepth 10000
namespace Go.Proofs.YtgiiifadbnpfkaaGreatDoor
open Go Go.Hw
set_option linter.unusedSimpArgs false
set_option linter.unusedVariables false
theorem NoneAt.lt {w : World} (h : NoneAt w) : 1 < w.heap.size := World.block_lt_of_cell? w ⟨1, 0, none⟩ (h 0 _ rfl)
theorem fact5 : factB (factP 5) = true := by kernel_rfl
theorem add5a : addF [] (factP 5) = [(factP 5, 4)] := by
  unfold addF; rw [if_pos ⟨fact5, by simp⟩]; rfl
theorem add5b : addF [(factP 5, 4)] (factP 5) = [(factP 5, 4)] := by
  unfold addF; rw [if_neg (by simp)]
theorem sel5 : sortA (selF [(factP 5, 2)] 2) = [factP 5] := by
  have h : selF [(factP 5, 2)] 2 = [factP 5] := by
    unfold selF
    rw [List.filter_cons, if_pos (by rfl)]; rfl
  rw [h]; exact List.mergeSort_singleton _

theorem first_calls (w : World) (hN : NoneAt w) : Calls Tryz.prog 18 #[] w fun e w' => e = .returned (.bool true) ∧ Fr0 w w' := by
  refine enterS (args := []) (fun _ => False) Tryz.func18 rfl Tryz.ntmps18 rfl rfl ?_
  refine Csr (Za rfl (Nn (Csr (WL.callTA (ι := Nat × Nat) (vs := []) (vv := fun z => ptr z.1) (pp := fun _ => True) [] (AA := fun z => baseA ⟨z.1, none, none, 0, [], z.2, []⟩) rfl (by kernel_rfl) rfl rfl (fun w' hw' _ => (bnew_calls w').mono (fun en w'' ⟨p, rb, h1, h2⟩ => ⟨(p, rb), h1, trivial, h2⟩)) ?_))))
  rintro ⟨pg0, rbg0⟩ _
  obtain ⟨g0, eg0⟩ : ∃ g : BaseG, g = ⟨pg0, none, none, 0, [], rbg0, []⟩ := ⟨_, rfl⟩
  have bsg0 : BS g0 0 [] := by rw [eg0]; exact new_bs _ _
  have hpg0 : g0.p = pg0 := by rw [eg0]
  rw [show ptr (pg0, rbg0).1 = ptr g0.p from by rw [hpg0]]
  refine WL.focus (ow' := baseA g0) (List.Perm.of_eq (by rw [List.append_nil]; exact congrArg baseA (eg0.trans (rfl)))) ?_
  refine Za rfl (Nn (Cs (Csr (Zm rfl (Zv (OV.eqlPN T.u23 rfl rfl) (Nn (WC.condF rfl ?_)))))))
  refine Ck (Xn (Csr (Zm rfl (WL.callTA (ι := Nat) (vs := [.int .i64 5]) (vv := fun b => atV (factP 5) (some ⟨b, 0, none⟩) 1) (pp := fun _ => True) [] (AA := fun b => [own b (.cells (tmC ⟨1, 5, E0⟩).toArray 31 (0, 0))]) rfl (by kernel_rfl) rfl rfl (fun w' hw' _ => (lfact_calls 5 w').mono (fun en w'' ⟨b, h1, h2⟩ => ⟨b, h1, trivial, h2⟩)) ?_))))
  rintro f1 _
  refine WL.focus (ow' := baseA g0 ++ ([own f1 (.cells (tmC ⟨1, 5, E0⟩).toArray 31 (0, 0))])) (perm_cat [[own f1 (.cells (tmC ⟨1, 5, E0⟩).toArray 31 (0, 0))], baseA g0] [1, 0] (by decide) rfl) ?_
  refine WL.callTA (ι := BaseG) (vs := [ptr g0.p, atV (factP 5) (some ⟨f1, 0, none⟩) 1]) (vv := fun _ => .tuple #[.bool true, .int .i64 0]) (pp := fun g' => BS g' (0 + 1) [(factP 5, 4)] ∧ g'.p = g0.p) (baseA g0) (AA := fun g' => baseA g') rfl (by kernel_rfl) (by rfl) rfl (fun w' hw' hH => (badd_bs g0 0 [] bsg0 (by decide) (factP 5) (some ⟨f1, 0, none⟩) 1 (by decide) (by decide) w' (hN.keeps hw'.keeps) (Sat.sepI hw' hN.lt) (RT.of_own hw' (List.mem_append_right _ (.head _))) (fun q hq _ => by cases hq; exact Sat.sepO hw' (i := own f1 (.cells (tmC ⟨1, 5, E0⟩).toArray 31 (0, 0))) (.head _) rfl) hH).mono (fun en w'' ⟨g', h1, h2, h3⟩ => ⟨g', by rw [h1, fact5]; rfl, by first | rwa [add5a] at h2 | rwa [add5b] at h2, h3⟩)) ?_
  rintro g1 ⟨bsg1, hpg1⟩
  refine Zm rfl (Zv (OV.extract rfl rfl) (Zv (OV.extract rfl rfl) (Za rfl (Za rfl (Nn (Csr (Zm rfl (WL.callTA (ι := Nat) (vs := [.int .i64 5]) (vv := fun b => atV (factP 5) (some ⟨b, 0, none⟩) 1) (pp := fun _ => True) [] (AA := fun b => [own b (.cells (tmC ⟨1, 5, E0⟩).toArray 31 (0, 0))]) rfl (by kernel_rfl) rfl rfl (fun w' hw' _ => (lfact_calls 5 w').mono (fun en w'' ⟨b, h1, h2⟩ => ⟨b, h1, trivial, h2⟩)) ?_))))))))
  rintro f2 _
  refine WL.focus (ow' := baseA g1 ++ ([own f2 (.cells (tmC ⟨1, 5, E0⟩).toArray 31 (0, 0))] ++ ([own f1 (.cells (tmC ⟨1, 5, E0⟩).toArray 31 (0, 0))]))) (perm_cat [[own f2 (.cells (tmC ⟨1, 5, E0⟩).toArray 31 (0, 0))], baseA g1, [own f1 (.cells (tmC ⟨1, 5, E0⟩).toArray 31 (0, 0))]] [1, 0, 2] (by decide) rfl) ?_
  refine WL.callTA (ι := BaseG) (vs := [ptr g1.p, atV (factP 5) (some ⟨f2, 0, none⟩) 1]) (vv := fun _ => .tuple #[.bool false, .int .i64 0]) (pp := fun g' => BS g' (1 + 1) [(factP 5, 4)] ∧ g'.p = g1.p) (baseA g1) (AA := fun g' => baseA g') rfl (by kernel_rfl) (by rw [hpg1]; rfl) rfl (fun w' hw' hH => (badd_bs g1 1 [(factP 5, 4)] bsg1 (by decide) (factP 5) (some ⟨f2, 0, none⟩) 1 (by decide) (by decide) w' (hN.keeps hw'.keeps) (Sat.sepI hw' hN.lt) (RT.of_own hw' (List.mem_append_right _ (.head _))) (fun q hq _ => by cases hq; exact Sat.sepO hw' (i := own f2 (.cells (tmC ⟨1, 5, E0⟩).toArray 31 (0, 0))) (.head _) rfl) hH).mono (fun en w'' ⟨g', h1, h2, h3⟩ => ⟨g', by rw [h1, fact5]; rfl, by first | rwa [add5a] at h2 | rwa [add5b] at h2, h3⟩)) ?_
  rintro g2 ⟨bsg2, hpg2⟩
  refine Zm rfl (Zv (OV.extract rfl rfl) (Zv (OV.extract rfl rfl) (Za rfl (Za rfl (Nn (Csr (Zm rfl (WL.callTA (ι := BaseG) (vs := [ptr g2.p]) (vv := fun _ => .int .i64 1) (pp := fun g' => BS g' 2 [(factP 5, 2)] ∧ g'.p = g2.p) (baseA g2) (AA := fun g' => baseA g') rfl (by kernel_rfl) (by rw [hpg2, hpg1]; rfl) rfl (fun w' hw' hH => (bturn_bs g2 2 _ bsg2 w' hH).mono (fun en w'' ⟨g', h1, h2, h3⟩ => ⟨g', h1, h2, h3⟩)) ?_))))))))
  rintro g3 ⟨bsg3, hpg3⟩
  refine Za rfl (Nn (Csr (Zm rfl (WL.callTA (ι := AnsA) (vs := [ptr g3.p, .int .i64 2]) (vv := fun z => .slice z.a 1 z.c) (pp := fun z => z.ys.map AG.x = [factP 5]) (baseA g3) (AA := fun z => baseA z.g ++ atsA z.a z.c z.ys) rfl (by kernel_rfl) (by rw [hpg3, hpg2, hpg1]; rfl) rfl (fun w' hw' hH => (bfacts_bs g3 2 _ bsg3 2 w' hH).mono (fun en w'' ⟨z, h1, h2, h3⟩ => ⟨z, by rw [h1, show z.ys.length = 1 from by have h := congrArg List.length h2.1; rw [sel5, List.length_map] at h; exact h], by rw [h2.1, sel5], h3⟩)) ?_))))
  rintro z hz
  obtain ⟨y, hy⟩ : ∃ y, z.ys = [y] := by
    have h := congrArg List.length hz
    rw [List.length_map] at h
    exact List.length_eq_one_iff.1 h
  have hyx : y.x = factP 5 := by rw [hy] at hz; simpa using hz
  refine Za rfl (Nn (Cs ?_))
  refine WC.know (fun w' hw => (show ∃ q, z.a = some ⟨q, 0, none⟩ from row_addrK (hw.it (rowAt z.a z.c z.ys) (by simp [atsA])) (by rw [hy]; exact Nat.one_pos))) (fun hza => ?_)
  refine Hd (fun w' => (rowAt z.a z.c z.ys).φ w') [] (fun _ hw => hw.it _ (by simp [atsA])) (m := 30) rfl ?_
  refine Hf 0 rfl (OV.move rfl) (Hf 1 rfl (OV.move rfl) (Hk (t := 28) (b := true) rfl (by rfl) ?_))
  refine Hfg 2 rfl rfl rfl rfl (OV.move rfl) (Hfg 3 rfl rfl rfl rfl (OV.not rfl) (Hf 4 rfl (OV.pickT rfl rfl) (Hf 5 rfl (OV.move rfl) (Hk (t := 32) (b := true) rfl (by rfl) ?_))))
  refine Hfg 6 rfl rfl rfl rfl (OV.move rfl) (Hfg 7 rfl rfl rfl rfl (OV.eql rfl rfl) (Hf 8 rfl (OV.pickT rfl rfl) (Hf 9 rfl (OV.move rfl) (Hk (t := 36) (b := true) rfl (by rfl) ?_))))
  refine Hfg 10 rfl rfl rfl rfl (OV.move rfl) (Hfg 11 rfl rfl rfl rfl (OV.eql rfl rfl) (Hf 12 rfl (OV.pickT rfl rfl) (Hf 13 rfl (OV.move rfl) (Hk (t := 40) (b := true) rfl (by rfl) ?_))))
  refine Hfg 14 rfl rfl rfl rfl (OV.move rfl) (Hfg 15 rfl rfl rfl rfl (OV.eql rfl rfl) (Hf 16 rfl (OV.pickT rfl rfl) (Hf 17 rfl (OV.move rfl) (Hk (t := 44) (b := true) rfl (by rfl) ?_))))
  refine Hfg 18 rfl rfl rfl rfl (OV.move rfl) (Hfg 19 rfl rfl rfl rfl (OV.lenSlice rfl T.u27) (Hfg 20 rfl rfl rfl rfl (OV.eql rfl rfl) (Hf 21 rfl (OV.pickT rfl rfl) (Hf 22 rfl (OV.move rfl) (Hk (t := 49) (b := true) rfl (by rfl) ?_)))))
  refine Hfg 23 rfl rfl rfl rfl (OV.move rfl) ?_
  obtain ⟨q, hq⟩ := hza
  refine Hfg 24 rfl rfl rfl rfl ((OV.indexSlice (show _ = some (Value.slice (some ⟨q, 0, none⟩) 1 z.c) by rw [← hq]; rfl) rfl T.u27 T.z34 (by omega)).cast (u := .pointer (some ((⟨q, 0, none⟩ : Addr).add (0 * 5)))) rfl) (Htg 25 rfl rfl rfl rfl (OV.loadN (cs := agC y) rfl T.u34 rfl T.z34 (fun _ hw j v hj => by have h := row_cellsφE hq hw j v (by rw [hy]; simpa using hj); rwa [Nat.zero_mul, addr_add0])) (Ho 26 rfl (fl' := false) rfl ?_))
  refine Zg rfl rfl rfl (WL.callTA (ι := Nat) (vs := [.int .i64 5]) (vv := fun b => atV (factP 5) (some ⟨b, 0, none⟩) 1) (pp := fun _ => True) [] (AA := fun b => [own b (.cells (tmC ⟨1, 5, E0⟩).toArray 31 (0, 0))]) rfl (by kernel_rfl) rfl rfl (fun w' hw' _ => (lfact_calls 5 w').mono (fun en w'' ⟨b, h1, h2⟩ => ⟨b, h1, trivial, h2⟩)) ?_)
  rintro f3 _
  refine Hc (fun _ => (fun _ hw => hw.it _ (by simp [atsA]))) ?_
  refine Ho 27 rfl (fl' := false) rfl ?_
  refine Zg rfl rfl rfl (WL.call0 (v := .bool true) (vs := [atV y.x y.a y.c, atV (factP 5) (some ⟨f3, 0, none⟩) 1]) (by kernel_rfl) rfl rfl (fun w' hw' => (sameAtom_calls y.x (factP 5) y.a (some ⟨f3, 0, none⟩) y.c 1 (by rw [hyx]; decide) (by decide) w' (RT.of_row (c := y.c) rfl hw' (by simp [atsA, hy, argsA])) (RT.of_own hw' (.head _))).mono (fun en w'' ⟨h1, h2⟩ => ⟨by rw [h1, hyx, decide_eq_true rfl], h2⟩)) ?_)
  refine Hc (fun _ => (fun _ hw => hw.it _ (by simp [atsA]))) ?_
  refine Hf 28 rfl (OV.pickT rfl rfl) (Hf 29 rfl (OV.assign rfl) (He (Xn (WC.ret ?_))))
  exact WX.ret1 rfl rfl rfl (fun w' hw => ⟨rfl, hw.fr⟩)

end Go.Proofs.YtgiiifadbnpfkaaGreatDoor

set_option maxRecDepth 10000
namespace Go.Proofs.YtgiiifadbnpfkaaGreatDoor
open Go Go.Hw
set_option linter.unusedSimpArgs false
set_option linter.unusedVariables false
/-! ### Rounds of atoms, as they were handed in -/
structure RG where
  ys : List AG
  a : Option Addr
  c : Nat
/-- A list of lists of atoms. -/
structure RR (w : World) (a : Option Addr) (rs : List RG) : Prop where
  nil : a = none → rs.length = 0
  at_ : ∀ q, a = some q → ∀ i r, rs[i]? = some r → w.cell? (q.add i) = some (.slice r.a r.ys.length r.c)
  each : ∀ r ∈ rs, RA w r.a r.ys
theorem RR.get {w : World} {a : Option Addr} {rs : List RG} (h : RR w a rs) {i : Nat} (hi : i < rs.length) : ∃ q r, a = some q ∧ rs[i]? = some r ∧ r ∈ rs ∧ RA w r.a r.ys ∧ w.cell? (q.add i) = some (.slice r.a r.ys.length r.c) := by
  cases a with
  | none => have := h.nil rfl; omega
  | some q => exact ⟨q, rs[i], rfl, List.getElem?_eq_getElem hi, List.getElem_mem hi, h.each _ (List.getElem_mem hi), h.at_ q rfl i _ (List.getElem?_eq_getElem hi)⟩
theorem BS.mono {g : BaseG} {k m : Nat} {F : List (At × Nat)} (b : BS g k F) (h : k ≤ m) : BS g m F := ⟨b.ok, b.fs, by have := b.vk; omega, by have := b.rk; omega, by have := b.fk; omega⟩
theorem addF_not {F : List (At × Nat)} {x : At} (h : factB x = false) : addF F x = F := by
  unfold addF; rw [if_neg (fun k => by rw [h] at k; cases k.1)]
theorem drop_cons {α : Type} {l : List α} {j : Nat} {x : α} (h : l[j]? = some x) : l.drop j = x :: l.drop (j + 1) := by
  obtain ⟨hj, rfl⟩ := List.getElem?_eq_some_iff.1 h
  exact List.drop_eq_getElem_cons hj

end Go.Proofs.YtgiiifadbnpfkaaGreatDoor

set_option maxRecDepth 10000
namespace Go.Proofs.YtgiiifadbnpfkaaGreatDoor
open Go Go.Hw
set_option linter.unusedSimpArgs false
set_option linter.unusedVariables false
section
open Go.ChangeShapes Go.WideShapes Go.ChangeAt Go.RowKit
variable {H : Type} {enc : TypeId × Value → H} {w : World} {base : Nat} {spare : Nat → Bool} {held : Bool} {r : Reach} {b0 : Nat}
def inI (k : Int) : Prop := -9223372036854775808 ≤ k ∧ k ≤ 9223372036854775807
theorem getD_at {α : Type} {l : List α} {i : Nat} {x d : α} (h : l[i]? = some x) : l.getD i d = x := by rw [List.getD_eq_getElem?_getD, h]; rfl
theorem len_wt {α : Type} (wt : α → Nat) {k : Nat} (h : ∀ y, k ≤ wt y) (ys : List α) : k * ys.length ≤ (ys.map wt).sum := by
  induction ys with
  | nil => simp
  | cons x ys ih => have := h x; simp only [List.map_cons, List.sum_cons, List.length_cons]; rw [Nat.mul_add]; omega
theorem bulk_sum {α : Type} (dflt : α) (wt : α → Nat) : ∀ (elems : List (DataW H)) (ys : List α), elems.length = ys.length → (∀ i d, elems[i]? = some d → wt (ys.getD i dflt) ≤ Rows.uptoBulk d) → (ys.map wt).sum ≤ Rows.uptoBulkAll elems
  | [], [], _, _ => by simp [Rows.uptoBulkAll]
  | [], _ :: _, h, _ => by simp at h
  | _ :: _, [], h, _ => by simp at h
  | d :: elems, y :: ys, h, hd => by
    have h1 := hd 0 d rfl
    have h2 := bulk_sum dflt wt elems ys (by simpa using h) (fun i d hi => hd (i + 1) d hi)
    simp only [List.getD_cons_zero] at h1
    simp only [List.map_cons, List.sum_cons, Rows.uptoBulkAll]
    omega
/-- A list of things of s cells each. -/
theorem trod_listN {α : Type} (dflt : α) {tt t : TypeId} {s : Nat} {fuel : Nat} {cs : List Value} {x : DataW H × List MemPlace} (htt : Program.underlying Tryz.prog tt = some (.slice t)) (hs : Program.cellsOf Tryz.prog t = s) (en : α → List Value) (hl : ∀ y, (en y).length = s) (G : α → Prop) (wt : α → Nat)
    (hel : ∀ fuel cs x, DataW.trod enc Tryz.prog w base spare held fuel t cs = some x → ∃ y, cs = en y ∧ G y ∧ wt y ≤ Rows.uptoBulk x.1) (h : DataW.trod enc Tryz.prog w base spare held fuel tt cs = some x) :
    ∃ a c, ∃ ys : List α, cs = [.slice a ys.length c] ∧ (a = none → ys.length = 0) ∧ (∀ q, a = some q → ∀ i y, ys[i]? = some y → ∀ j v, (en y)[j]? = some v → w.cell? ((q.add (i * s)).add j) = some v) ∧ (∀ y ∈ ys, G y) ∧ (ys.map wt).sum + 1 ≤ Rows.uptoBulk x.1 := by
  rcases DataW.trod_slice htt h with ⟨rfl, rfl⟩ | ⟨a, len, cap, elems, rest, n, rfl, rfl, rfl, hb, hlc, hcm, hlen, hele, _, _⟩
  · exact ⟨none, 0, [], rfl, fun _ => rfl, (fun q hq => (by cases hq)), (fun y hy => by cases hy), by simp [Rows.uptoBulk]⟩
  · have key : ∀ i, i < len → ∃ y : α, ((∀ j v, (en y)[j]? = some v → w.cell? ((a.add (i * s)).add j) = some v) ∧ G y) ∧ ∀ d, (elems.map (·.1))[i]? = some d → wt y ≤ Rows.uptoBulk d := by
      intro i hi
      have h3 := hele i hi
      rw [hs] at h3
      have h4 : i < elems.length := by omega
      rw [List.getElem?_eq_getElem h4] at h3
      obtain ⟨us, hus, h5⟩ := Option.bind_eq_some_iff.1 h3
      obtain ⟨y, rfl, h6, h7⟩ := hel _ _ _ h5
      have h8 := (World.cells?_some hus).2.2
      refine ⟨y, ⟨fun j v hj => ?_, h6⟩, fun d hd => ?_⟩
      · have hj7 : j < s := by have := (List.getElem?_eq_some_iff.1 hj).1; rw [hl] at this; exact this
        rw [h8 j hj7]; exact hj
      · rw [List.getElem?_map, List.getElem?_eq_getElem h4] at hd
        simp only [Option.map_some, Option.some.injEq] at hd
        rw [← hd]; exact h7
    obtain ⟨ys, hyl, hq⟩ := exists_list dflt _ len key
    refine ⟨some a, cap, ys, by rw [hyl], fun h => (by cases h), fun q hq' i y hy => ?_, fun y hy => ?_, ?_⟩
    · simp only [Option.some.injEq] at hq'
      subst hq'
      have hi : i < len := by have := (List.getElem?_eq_some_iff.1 hy).1; omega
      have h9 := (hq i hi).1.1
      rwa [getD_at hy] at h9
    · obtain ⟨i, hi⟩ := List.mem_iff_getElem?.1 hy
      have hil : i < len := by have := (List.getElem?_eq_some_iff.1 hi).1; omega
      have h9 := (hq i hil).1.2
      rwa [getD_at hi] at h9
    · have := bulk_sum dflt wt (elems.map (·.1)) ys (by simp [hyl, hlen]) (fun i d hd => by
        have hi : i < len := by have := (List.getElem?_eq_some_iff.1 hd).1; simp at this; omega
        exact (hq i hi).2 d hd)
      simp only [Rows.uptoBulk]; omega
theorem inI_of {n : Int} (h : (Lit.int .i64 n).wf = true) : inI n := by simpa [inI, Lit.wf, IntKind.min, IntKind.max, IntKind.signed, IntKind.bits] using h
/-- A term's weight. -/
def wtT (t : Tm) : Nat := t.s.size + 4
set_option maxRecDepth 100000 in
theorem trod_term {fuel : Nat} {cs : List Value} {x : DataW H × List MemPlace} (h : DataW.trod enc Tryz.prog w base spare held fuel 31 cs = some x) :
    ∃ t : Tm, cs = tmC t ∧ (inI t.kind ∧ inI t.n) ∧ wtT t ≤ Rows.uptoBulk x.1 ∧ x.1 = .agg [.lit (.int .i64 t.kind), .lit (.int .i64 t.n), .lit (.string t.s.data.toList)] := by
  obtain ⟨xs, n, rfl, rfl, hl, hxs, hf⟩ := DataW.trod_struct T.u31 h
  have hl3 : cs.length = 3 := by rw [hl]; kernel_rfl
  have cI : Program.cellsOf Tryz.prog 3 = 1 := by kernel_rfl
  have cS : Program.cellsOf Tryz.prog 9 = 1 := by kernel_rfl
  match cs, hl3 with
  | [v0, v1, v2], _ =>
    match xs, hxs with
    | [x0, x1, x2], _ =>
      have k0 : DataW.trod enc Tryz.prog w base spare held n 3 [v0] = some x0 := by
        have k : DataW.trod enc Tryz.prog w base spare held n 3 (List.take (Program.cellsOf Tryz.prog 3) (List.drop 0 [v0, v1, v2])) = some x0 := hf 0 _ rfl
        rw [cI] at k; exact k
      have k1 : DataW.trod enc Tryz.prog w base spare held n 3 [v1] = some x1 := by
        have k : DataW.trod enc Tryz.prog w base spare held n 3 (List.take (Program.cellsOf Tryz.prog 3) (List.drop 1 [v0, v1, v2])) = some x1 := hf 1 _ rfl
        rw [cI] at k; exact k
      have k2 : DataW.trod enc Tryz.prog w base spare held n 9 [v2] = some x2 := by
        have k : DataW.trod enc Tryz.prog w base spare held n 9 (List.take (Program.cellsOf Tryz.prog 9) (List.drop 2 [v0, v1, v2])) = some x2 := hf 2 _ rfl
        rw [cS] at k; exact k
      obtain ⟨kind, e0, rfl, w0⟩ := DataW.trod_int T.u3 k0
      obtain ⟨num, e1, rfl, w1⟩ := DataW.trod_int T.u3 k1
      obtain ⟨s, e2, rfl, w2⟩ := DataW.trod_string T.u9 k2
      simp only [List.cons.injEq, and_true] at e0 e1 e2
      subst e0; subst e1; subst e2
      refine ⟨⟨kind, num, s⟩, rfl, ⟨inI_of w0, inI_of w1⟩, ?_, rfl⟩
      simp only [List.map_cons, List.map_nil, Rows.uptoBulk, Rows.uptoBulkAll, wtT]
      have : s.data.toList.length = s.size := by simp
      omega
/-- An atom's weight. -/
def wtA (y : AG) : Nat := y.x.name.size + y.x.args.length + 7
set_option maxRecDepth 100000 in
theorem trod_atom {fuel : Nat} {cs : List Value} {x : DataW H × List MemPlace} (h : DataW.trod enc Tryz.prog w base spare held fuel 34 cs = some x) :
    ∃ y : AG, cs = agC y ∧ RT w y.a y.x.args ∧ wtA y ≤ Rows.uptoBulk x.1 := by
  obtain ⟨xs, n, rfl, rfl, hl, hxs, hf⟩ := DataW.trod_struct T.u34 h
  have hl5 : cs.length = 5 := by rw [hl]; kernel_rfl
  have cT : Program.cellsOf Tryz.prog 31 = 3 := by kernel_rfl
  have cS : Program.cellsOf Tryz.prog 9 = 1 := by kernel_rfl
  have cL : Program.cellsOf Tryz.prog 32 = 1 := by kernel_rfl
  match cs, hl5 with
  | [v0, v1, v2, v3, v4], _ =>
    match xs, hxs with
    | [x0, x1, x2], _ =>
      have k0 : DataW.trod enc Tryz.prog w base spare held n 31 [v0, v1, v2] = some x0 := by
        have k : DataW.trod enc Tryz.prog w base spare held n 31 (List.take (Program.cellsOf Tryz.prog 31) (List.drop 0 [v0, v1, v2, v3, v4])) = some x0 := hf 0 _ rfl
        rw [cT] at k; exact k
      have k1 : DataW.trod enc Tryz.prog w base spare held n 9 [v3] = some x1 := by
        have k : DataW.trod enc Tryz.prog w base spare held n 9 (List.take (Program.cellsOf Tryz.prog 9) (List.drop 3 [v0, v1, v2, v3, v4])) = some x1 := hf 1 _ rfl
        rw [cS] at k; exact k
      have k2 : DataW.trod enc Tryz.prog w base spare held n 32 [v4] = some x2 := by
        have k : DataW.trod enc Tryz.prog w base spare held n 32 (List.take (Program.cellsOf Tryz.prog 32) (List.drop 4 [v0, v1, v2, v3, v4])) = some x2 := hf 2 _ rfl
        rw [cL] at k; exact k
      obtain ⟨t, e0, _, b0, _⟩ := trod_term k0
      obtain ⟨s, e1, rfl, w1⟩ := DataW.trod_string T.u9 k1
      obtain ⟨a, c, ts, e2, ha, hat, _, b2⟩ := trod_listN (default : Tm) T.u32 (by kernel_rfl) tmC tmC_len (fun _ => True) wtT (fun fuel cs x hx => by
        obtain ⟨t, e, _, hb, _⟩ := trod_term hx
        exact ⟨t, e, trivial, hb⟩) k2
      simp only [tmC, List.cons.injEq, and_true] at e0 e1 e2
      obtain ⟨rfl, rfl, rfl⟩ := e0
      subst e1; subst e2
      refine ⟨⟨⟨t, s, ts⟩, a, c⟩, rfl, ⟨ha, hat⟩, ?_⟩
      have h1 := len_wt wtT (k := 1) (fun y => by unfold wtT; omega) ts
      have h2 : s.data.toList.length = s.size := by simp
      unfold wtT at b0
      simp only [List.map_cons, List.map_nil, Rows.uptoBulk, Rows.uptoBulkAll, wtA]
      omega
set_option maxRecDepth 100000 in
theorem trod_atoms {fuel : Nat} {cs : List Value} {x : DataW H × List MemPlace} (h : DataW.trod enc Tryz.prog w base spare held fuel 27 cs = some x) :
    ∃ a c ys, cs = [.slice a ys.length c] ∧ RA w a ys ∧ (ys.map wtA).sum + 1 ≤ Rows.uptoBulk x.1 := by
  obtain ⟨a, c, ys, e, ha, hat, hg, hb⟩ := trod_listN (⟨default, none, 0⟩ : AG) T.u27 (by kernel_rfl) agC agC_len (fun y => RT w y.a y.x.args) wtA (fun fuel cs x hx => by
    obtain ⟨y, e, h1, h2⟩ := trod_atom hx
    exact ⟨y, e, h1, h2⟩) h
  exact ⟨a, c, ys, e, ⟨ha, hat, hg⟩, hb⟩
theorem le_sum {α : Type} (wt : α → Nat) {ys : List α} {y : α} (h : y ∈ ys) : wt y ≤ (ys.map wt).sum := by
  induction ys with
  | nil => cases h
  | cons x ys ih =>
    rw [List.map_cons, List.sum_cons]
    rcases List.mem_cons.1 h with rfl | h
    · omega
    · have := ih h; omega
/-- term.none, as the row lays it. -/
theorem none_laid {fuel : Nat} {cs : Array Value} {q : List MemPlace} (hg : Program.globalNamed Tryz.prog "hearsay/term.none" = some 1) (hv : w.var? Tryz.prog "hearsay/term.none" = some cs) (hd : DataW.trod enc Tryz.prog w base spare held fuel 31 cs.toList = some (Rows.laid_hearsay_term_none, q)) : NoneAt w := by
  obtain ⟨t, e, _, _, ht⟩ := trod_term hd
  have ht0 : t = T0 := by
    simp only [Rows.laid_hearsay_term_none, DataW.agg.injEq, List.cons.injEq, DataW.lit.injEq, Lit.int.injEq, true_and, Lit.string.injEq, and_true] at ht
    obtain ⟨h1, h2, h3⟩ := ht
    obtain ⟨k, n, s⟩ := t
    simp only at h1 h2 h3
    subst h1; subst h2
    have : s = E0 := by
      obtain ⟨⟨l⟩⟩ := s
      have h4 : ([] : List UInt8) = l := h3
      subst h4; rfl
    rw [this]; rfl
  intro j v hj
  rw [World.var?_cell hg hv j, ← Array.getElem?_toList, e, ht0]
  exact hj
end

end Go.Proofs.YtgiiifadbnpfkaaGreatDoor

set_option maxRecDepth 10000
namespace Go.Proofs.YtgiiifadbnpfkaaGreatDoor
open Go Go.Hw
set_option linter.unusedSimpArgs false
set_option linter.unusedVariables false
structure IG where
  y : AG
  p : Nat
def igC (i : IG) : List Value := agC i.y ++ [.int .i64 (i.p : Int)]
theorem igC_len (i : IG) : (igC i).length = 6 := rfl
theorem igC_one (i : IG) : ∀ v ∈ igC i, v.oneCell' = true := by simp [igC, agC, atC, Value.oneCell']
theorem ig_left {i : IG} {j : Nat} {v : Value} (h : (agC i.y)[j]? = some v) : (igC i)[j]? = some v := by
  have hj := (List.getElem?_eq_some_iff.1 h).1
  unfold igC
  rw [List.getElem?_append_left hj]; exact h
abbrev rowIt (la : Option Addr) (lc : Nat) (is : List IG) : Hw.Item := row 36 6 la is.length lc (is.flatMap igC)
def itsA (la : Option Addr) (lc : Nat) (is : List IG) : List Hw.Item := rowIt la lc is :: argsA (is.map IG.y)
/-- Items that lie one behind the other. -/
structure RIt (w : World) (a : Option Addr) (is : List IG) : Prop where
  nil : a = none → is.length = 0
  at_ : ∀ q, a = some q → ∀ i y, is[i]? = some y → ∀ j v, (igC y)[j]? = some v → w.cell? ((q.add (i * 6)).add j) = some v
  args : ∀ i ∈ is, RT w i.y.a i.y.x.args
theorem RIt.keeps {w w' : World} {a : Option Addr} {is : List IG} (h : RIt w a is) (k : Keeps w w') : RIt w' a is := ⟨h.nil, fun q hq i t ht j v hv => k _ _ (h.at_ q hq i t ht j v hv), fun y hy => (h.args y hy).keeps k⟩
theorem RIt.get {w : World} {a : Option Addr} {is : List IG} (h : RIt w a is) {i : Nat} (hi : i < is.length) : ∃ q y, a = some q ∧ is[i]? = some y ∧ y ∈ is ∧ RT w y.y.a y.y.x.args ∧ ∀ j v, (igC y)[j]? = some v → w.cell? ((q.add (i * 6)).add j) = some v := by
  cases a with
  | none => have := h.nil rfl; omega
  | some q => exact ⟨q, is[i], rfl, List.getElem?_eq_getElem hi, List.getElem_mem hi, h.args _ (List.getElem_mem hi), h.at_ q rfl i _ (List.getElem?_eq_getElem hi)⟩
theorem RIt.of_row {w0 ws w : World} {M I : Nat → Prop} {ow : List Hw.Item} {a : Option Addr} {c : Nat} {is : List IG} (hw : Sat w0 M I ws ow w) (hm : ∀ i ∈ itsA a c is, i ∈ ow) : RIt w a is := by
  have hr : rowIt a c is ∈ ow := hm _ (.head _)
  refine ⟨fun ha => ?_, fun q hq i t ht j v hv => ?_, fun y hy => RT.of_row (c := y.y.c) rfl hw (hm _ (.tail _ (List.mem_map.2 ⟨y.y, List.mem_map.2 ⟨y, hy, rfl⟩, rfl⟩)))⟩
  · rcases (row_base hw hr).2 with ⟨_, h, _⟩ | ⟨b, hb, _⟩
    · exact h
    · rw [ha] at hb; cases hb
  · subst hq
    have hj : j < 6 := (List.getElem?_eq_some_iff.1 hv).1
    have h1 := row_cells hw hr (i * 6 + j) v (by rw [flat_get igC_len is i j t ht hj]; exact hv)
    rwa [add_add] at h1
theorem _root_.Go.Hw.OV.fieldAddrA {P : Program} {n : Nat} {ds : DS} {e : Env} {S : World → Prop} {dst : Option Tmp} {t lt : TypeId} {p : String} {af : Array Edge} {x : Operand} {a : Addr} {f off s : Nat} {fs : Array Field} {g : Option (Nat × Bool)} (hx : ev e x = some (.pointer (some a))) (hu : P.underlying lt = some (.struct fs)) (hf : (fs[f]?).map (fun q => (q.offset, P.sz q.type)) = some (off, some (s + 1))) :
    OV P n ds e S ⟨dst, .fieldAddr lt x f, t, p, af, g⟩ (.pointer (some (a.add off))) := fun _ w ha _ => by
  obtain ⟨q, hq, h⟩ := Option.map_eq_some_iff.1 hf
  simp only [Prod.mk.injEq] at h
  simp [execOp, ha.eval hx, Instr.fieldAt, run_underlying hu, Instr.sureAddr, hq, fieldPlace, Hw.run_sizeOf h.2 w, h.1]
/-- Where an atom stands in a list; -1: nowhere. -/
def placeI (l : List At) (f : At) : Int := if f ∈ l then (l.idxOf f : Int) else -1
theorem idx_first : ∀ {l : List At} {i : Nat} {f : At}, l[i]? = some f → (∀ j, j < i → l[j]? ≠ some f) → l.idxOf f = i
  | [], _, _, h, _ => by simp at h
  | x :: l, 0, f, h, _ => by
    simp only [List.getElem?_cons_zero, Option.some.injEq] at h
    subst h; simp
  | x :: l, i + 1, f, h, hn => by
    have h0 : x ≠ f := fun e => hn 0 (by omega) (by rw [e]; rfl)
    have h1 := idx_first (l := l) (i := i) (f := f) (by simpa using h) (fun j hj => by simpa using hn (j + 1) (by omega))
    rw [List.idxOf_cons, beq_eq_false_iff_ne.2 h0, h1]; rfl
theorem placeI_at {l : List At} {i : Nat} {f : At} (h : l[i]? = some f) (hn : ∀ j, j < i → l[j]? ≠ some f) : placeI l f = (i : Int) := by
  unfold placeI
  rw [if_pos (List.mem_of_getElem? h), idx_first h hn]
theorem placeI_not {l : List At} {f : At} (h : f ∉ l) : placeI l f = -1 := by unfold placeI; rw [if_neg h]
theorem placeI_get {l : List At} {f : At} (h : f ∈ l) : ∃ i : Nat, placeI l f = (i : Int) ∧ i < l.length ∧ l[i]? = some f := by
  refine ⟨l.idxOf f, by unfold placeI; rw [if_pos h], List.idxOf_lt_length_iff.2 h, ?_⟩
  rw [List.getElem?_eq_getElem (List.idxOf_lt_length_iff.2 h)]
  exact congrArg some (List.getElem_idxOf _)
abbrev xsI (is : List IG) : List At := is.map fun i => i.y.x

theorem place_calls (ls : List IG) (a1 : Option Addr) (c1 : Nat) (f : At) (fa : Option Addr) (fc : Nat) (h1 : ls.length ≤ 1099511627776) (hb : ∀ i ∈ ls, i.y.x.args.length ≤ 1099511627776) (hf : f.args.length ≤ 1099511627776) (w : World) (hr1 : RIt w a1 ls) (hr2 : RT w fa f.args) : Calls Tryz.prog 16 #[.slice a1 ls.length c1, atV f fa fc] w fun e w' => e = .returned (.int .i64 (placeI (xsI ls) f)) ∧ Fr0 w w' := by
  refine enterS (args := [.slice a1 ls.length c1, atV f fa fc]) (fun _ => False) Tryz.func16 rfl Tryz.ntmps16 rfl rfl ?_
  refine Csr (WL.box rfl rfl rfl ?_)
  intro b3
  refine Za rfl (Nn (Cs (Csr (Za rfl (Nn (Cb ?_))))))
  refine WC.loop1 (fun (i : Nat) => [(0, .slice a1 ls.length c1), (3, .pointer (some ⟨b3, 0, none⟩)), (5, .int .i64 (i : Int))])
      (fun i w' => (i ≤ ls.length ∧ ∀ j, j < i → (xsI ls)[j]? ≠ some f) ∧ Sat0 w (own b3 (.cells (atC f fa fc).toArray 34 (0, 0)) :: []) w')
      (fun i => ls.length - i) 0 ⟨rfl, rfl, rfl, trivial⟩ (fun w' hw => ⟨⟨by omega, (fun j hj => by omega)⟩, hw⟩) ?_
  intro i
  refine WC.pure (fun hi => ?_)
  obtain ⟨hi, hnf⟩ := hi
  refine Cs (Csr (Zm rfl (Zm rfl (Zv (OV.lenSlice rfl T.u24) (Zv (OV.lss rfl rfl) (Nn ?_))))))
  refine Cc rfl (fun c9 => ?_) (fun c9 => ?_)
  · refine Ck (Xn (Cs (Cb (Cs (Hd (fun w' => Keeps w w' ∧ w'.heap[b3]? = some (.cells (atC f fa fc).toArray 34 (0, 0))) [] (fun _ hw => ⟨hw.keeps, hw.it (own b3 _) (.head _)⟩) (m := 7) rfl ?_)))))
    refine Hf 0 rfl (OV.move rfl) (Hf 1 rfl (OV.move rfl) ?_)
    obtain ⟨q1, t1, rfl, ht1, hm1, hg1, hc1⟩ := hr1.get (i := i) (by omega)
    refine Hf 2 rfl ((OV.indexSlice rfl rfl T.u24 T.z36 (by omega)).cast (u := .pointer (some (q1.add (i * 6)))) (by rw [Int.toNat_natCast])) (Hf 3 rfl ((OV.fieldAddrA (off := 0) rfl T.u36 rfl).cast (u := .pointer (some (q1.add (i * 6)))) (by rw [addr_add0])) (Ht 4 rfl (OV.loadN (cs := agC t1.y) rfl T.u34 rfl T.z34 (fun _ hw j v hj => hw.1 _ _ (hc1 j v (ig_left hj)))) (Ht 5 rfl (OV.loadN (cs := atC f fa fc) rfl T.u34 rfl T.z34 (fun _ hw j v hj => by rw [add_off]; exact heap_part hw.2 (o := 0) (cs' := atC f fa fc) rfl j v hj)) (Ho 6 rfl (fl' := false) rfl ?_))))
    refine WL.call0 (v := .bool (decide (t1.y.x = f))) (by kernel_rfl) rfl rfl (fun w' hw' => sameAtom_calls t1.y.x f t1.y.a fa t1.y.c fc (hb _ hm1) hf w' (hg1.keeps hw'.keeps) (hr2.keeps hw'.keeps)) ?_
    refine Hc (fun _ => (fun _ hw => ⟨hw.keeps, hw.it (own b3 _) (.head _)⟩)) ?_
    refine He (Xn ?_)
    refine Cc rfl (fun c18 => ?_) (fun c18 => ?_)
    · refine Csr (Zm rfl (Za rfl (Nn (WC.ret ?_))))
      refine Xq (Xr (Xr (Xq (Xr ?_))))
      exact WX.ret1 rfl rfl rfl (fun w' hw => ⟨by rw [placeI_at (i := i) (by rw [List.getElem?_map, ht1]; exact congrArg some (by simpa using c18)) hnf], hw.fr⟩)
    refine Ck (Xb (Xn (Cr (Zm rfl (Zv (OV.addN (j := 1) rfl rfl (by omega)) (Za rfl (Nl ?_)))))))
    have hg : ¬ t1.y.x = f := by simpa using c18
    exact WX.round1 (i + 1) ⟨rfl, rfl, rfl, trivial⟩ (fun w' hw => ⟨⟨by omega, fun j hj => by
      rcases Nat.lt_or_ge j i with h | h
      · exact hnf j h
      · rw [show j = i by omega, List.getElem?_map, ht1]
        exact fun e => hg (Option.some.inj e)⟩, hw⟩) (by show ls.length - (i + 1) < ls.length - i; omega)
  refine Ce (Xe (Xe (Xh (Xn (Csr (Za rfl (Nn (WC.ret ?_))))))))
  have hno : f ∉ xsI ls := fun hm => by
    obtain ⟨j, hj⟩ := List.mem_iff_getElem?.1 hm
    have := (List.getElem?_eq_some_iff.1 hj).1
    simp only [List.length_map] at this
    exact hnf j (by omega) hj
  exact WX.ret1 rfl rfl rfl (fun w' hw => ⟨by rw [placeI_not hno], hw.fr⟩)

end Go.Proofs.YtgiiifadbnpfkaaGreatDoor

set_option maxRecDepth 10000
namespace Go.Proofs.YtgiiifadbnpfkaaGreatDoor
open Go Go.Hw
set_option linter.unusedSimpArgs false
set_option linter.unusedVariables false
/-! ### A script, as it was handed in -/
structure OpB where
  kind : Int
  y : AG
  n : Int
  other : Bool
def opB (o : OpB) : List Value := .int .i64 o.kind :: (agC o.y ++ [.int .i64 o.n, .bool o.other])
theorem opB_len (o : OpB) : (opB o).length = 8 := rfl
structure ROp (w : World) (a : Option Addr) (os : List OpB) : Prop where
  nil : a = none → os.length = 0
  at_ : ∀ q, a = some q → ∀ i o, os[i]? = some o → ∀ j v, (opB o)[j]? = some v → w.cell? ((q.add (i * 8)).add j) = some v
  args : ∀ o ∈ os, RT w o.y.a o.y.x.args
theorem ROp.keeps {w w' : World} {a : Option Addr} {os : List OpB} (h : ROp w a os) (k : Keeps w w') : ROp w' a os := ⟨h.nil, fun q hq i t ht j v hv => k _ _ (h.at_ q hq i t ht j v hv), fun y hy => (h.args y hy).keeps k⟩
theorem ROp.get {w : World} {a : Option Addr} {os : List OpB} (h : ROp w a os) {i : Nat} (hi : i < os.length) : ∃ q o, a = some q ∧ os[i]? = some o ∧ o ∈ os ∧ RT w o.y.a o.y.x.args ∧ ∀ j v, (opB o)[j]? = some v → w.cell? ((q.add (i * 8)).add j) = some v := by
  cases a with
  | none => have := h.nil rfl; omega
  | some q => exact ⟨q, os[i], rfl, List.getElem?_eq_getElem hi, List.getElem_mem hi, h.args _ (List.getElem_mem hi), h.at_ q rfl i _ (List.getElem?_eq_getElem hi)⟩
/-- What the atoms of a script may be. -/
structure OBs (os : List OpB) : Prop where
  len : os.length ≤ 1048576
  args : ∀ o ∈ os, o.y.x.args.length ≤ 1099511627775
  name : ∀ o ∈ os, o.y.x.name.size ≤ 1099511627776
def Fis (is : List IG) : List (At × Nat) := is.map fun i => (i.y.x, i.p)
theorem Fis_fst (is : List IG) : (Fis is).map (·.1) = xsI is := by simp [Fis]
def turnI (i : IG) : IG := ⟨i.y, if i.p = 4 then 2 else 1⟩
theorem Fis_turn (is : List IG) : turnF (Fis is) = Fis (is.map turnI) := by simp [Fis, turnF, turnI]
def tuI (l : List IG) (i : Nat) : List IG := (l.take i).map turnI ++ l.drop i
theorem tuI_length (l : List IG) (i : Nat) : (tuI l i).length = l.length := by simp [tuI]; omega
theorem tuI_get {l : List IG} {i : Nat} {n : IG} (h : l[i]? = some n) : (tuI l i)[i]? = some n := by
  have hi := (List.getElem?_eq_some_iff.1 h).1
  rw [tuI, List.getElem?_append_right (by simp; omega)]
  simp [List.length_take, Nat.min_eq_left (Nat.le_of_lt hi), h]
theorem tuI_set {l : List IG} {i : Nat} {n : IG} (h : l[i]? = some n) : (tuI l i).set i (turnI n) = tuI l (i + 1) := by
  obtain ⟨hi, rfl⟩ := List.getElem?_eq_some_iff.1 h
  rw [tuI, tuI, List.set_append_right _ _ (by simp; omega)]
  simp only [List.length_map, List.length_take, Nat.min_eq_left (Nat.le_of_lt hi), Nat.sub_self]
  rw [List.drop_eq_getElem_cons hi, List.take_add_one, List.getElem?_eq_getElem hi, List.map_append, List.append_assoc]
  rfl
theorem tuI_same {l : List IG} {i : Nat} {n : IG} (h : l[i]? = some n) (ht : turnI n = n) : tuI l i = tuI l (i + 1) := by
  rw [← tuI_set h, ht]
  obtain ⟨hi, he⟩ := List.getElem?_eq_some_iff.1 (tuI_get h)
  rw [← he]; exact (List.set_getElem_self hi).symm
theorem tuI_all (l : List IG) : tuI l l.length = l.map turnI := by simp [tuI]
def cnI (l : List IG) : Nat := (l.filter fun i => decide (i.p = 4)).length
theorem cnI_le (l : List IG) (k : Nat) : cnI (l.take k) ≤ k := Nat.le_trans (List.length_filter_le _ _) (by rw [List.length_take]; omega)
theorem cnI_take {l : List IG} {i : Nat} {n : IG} (h : l[i]? = some n) : cnI (l.take (i + 1)) = cnI (l.take i) + if n.p = 4 then 1 else 0 := by
  rw [cnI, cnI, List.take_add_one, h, List.filter_append, List.length_append]
  congr 1
  by_cases h4 : n.p = 4 <;> simp [h4]
theorem n4_Fis (is : List IG) : n4F (Fis is) = cnI is := by
  unfold n4F Fis cnI
  rw [List.filter_map, List.length_map]
  rfl
theorem flat_set {α : Type} {en : α → List Value} {k : Nat} (hk : ∀ x, (en x).length = k) : ∀ (l : List α) (i j : Nat) (x y : α) (v : Value), l[i]? = some x → j < k → (en x).set j v = en y → (l.flatMap en).set (i * k + j) v = (l.set i y).flatMap en
  | [], _, _, _, _, _, h, _, _ => by simp at h
  | z :: l, 0, j, x, y, v, h, hj, he => by
    simp only [List.getElem?_cons_zero, Option.some.injEq] at h
    subst h
    rw [List.set_cons_zero, List.flatMap_cons, List.flatMap_cons, Nat.zero_mul, Nat.zero_add, List.set_append_left _ _ (by rw [hk]; exact hj), he]
  | z :: l, i + 1, j, x, y, v, h, hj, he => by
    rw [List.set_cons_succ, List.flatMap_cons, List.flatMap_cons, List.set_append_right _ _ (by rw [hk, Nat.add_mul]; omega), hk]
    rw [show (i + 1) * k + j - k = i * k + j by rw [Nat.add_mul]; omega, flat_set hk l i j x y v (by simpa using h) hj he]
theorem placeI_neg (l : List At) (f : At) : decide (placeI l f < 0) = decide (f ∉ l) := by
  by_cases h : f ∈ l
  · obtain ⟨i, hi, _⟩ := placeI_get h
    rw [hi, decide_eq_false (by omega), decide_eq_false (fun k => k h)]
  · rw [placeI_not h, decide_eq_true h]; rfl
theorem T.apIt : appB Tryz.prog 24 36 6 80 = true := by kernel_rfl
structure BI where
  g : BaseG
  a : Option Addr
  c : Nat
  is : List IG
/-- A base and the items that say where its facts must be. -/
structure BIok (z : BI) (k : Nat) : Prop where
  bs : BS z.g k (Fis z.is)
  part : ∀ i ∈ z.is, i.p = 1 ∨ i.p = 2 ∨ i.p = 4
  args : ∀ i ∈ z.is, i.y.x.args.length ≤ 8
  fct : ∀ i ∈ z.is, factB i.y.x = true

theorem built_calls (os : List OpB) (a : Option Addr) (c : Nat) (hO : OBs os) (w : World) (hN : NoneAt w) (hR : ROp w a os) : Calls Tryz.prog 11 #[.slice a os.length c] w fun e w' => ∃ z : BI, e = .returned (.tuple #[ptr z.g.p, .slice z.a z.is.length z.c, .bool true]) ∧ (BIok z os.length ∧ z.is.length ≤ os.length) ∧ Turns [] (rowIt z.a z.c z.is :: (argsA (z.is.map IG.y) ++ baseA z.g)) w w' := by
  refine enterS (args := [.slice a os.length c]) (fun _ => False) Tryz.func11 rfl Tryz.ntmps11 rfl rfl ?_
  refine Csr (Za rfl (Za rfl (Za rfl (Nn (Csr (WL.callTA (ι := Nat × Nat) (vs := []) (vv := fun z => ptr z.1) (pp := fun _ => True) [] (AA := fun z => baseA ⟨z.1, none, none, 0, [], z.2, []⟩) rfl (by kernel_rfl) rfl rfl (fun w' hw' _ => (bnew_calls w').mono (fun en w'' ⟨p, rb, h1, h2⟩ => ⟨(p, rb), h1, trivial, h2⟩)) ?_))))))
  rintro ⟨pg, rbg⟩ _
  obtain ⟨g0, eg0⟩ : ∃ g : BaseG, g = ⟨pg, none, none, 0, [], rbg, []⟩ := ⟨_, rfl⟩
  have bs0 : BS g0 0 [] := by rw [eg0]; exact new_bs _ _
  have hp0 : g0.p = pg := by rw [eg0]
  refine WL.focus (ow' := baseA g0) (List.Perm.of_eq (by rw [List.append_nil]; exact congrArg baseA eg0)) ?_
  refine Za rfl (Nn (Cs (Csr (Zm rfl (Zv (OV.eqlPN T.u23 rfl rfl) (Nn (WC.condF rfl ?_)))))))
  refine Ck (Xn (Csr (Za rfl (Nn (Cs (Csr (Za rfl (Nn (Cb (WC.weak (S' := Sat0 w (rowIt none 0 [] :: ([] ++ baseA g0))) (fun w' hw => (hw.rowNil 36 6).perm (List.Perm.of_eq (by first | rfl | (simp; rfl)))) ?_))))))))))
  refine WC.loop2 (fun (i : Nat) (z : BI) => [(0, .slice a os.length c), (5, ptr pg), (6, .slice z.a z.is.length z.c), (7, .int .i64 (i : Int))])
      (fun i z w' => (i ≤ os.length ∧ BIok z i ∧ z.g.p = pg ∧ z.is.length ≤ i) ∧ Sat0 w (rowIt z.a z.c z.is :: (argsA (z.is.map IG.y) ++ baseA z.g)) w')
      (fun i _ => os.length - i) 0 ⟨g0, none, 0, []⟩ ⟨rfl, rfl, rfl, rfl, trivial⟩ (fun w' hw => ⟨⟨by omega, ⟨bs0, (fun i hi => by cases hi), (fun i hi => by cases hi), (fun i hi => by cases hi)⟩, hp0, Nat.le_refl _⟩, hw⟩) ?_
  intro i z
  refine WC.pure (fun hi => ?_)
  obtain ⟨hi, hz, hzp, hzl⟩ := hi
  have hol0 := hO.len
  refine Cs (Csr (Zm rfl (Zm rfl (Zv (OV.lenSlice rfl T.u22) (Zv (OV.lss rfl rfl) (Nn ?_))))))
  refine Cc rfl (fun c22 => ?_) (fun c22 => ?_)
  · refine Ck (Xn (Cs (Cb (Csr (Zm rfl (Zm rfl ?_))))))
    obtain ⟨q0, o, hq0, hoi, hom, hra, hrc⟩ := hR.get (i := i) (by omega)
    have hol := hO.args o hom
    have hon := hO.name o hom
    refine Zv ((OV.indexSlice (show _ = some (Value.slice (some q0) os.length c) by rw [← hq0]; rfl) rfl T.u22 T.z65 (by omega)).cast (u := .pointer (some (q0.add (i * 8)))) (by rw [Int.toNat_natCast])) (Zv (OV.loadN (cs := opB o) rfl T.u65 rfl T.z65 (fun _ hw j v hj => hw.keeps _ _ (hrc j v hj))) (WL.alloc T.zr65 rfl ?_))
    intro bb8
    refine WL.storeAll (vs := opB o) rfl rfl rfl T.z65 rfl ?_
    refine Nn (Csr (Zv (OV.fieldAddr0 (off := 0) rfl T.u65 rfl) (Zv (OV.load1 (v := .int .i64 o.kind) rfl T.u3 rfl (fun _ hw => (cell_at (hw.it _ (.head _)) (o := 0) rfl).1)) (Nn (Cb (Csr (Zv (OV.eql rfl rfl) (Za rfl (Nn ?_)))))))))
    refine Cc rfl (fun c31 => ?_) (fun c31 => ?_)
    · refine Csr (Zm rfl (Zv (OV.fieldAddr0 (off := 1) rfl T.u65 rfl) (Zv (OV.loadN (cs := agC o.y) rfl T.u34 rfl T.z34 (fun _ hw j v hj => by rw [add_off]; exact own_part hw (.head _) (o := 1) (cs' := agC o.y) rfl j v hj)) (WL.focus (ow' := baseA z.g ++ (own bb8 (.cells (opB o).toArray 65 (0, 0)) :: rowIt z.a z.c z.is :: argsA (z.is.map IG.y))) (by exact perm_cat [[own bb8 (.cells (opB o).toArray 65 (0, 0)), rowIt z.a z.c z.is], argsA (z.is.map IG.y), baseA z.g] [2, 0, 1] (by decide) rfl) ?_))))
      refine WL.callTA (ι := BaseG) (vs := [ptr z.g.p, atV o.y.x o.y.a o.y.c]) (vv := fun _ => .tuple #[.bool (factB o.y.x && decide (o.y.x ∉ (Fis z.is).map (·.1))), .int .i64 (if factB o.y.x = true then 0 else 81)]) (pp := fun g' => BS g' (i + 1) (addF (Fis z.is) o.y.x) ∧ g'.p = z.g.p) (baseA z.g) (AA := fun g' => baseA g') rfl (by kernel_rfl) (by rw [hzp]; rfl) rfl (fun w' hw' hH => (badd_bs z.g i (Fis z.is) hz.bs (by have := hO.len; omega) o.y.x o.y.a o.y.c hol hon w' (hN.keeps hw'.keeps) (Sat.sepI hw' hN.lt) (hra.keeps hw'.keeps) (fun q hq hl => Sat.sepI hw' (hra.lt hq hl)) hH)) ?_
      rintro g1 ⟨bs1, hp1⟩
      have hp1 : g1.p = pg := by rw [hp1, hzp]
      refine Zm rfl (Zv (OV.extract rfl rfl) (Zv (OV.extract rfl rfl) (Za rfl (Za rfl (Nn (Csr (Zv (OV.fieldAddr0 (off := 1) rfl T.u65 rfl) (Zv (OV.loadN (cs := agC o.y) rfl T.u34 rfl T.z34 (fun _ hw j v hj => by rw [add_off]; exact own_part hw (List.mem_append_right _ (.head _)) (o := 1) (cs' := agC o.y) rfl j v hj)) (WL.call0 (v := .bool (factB o.y.x)) (by kernel_rfl) rfl rfl (fun w' hw' => fact_calls o.y.x o.y.a o.y.c (by omega) hon w' (hN.keeps hw'.keeps) (hra.keeps hw'.keeps)) ?_)))))))))
      refine Za rfl (Nn (Csr (Zm rfl (Zm rfl ?_))))
      refine Zp (t := 44) rfl (fun g44 => ?_) (fun g44 => ?_)
      · refine Zg rfl rfl rfl (Zm rfl (Zg rfl rfl rfl (Zv (OV.fieldAddr0 (off := 1) rfl T.u65 rfl) (Zg rfl rfl rfl (Zv (OV.loadN (cs := agC o.y) rfl T.u34 rfl T.z34 (fun _ hw j v hj => by rw [add_off]; exact own_part hw (List.mem_append_right _ (.head _)) (o := 1) (cs' := agC o.y) rfl j v hj)) (Zg rfl rfl rfl (WL.call0 (v := .int .i64 (placeI (xsI z.is) o.y.x)) (vs := [.slice z.a z.is.length z.c, atV o.y.x o.y.a o.y.c]) (by kernel_rfl) rfl rfl (fun w' hw' => place_calls z.is z.a z.c o.y.x o.y.a o.y.c (by omega) (fun i hi => by have := hz.args i hi; omega) (by omega) w' (RIt.of_row hw' (fun i hi => List.mem_append_right _ (.tail _ (by first | exact hi | (unfold itsA at hi; exact hi))))) (hra.keeps hw'.keeps)) ?_)))))))
        refine Zg rfl rfl rfl (Zv (OV.lss rfl rfl) (Zv (OV.pickT rfl rfl) (Za rfl (Nn (Cs (Csr (Zm rfl (Zm rfl (Zv ((OV.neqB T.u4 rfl rfl).cast (u := .bool false) (by rw [Fis_fst, placeI_neg]; simp [g44])) (Zm rfl (WL.known (t := 54) (b := false) rfl (by rfl) ?_)))))))))))
        refine Zg rfl rfl rfl (Zm rfl (Zg rfl rfl rfl (Zv ((OV.eql rfl rfl).cast (u := .bool true) (by simp [g44])) (Zg rfl rfl rfl (Zm rfl (Zg rfl rfl rfl (Zv ((OV.neqB T.u4 rfl rfl).cast (u := .bool false) (by simp [g44])) (Zv (OV.pickF rfl rfl) (Zm rfl (WL.known (t := 60) (b := false) rfl (by rfl) ?_))))))))))
        refine Zg rfl rfl rfl (Zm rfl (Zg rfl rfl rfl (Zv (OV.not rfl) (Zg rfl rfl rfl (Zm rfl (WL.known (t := 63) (b := false) rfl (by simp [g44]) ?_))))))
        refine Zs rfl rfl rfl (Zs rfl rfl rfl (Zg rfl rfl rfl (Zv (OV.pickF rfl rfl) (Zv (OV.pickF rfl rfl) (Nn (WC.condF (show _ = some (Value.bool false) from by rfl) ?_))))))
        refine Ck (Xn (Csr (Zm rfl (Nn ?_))))
        refine Cc rfl (fun c68 => ?_) (fun c68 => ?_)
        · refine Cs (WC.focus (ow' := own bb8 (.cells (opB o).toArray 65 (0, 0)) :: rowIt z.a z.c z.is :: (argsA (z.is.map IG.y) ++ baseA g1)) (by exact perm_cat [baseA g1, [own bb8 (.cells (opB o).toArray 65 (0, 0)), rowIt z.a z.c z.is], argsA (z.is.map IG.y)] [1, 2, 0] (by decide) rfl) ?_)
          refine Cr (Zv (OV.fieldAddr0 (off := 1) rfl T.u65 rfl) (Zv (OV.fieldAddr (off := 0) rfl T.u34 rfl) (Zv (OV.loadN (cs := tmC o.y.x.b) rfl T.u31 rfl T.z31 (fun _ hw j v hj => by rw [add_off]; exact own_part hw (.head _) (o := 1) (cs' := tmC o.y.x.b) rfl j v hj)) (Zv (OV.fieldAddr0 (off := 1) rfl T.u65 rfl) (Zv (OV.fieldAddr (off := 3) rfl T.u34 rfl) (Zv (OV.load1 (v := .string o.y.x.name) rfl T.u9 rfl (fun _ hw => (cell_at (hw.it _ (.head _)) (o := 4) rfl).1)) (Zv (OV.buildStruct (xs := [(0, .tmp 71), (1, .tmp 74)]) (pl := [(0, 3), (3, 1), (4, 1)]) (cs := atC ⟨o.y.x.b, o.y.x.name, []⟩ none 0) T.u34 T.zr34 (by kernel_rfl) rfl (fill_cons (us := tmC o.y.x.b) rfl rfl (Nat.le_of_ble_eq_true rfl) (fill_cons (us := [_]) rfl rfl (Nat.le_of_ble_eq_true rfl) rfl))) (WL.alloc T.zr34 rfl ?_))))))))
          intro b13
          refine WL.storeAll (vs := atC ⟨o.y.x.b, o.y.x.name, []⟩ none 0) rfl rfl rfl T.z34 rfl ?_
          refine Nn (Csr (Zv (OV.fieldAddr0 (off := 4) rfl T.u34 rfl) (Zv (OV.load1 (v := .slice none 0 0) rfl T.u32 rfl (fun _ hw => (cell_at (hw.it _ (.head _)) (o := 4) rfl).1)) (Zv (OV.fieldAddr0 (off := 1) rfl T.u65 rfl) (Zv (OV.fieldAddr (off := 4) rfl T.u34 rfl) (Zv (OV.load1 (v := .slice o.y.a o.y.x.args.length o.y.c) rfl T.u32 rfl (fun _ hw => (cell_at (hw.it _ (.tail _ (.head _))) (o := 5) rfl).1)) (WL.weak (S' := Sat0 w (row 31 3 none 0 0 [] :: own b13 (.cells (atC ⟨o.y.x.b, o.y.x.name, []⟩ none 0).toArray 34 (0, 0)) :: own bb8 (.cells (opB o).toArray 65 (0, 0)) :: rowIt z.a z.c z.is :: (argsA (z.is.map IG.y) ++ baseA g1))) (fun w' hw => hw.rowNil 31 3) ?_)))))))
          refine WL.append (news := o.y.x.args.flatMap tmC) rfl rfl T.apT (fun _ _ => Src.of_rt hra.nil (fun _ hw => hra.keeps hw.keeps)) (tms_one _) ⟨by omega, by unfold maxLen; omega⟩ rfl ?_
          intro a81 c81
          simp only [Nat.zero_add, List.nil_append]
          refine Zv (OV.fieldAddr0 (off := 4) rfl T.u34 rfl) ?_
          refine WL.focus perm1 (WL.store1 (o := 4) rfl rfl rfl T.z32 (by show 4 < 5; omega) ?_)
          refine Nn (Cr (Zm rfl (Zv (OV.loadN (cs := atC ⟨o.y.x.b, o.y.x.name, o.y.x.args⟩ a81 c81) rfl T.u34 rfl T.z34 (fun _ hw j v hj => by rw [add_off, Nat.zero_add]; exact own_cells hw (.head _) j v hj)) (Zv (OV.buildStruct (xs := [(0, .tmp 84), (1, .const (.int .i64 4))]) (pl := [(0, 5), (5, 1)]) (cs := igC ⟨⟨o.y.x, a81, c81⟩, 4⟩) T.u36 T.zr36 (by kernel_rfl) rfl (fill_cons (us := atC ⟨o.y.x.b, o.y.x.name, o.y.x.args⟩ a81 c81) rfl rfl (Nat.le_of_ble_eq_true rfl) (fill_cons (us := [_]) rfl rfl (Nat.le_of_ble_eq_true rfl) rfl))) (WL.buildSliceA (cs := igC ⟨⟨o.y.x, a81, c81⟩, 4⟩) T.u24 T.z36 T.zr36 rfl rfl (by omega) (by omega) rfl ?_)))))
          intro b86
          refine WL.focus (ow' := rowIt z.a z.c z.is :: own b86 (.cells (igC ⟨⟨o.y.x, a81, c81⟩, 4⟩).toArray 36 (0, 0)) :: own b13 (.cells (atC ⟨o.y.x.b, o.y.x.name, o.y.x.args⟩ a81 c81).toArray 34 (0, 0)) :: rowT a81 c81 o.y.x.args :: own bb8 (.cells (opB o).toArray 65 (0, 0)) :: (argsA (z.is.map IG.y) ++ baseA g1)) (perm_pick [_, _, _, _, _] [4, 0, 1, 2, 3] (by decide) rfl) ?_
          refine WL.append (news := igC ⟨⟨o.y.x, a81, c81⟩, 4⟩) rfl rfl T.apIt (fun _ _ => own_srcN (.tail _ (.head _)) rfl) (igC_one _) ⟨by omega, by unfold maxLen; omega⟩ rfl ?_
          intro a87 c87
          refine Za rfl (Nl (Xb (Xb (Xn (Cr (Zm rfl (Zv (OV.addN (j := 1) rfl rfl (by omega)) (Za rfl (Nl ?_)))))))))
          have hnot : o.y.x ∉ xsI z.is := fun hm => by
            obtain ⟨j, hj, _⟩ := placeI_get hm
            omega
          have el : z.is.length + 1 = (z.is ++ [(⟨⟨o.y.x, a81, c81⟩, 4⟩ : IG)]).length := by simp
          have ef : z.is.flatMap igC ++ igC ⟨⟨o.y.x, a81, c81⟩, 4⟩ = (z.is ++ [(⟨⟨o.y.x, a81, c81⟩, 4⟩ : IG)]).flatMap igC := by simp
          have em : argsA ((z.is ++ [(⟨⟨o.y.x, a81, c81⟩, 4⟩ : IG)]).map IG.y) = argsA (z.is.map IG.y) ++ [rowT a81 c81 o.y.x.args] := by simp [argsA]
          refine WX.round2 (i + 1) ⟨g1, a87, c87, z.is ++ [⟨⟨o.y.x, a81, c81⟩, 4⟩]⟩ ⟨rfl, rfl, by rw [← el]; rfl, rfl, trivial⟩ (fun w' hw => ⟨⟨by omega, ⟨?_, ?_, ?_, ?_⟩, hp1, by simp; omega⟩, ?_⟩) (by show os.length - (i + 1) < os.length - i; omega)
          · have e : addF (Fis z.is) o.y.x = Fis (z.is ++ [⟨⟨o.y.x, a81, c81⟩, 4⟩]) := by
              unfold addF
              rw [if_pos ⟨by simpa using g44, by rw [Fis_fst]; exact hnot⟩]
              simp [Fis]
            rw [e] at bs1; exact bs1
          · intro q hq
            rcases List.mem_append.1 hq with h | h
            · exact hz.part q h
            · simp only [List.mem_singleton] at h; subst h; exact .inr (.inr rfl)
          · intro q hq
            rcases List.mem_append.1 hq with h | h
            · exact hz.args q h
            · simp only [List.mem_singleton] at h; subst h; exact fact_args (by simpa using g44)
          · intro q hq
            rcases List.mem_append.1 hq with h | h
            · exact hz.fct q h
            · simp only [List.mem_singleton] at h; subst h; simpa using g44
          · rw [el, ef] at hw
            rw [em]
            exact (hw.pick [[rowIt a87 c87 (z.is ++ [⟨⟨o.y.x, a81, c81⟩, 4⟩])], [own b86 (.cells (igC ⟨⟨o.y.x, a81, c81⟩, 4⟩).toArray 36 (0, 0))], [own b13 (.cells (atC ⟨o.y.x.b, o.y.x.name, o.y.x.args⟩ a81 c81).toArray 34 (0, 0))], [rowT a81 c81 o.y.x.args], [own bb8 (.cells (opB o).toArray 65 (0, 0))], argsA (z.is.map IG.y), baseA g1] [0, 5, 3, 6] 7 rfl (by decide) (by decide)).perm (List.Perm.of_eq (by simp [cat]))
        refine Ck (Xb (Xb (Xn (Cr (Zm rfl (Zv (OV.addN (j := 1) rfl rfl (by omega)) (Za rfl (Nl ?_))))))))
        have hin : o.y.x ∈ xsI z.is := Classical.byContradiction fun hm => by
          have := placeI_not hm
          omega
        have e : addF (Fis z.is) o.y.x = Fis z.is := by
          unfold addF; rw [if_neg (fun k => k.2 (by rw [Fis_fst]; exact hin))]
        rw [e] at bs1
        exact WX.round2 (i + 1) ⟨g1, z.a, z.c, z.is⟩ ⟨rfl, rfl, rfl, rfl, trivial⟩ (fun w' hw => ⟨⟨by omega, ⟨bs1, hz.part, hz.args, hz.fct⟩, hp1, by show z.is.length ≤ i + 1; omega⟩, hw.pick [baseA g1, [own bb8 (.cells (opB o).toArray 65 (0, 0))], [rowIt z.a z.c z.is], argsA (z.is.map IG.y)] [2, 3, 0] 4 rfl (by decide) (by decide)⟩) (by show os.length - (i + 1) < os.length - i; omega)
      refine Zs rfl rfl rfl (Zs rfl rfl rfl (Zs rfl rfl rfl (Zs rfl rfl rfl (Zs rfl rfl rfl (Zv (OV.pickF rfl rfl) (Za rfl (Nn (Cs (Csr (Zm rfl (Zm rfl (Zv ((OV.neqB T.u4 rfl rfl).cast (u := .bool false) (by simp [g44])) (Zm rfl (WL.known (t := 54) (b := false) rfl (by rfl) ?_))))))))))))))
      refine Zg rfl rfl rfl (Zm rfl (Zg rfl rfl rfl (Zv ((OV.eql rfl rfl).cast (u := .bool false) (by simp [g44])) (Zg rfl rfl rfl (Zm rfl (Zg rfl rfl rfl (Zv ((OV.neqB T.u4 rfl rfl).cast (u := .bool false) (by simp [g44])) (Zv (OV.pickF rfl rfl) (Zm rfl (WL.known (t := 60) (b := false) rfl (by rfl) ?_))))))))))
      refine Zg rfl rfl rfl (Zm rfl (Zg rfl rfl rfl (Zv (OV.not rfl) (Zg rfl rfl rfl (Zm rfl (WL.known (t := 63) (b := true) rfl (by simp [g44]) ?_))))))
      refine Zg rfl rfl rfl (Zm rfl (Zg rfl rfl rfl (Zv ((OV.neq rfl rfl).cast (u := .bool false) (by simp [g44])) (Zg rfl rfl rfl (Zv (OV.pickT rfl rfl) (Zv (OV.pickF rfl rfl) (Nn (WC.condF (show _ = some (Value.bool false) from by rfl) ?_))))))))
      refine Ck (Xn (Csr (Zm rfl (Nn (WC.condF rfl ?_)))))
      refine Ck (Xb (Xb (Xn (Cr (Zm rfl (Zv (OV.addN (j := 1) rfl rfl (by omega)) (Za rfl (Nl ?_))))))))
      have e : addF (Fis z.is) o.y.x = Fis z.is := addF_not (by simpa using g44)
      rw [e] at bs1
      exact WX.round2 (i + 1) ⟨g1, z.a, z.c, z.is⟩ ⟨rfl, rfl, rfl, rfl, trivial⟩ (fun w' hw => ⟨⟨by omega, ⟨bs1, hz.part, hz.args, hz.fct⟩, hp1, by show z.is.length ≤ i + 1; omega⟩, hw.pick [baseA g1, [own bb8 (.cells (opB o).toArray 65 (0, 0))], [rowIt z.a z.c z.is], argsA (z.is.map IG.y)] [2, 3, 0] 4 rfl (by decide) (by decide)⟩) (by show os.length - (i + 1) < os.length - i; omega)
    refine Csr (Zv (OV.eql rfl rfl) (Za rfl (Nn ?_)))
    refine Cc rfl (fun c88 => ?_) (fun c88 => ?_)
    · refine Csr (Za rfl (Nn (Cs (Csr (Za rfl (Nn (Cb ?_)))))))
      refine WC.know (fun w' hw => (fun hp => row_addrK (hw.it (rowIt z.a z.c z.is) (.tail _ (.head _))) hp : 0 < z.is.length → ∃ q, z.a = some ⟨q, 0, none⟩)) (fun hza => ?_)
      refine WC.focus perm1 ?_
      refine WC.loop1 (fun (k : Nat) => [(0, .slice a os.length c), (5, ptr pg), (6, .slice z.a z.is.length z.c), (7, .int .i64 (i : Int)), (8, .pointer (some ⟨bb8, 0, none⟩)), (14, .int .i64 (cnI (z.is.take k) : Int)), (15, .int .i64 (k : Int))])
          (fun k w' => k ≤ z.is.length ∧ Sat0 w (row 36 6 z.a z.is.length z.c ((tuI z.is k).flatMap igC) :: own bb8 (.cells (opB o).toArray 65 (0, 0)) :: (argsA (z.is.map IG.y) ++ baseA z.g)) w')
          (fun k => z.is.length - k) 0 ⟨rfl, rfl, rfl, rfl, rfl, rfl, rfl, trivial⟩ (fun w' hw => ⟨by omega, hw⟩) ?_
      intro k
      refine WC.pure (fun hk => ?_)
      refine Cs (Csr (Zm rfl (Zm rfl (Zv (OV.lenSlice rfl T.u24) (Zv (OV.lss rfl rfl) (Nn ?_))))))
      refine Cc rfl (fun c93 => ?_) (fun c93 => ?_)
      · refine Ck (Xn (Cs (Cb (Csr (Zm rfl (Zm rfl ?_))))))
        obtain ⟨i0, hi0⟩ : ∃ i0, z.is[k]? = some i0 := ⟨_, List.getElem?_eq_getElem (by omega)⟩
        have hi0m := List.mem_of_getElem? hi0
        obtain ⟨qb, hqb⟩ := hza (by omega)
        refine Zv ((OV.indexSlice (show _ = some (Value.slice (some ⟨qb, 0, none⟩) z.is.length z.c) by rw [← hqb]; rfl) rfl T.u24 T.z36 (by omega)).cast (u := .pointer (some ⟨qb, k * 6, none⟩)) (by rw [Int.toNat_natCast, add_off, Nat.zero_add])) (Zv (OV.fieldAddr (off := 5) rfl T.u36 rfl) (Zv (OV.load1 (v := .int .i64 (i0.p : Int)) rfl T.u3 rfl (fun _ hw => by have h := row_cellsE hw hqb (.head _) (k * 6 + 5) (.int .i64 (i0.p : Int)) (by rw [flat_get igC_len _ k 5 i0 (tuI_get hi0) (by omega)]; rfl); rw [add_off, Nat.zero_add] at h; exact h)) (Nn (Cb (Csr (Zv (OV.eql rfl rfl) (Za rfl (Nn ?_))))))))
        refine Cc rfl (fun c101 => ?_) (fun c101 => ?_)
        · refine Cr (Zm rfl (Zm rfl (Zv ((OV.indexSlice (show _ = some (Value.slice (some ⟨qb, 0, none⟩) z.is.length z.c) by rw [← hqb]; rfl) rfl T.u24 T.z36 (by omega)).cast (u := .pointer (some ⟨qb, k * 6, none⟩)) (by rw [Int.toNat_natCast, add_off, Nat.zero_add])) (Zv (OV.fieldAddr (off := 5) rfl T.u36 rfl) (WL.storeRow (o := k * 6 + 5) rfl hqb rfl rfl T.z3 (by rw [flat_len igC_len, tuI_length]; omega) ?_)))))
          refine Nl (Xb (Xb (Xn (Cr (Zm rfl (Zv (OV.addN (j := 1) rfl rfl (by omega)) (Za rfl (Nl ?_))))))))
          have hip : i0.p = 2 := by omega
          exact WX.round1 (k + 1) ⟨rfl, rfl, rfl, rfl, rfl, by rw [cnI_take hi0, hip]; rfl, rfl, trivial⟩ (fun w' hw => ⟨by omega, by
            rw [flat_set igC_len _ k 5 i0 ⟨i0.y, 1⟩ (.int .i64 1) (tuI_get hi0) (by omega) rfl, show (⟨i0.y, 1⟩ : IG) = turnI i0 from by unfold turnI; rw [hip]; rfl, tuI_set hi0] at hw
            exact hw⟩) (by show z.is.length - (k + 1) < z.is.length - k; omega)
        refine Csr (Zv (OV.eql rfl rfl) (Za rfl (Nn ?_)))
        refine Cc rfl (fun c107 => ?_) (fun c107 => ?_)
        · refine Csr (Zm rfl (Zm rfl (Zv ((OV.indexSlice (show _ = some (Value.slice (some ⟨qb, 0, none⟩) z.is.length z.c) by rw [← hqb]; rfl) rfl T.u24 T.z36 (by omega)).cast (u := .pointer (some ⟨qb, k * 6, none⟩)) (by rw [Int.toNat_natCast, add_off, Nat.zero_add])) (Zv (OV.fieldAddr (off := 5) rfl T.u36 rfl) (WL.storeRow (o := k * 6 + 5) rfl hqb rfl rfl T.z3 (by rw [flat_len igC_len, tuI_length]; omega) ?_)))))
          refine Nn (Cr (Zm rfl ?_))
          have hcn : cnI (z.is.take k) ≤ k := cnI_le _ _
          refine Zv (OV.addN (i := cnI (z.is.take k)) (j := 1) rfl rfl (by omega)) (Za rfl (Nl (Xb (Xb (Xn (Cr (Zm rfl (Zv (OV.addN (j := 1) rfl rfl (by omega)) (Za rfl (Nl ?_))))))))))
          have hip : i0.p = 4 := by omega
          exact WX.round1 (k + 1) ⟨rfl, rfl, rfl, rfl, rfl, by rw [cnI_take hi0, hip]; rfl, rfl, trivial⟩ (fun w' hw => ⟨by omega, by
            rw [flat_set igC_len _ k 5 i0 ⟨i0.y, 2⟩ (.int .i64 2) (tuI_get hi0) (by omega) rfl, show (⟨i0.y, 2⟩ : IG) = turnI i0 from by unfold turnI; rw [hip]; rfl, tuI_set hi0] at hw
            exact hw⟩) (by show z.is.length - (k + 1) < z.is.length - k; omega)
        refine Ck (Xb (Xb (Xn (Cr (Zm rfl (Zv (OV.addN (j := 1) rfl rfl (by omega)) (Za rfl (Nl ?_))))))))
        have hip : i0.p = 1 := by
          have := hz.part i0 hi0m
          omega
        exact WX.round1 (k + 1) ⟨rfl, rfl, rfl, rfl, rfl, by rw [cnI_take hi0, hip]; rfl, rfl, trivial⟩ (fun w' hw => ⟨by omega, by
          rw [tuI_same hi0 (by cases i0; simp only at hip; subst hip; rfl)] at hw
          exact hw⟩) (by show z.is.length - (k + 1) < z.is.length - k; omega)
      refine Ce (Xe (Xe (Xh (Xn (Cs ?_)))))
      have hkl : k = z.is.length := by omega
      rw [hkl, tuI_all]
      refine WC.focus (ow' := baseA z.g ++ ([row 36 6 z.a z.is.length z.c ((z.is.map turnI).flatMap igC), own bb8 (.cells (opB o).toArray 65 (0, 0))] ++ argsA (z.is.map IG.y))) (by exact perm_cat [[row 36 6 z.a z.is.length z.c ((z.is.map turnI).flatMap igC), own bb8 (.cells (opB o).toArray 65 (0, 0))], argsA (z.is.map IG.y), baseA z.g] [2, 0, 1] (by decide) rfl) ?_
      refine Cr (Zm rfl (WL.callTA (ι := BaseG) (vs := [ptr z.g.p]) (vv := fun _ => .int .i64 ((n4F (Fis z.is) : Nat) : Int)) (pp := fun g' => BS g' i (Fis (z.is.map turnI)) ∧ g'.p = z.g.p) (baseA z.g) (AA := fun g' => baseA g') rfl (by kernel_rfl) (by rw [hzp]; rfl) rfl (fun w' hw' hH => (bturn_bs z.g i (Fis z.is) hz.bs w' hH).mono (fun en w'' ⟨g', h1, h2, h3⟩ => ⟨g', h1, by rw [← Fis_turn]; exact h2, h3⟩)) ?_))
      rintro g1 ⟨bs1, hp1⟩
      have hp1 : g1.p = pg := by rw [hp1, hzp]
      refine Zm rfl (Zv (OV.neq rfl rfl) (Nn (WC.condF (show _ = some (Value.bool false) from by exact congrArg (fun b => some (Value.bool b)) (by rw [n4_Fis, List.take_of_length_le (by omega)]; simp)) ?_)))
      refine Ck (Xb (Xb (Xn (Cr (Zm rfl (Zv (OV.addN (j := 1) rfl rfl (by omega)) (Za rfl (Nl ?_))))))))
      have em : (z.is.map turnI).map IG.y = z.is.map IG.y := by rw [List.map_map]; rfl
      exact WX.round2 (i + 1) ⟨g1, z.a, z.c, z.is.map turnI⟩ ⟨rfl, rfl, by rw [List.length_map]; rfl, rfl, trivial⟩ (fun w' hw => ⟨⟨by omega, ⟨bs1.mono (by omega), (fun q hq => by
        obtain ⟨p, hp, rfl⟩ := List.mem_map.1 hq
        show (if p.p = 4 then 2 else 1) = 1 ∨ (if p.p = 4 then 2 else 1) = 2 ∨ (if p.p = 4 then 2 else 1) = 4
        split
        · exact .inr (.inl rfl)
        · exact .inl rfl), (fun q hq => by
        obtain ⟨p, hp, rfl⟩ := List.mem_map.1 hq
        exact hz.args p hp), (fun q hq => by
        obtain ⟨p, hp, rfl⟩ := List.mem_map.1 hq
        exact hz.fct p hp)⟩, hp1, by simp; omega⟩, by
        have h2 := hw.pick [baseA g1, [row 36 6 z.a z.is.length z.c ((z.is.map turnI).flatMap igC), own bb8 (.cells (opB o).toArray 65 (0, 0))], argsA (z.is.map IG.y)] [1, 2, 0] 3 rfl (by decide) (by decide)
        have h3 := h2.pick [[row 36 6 z.a z.is.length z.c ((z.is.map turnI).flatMap igC)], [own bb8 (.cells (opB o).toArray 65 (0, 0))], argsA (z.is.map IG.y), baseA g1] [0, 2, 3] 4 rfl (by decide) (by decide)
        unfold rowIt
        rw [em, List.length_map]
        exact h3⟩) (by show os.length - (i + 1) < os.length - i; omega)
    refine Ck (Xb (Xb (Xn (Cr (Zm rfl (Zv (OV.addN (j := 1) rfl rfl (by omega)) (Za rfl (Nl ?_))))))))
    exact WX.round2 (i + 1) z ⟨rfl, rfl, rfl, rfl, trivial⟩ (fun w' hw => ⟨⟨by omega, ⟨hz.bs.mono (by omega), hz.part, hz.args, hz.fct⟩, hzp, by omega⟩, hw.drop⟩) (by show os.length - (i + 1) < os.length - i; omega)
  refine Ce (Xe (Xe (Xh (Xn (Csr (Zm rfl (Zm rfl (Za rfl (Za rfl (Za rfl (Nn (WC.ret ?_))))))))))))
  exact WX.ret3 rfl rfl rfl rfl rfl (fun w' hw => ⟨z, by rw [hzp], ⟨by rw [show os.length = i by omega]; exact hz, by omega⟩, hw.turned0⟩)

end Go.Proofs.YtgiiifadbnpfkaaGreatDoor

set_option maxRecDepth 10000
namespace Go.Proofs.YtgiiifadbnpfkaaGreatDoor
open Go Go.Hw
set_option linter.unusedSimpArgs false
set_option linter.unusedVariables false
section
open Go.ChangeShapes Go.WideShapes Go.ChangeAt Go.RowKit
variable {H : Type} {enc : TypeId × Value → H} {w : World} {base : Nat} {spare : Nat → Bool} {held : Bool} {r : Reach} {b0 : Nat}
def wtO (o : OpB) : Nat := wtA o.y + 4
set_option maxRecDepth 100000 in
theorem trod_op {fuel : Nat} {cs : List Value} {x : DataW H × List MemPlace} (h : DataW.trod enc Tryz.prog w base spare held fuel 65 cs = some x) :
    ∃ o : OpB, cs = opB o ∧ RT w o.y.a o.y.x.args ∧ wtO o ≤ Rows.uptoBulk x.1 := by
  obtain ⟨xs, n, rfl, rfl, hl, hxs, hf⟩ := DataW.trod_struct T.u65 h
  have hl8 : cs.length = 8 := by rw [hl]; kernel_rfl
  have cI : Program.cellsOf Tryz.prog 3 = 1 := by kernel_rfl
  have cA : Program.cellsOf Tryz.prog 34 = 5 := by kernel_rfl
  have cB : Program.cellsOf Tryz.prog 4 = 1 := by kernel_rfl
  match cs, hl8 with
  | [v0, v1, v2, v3, v4, v5, v6, v7], _ =>
    match xs, hxs with
    | [x0, x1, x2, x3], _ =>
      have k0 : DataW.trod enc Tryz.prog w base spare held n 3 [v0] = some x0 := by
        have k : DataW.trod enc Tryz.prog w base spare held n 3 (List.take (Program.cellsOf Tryz.prog 3) (List.drop 0 [v0, v1, v2, v3, v4, v5, v6, v7])) = some x0 := hf 0 _ rfl
        rw [cI] at k; exact k
      have k1 : DataW.trod enc Tryz.prog w base spare held n 34 [v1, v2, v3, v4, v5] = some x1 := by
        have k : DataW.trod enc Tryz.prog w base spare held n 34 (List.take (Program.cellsOf Tryz.prog 34) (List.drop 1 [v0, v1, v2, v3, v4, v5, v6, v7])) = some x1 := hf 1 _ rfl
        rw [cA] at k; exact k
      have k2 : DataW.trod enc Tryz.prog w base spare held n 3 [v6] = some x2 := by
        have k : DataW.trod enc Tryz.prog w base spare held n 3 (List.take (Program.cellsOf Tryz.prog 3) (List.drop 6 [v0, v1, v2, v3, v4, v5, v6, v7])) = some x2 := hf 2 _ rfl
        rw [cI] at k; exact k
      have k3 : DataW.trod enc Tryz.prog w base spare held n 4 [v7] = some x3 := by
        have k : DataW.trod enc Tryz.prog w base spare held n 4 (List.take (Program.cellsOf Tryz.prog 4) (List.drop 7 [v0, v1, v2, v3, v4, v5, v6, v7])) = some x3 := hf 3 _ rfl
        rw [cB] at k; exact k
      obtain ⟨kind, e0, rfl, w0⟩ := DataW.trod_int T.u3 k0
      obtain ⟨y, e1, r1, b1⟩ := trod_atom k1
      obtain ⟨num, e2, rfl, w2⟩ := DataW.trod_int T.u3 k2
      obtain ⟨other, e3, rfl⟩ := DataW.trod_bool T.u4 k3
      simp only [agC, atC, List.cons.injEq, and_true] at e0 e1 e2 e3
      obtain ⟨rfl, rfl, rfl, rfl, rfl⟩ := e1
      subst e0; subst e2; subst e3
      refine ⟨⟨kind, y, num, other⟩, rfl, r1, ?_⟩
      simp only [List.map_cons, List.map_nil, Rows.uptoBulk, Rows.uptoBulkAll, wtO]
      omega
set_option maxRecDepth 100000 in
theorem open_ops {v : Value} {d : DataW H} {p : List MemPlace} (hv : Value.okWide Tryz.prog w r b0 22 v) (h : DataW.Trod enc Tryz.prog w base spare held 22 v d p) :
    ∃ a c os, v = .slice a os.length c ∧ ROp w a os ∧ (os.map wtO).sum + 1 ≤ Rows.uptoBulk d := by
  obtain ⟨fuel, hf⟩ := h
  obtain ⟨a, c, os, e, ha, hat, hg, hb⟩ := trod_listN (⟨0, ⟨default, none, 0⟩, 0, false⟩ : OpB) (s := 8) T.u22 (by kernel_rfl) opB opB_len (fun o => RT w o.y.a o.y.x.args) wtO (fun fuel cs x hx => by
    obtain ⟨o, e, h1, h2⟩ := trod_op hx
    exact ⟨o, e, h1, h2⟩) hf
  exact ⟨a, c, os, slice_of_ok (P := Tryz.prog) T.u22 hv e, ⟨ha, hat, hg⟩, hb⟩
theorem ops_ok {os : List OpB} (h : (os.map wtO).sum + 1 ≤ 1048576) : OBs os := by
  have h1 := len_wt wtO (k := 1) (fun y => by unfold wtO; omega) os
  refine ⟨by omega, fun o ho => ?_, fun o ho => ?_⟩
  · have h2 := le_sum wtO ho
    have h3 : o.y.x.args.length ≤ wtO o := by unfold wtO wtA; omega
    omega
  · have h2 := le_sum wtO ho
    have h3 : o.y.x.name.size ≤ wtO o := by unfold wtO wtA; omega
    omega
end

end Go.Proofs.YtgiiifadbnpfkaaGreatDoor

set_option maxRecDepth 10000
namespace Go.Proofs.YtgiiifadbnpfkaaGreatDoor
open Go Go.Hw
set_option linter.unusedSimpArgs false
set_option linter.unusedVariables false
section
open Go.ChangeShapes Go.WideShapes Go.ChangeAt Go.RowKit
variable {H : Type} {enc : TypeId × Value → H} {w : World} {base : Nat} {spare : Nat → Bool} {held : Bool} {r : Reach} {b0 : Nat}
set_option maxRecDepth 100000 in
theorem open_atom {v : Value} {d : DataW H} {p : List MemPlace} (hv : Value.okWide Tryz.prog w r b0 34 v) (h : DataW.Trod enc Tryz.prog w base spare held 34 v d p) :
    ∃ y : AG, v = atV y.x y.a y.c ∧ RT w y.a y.x.args ∧ wtA y ≤ Rows.uptoBulk d := by
  obtain ⟨fuel, hf⟩ := h
  obtain ⟨y, e, h1, h2⟩ := trod_atom hf
  have ha : ∃ cs, v = .agg cs := by
    unfold Value.okWide at hv
    rw [T.u34] at hv
    cases v <;> simp_all
  obtain ⟨cs, rfl⟩ := ha
  refine ⟨y, ?_, h1, h2⟩
  have e2 : cs.toList = agC y := e
  show Value.agg cs = Value.agg (atC y.x y.a y.c).toArray
  rw [show cs = (agC y).toArray from by rw [← e2]]
  rfl
end

end Go.Proofs.YtgiiifadbnpfkaaGreatDoor
