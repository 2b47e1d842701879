/- Contracts of functions of the program: what each returns and leaves in memory. Printed by gen.py and walk.py. A store of several cells into an element of a row. -/
import Derived.Test.YtgiiifadbnpfkaaGreatDoorMg17
import Derived.Test.YtgiiifadbnpfkaaGreatDoorMg16
import Derived.Test.YtgiiifadbnpfkaaGreatDoorRows
import Derived.Test.YtgiiifadbnpfkaaGreatDoorHxTurn
import Derived.Test.YtgiiifadbnpfkaaGreatDoorMg12
set_option maxRecDepth 10000
namespace Go.Proofs.YtgiiifadbnpfkaaGreatDoor
open Go Go.Hw
set_option linter.unusedSimpArgs false
set_option linter.unusedVariables false
/-- What the closure of Find holds. -/
structure FD where
  b1 : Nat
  b2 : Nat
  b3 : Nat
  a : Option Addr
  c : Nat
def boxB (bp : Nat) (parts : Int) (p : At) (f : FD) : List Hw.Item := [own f.b1 (.cells [ptr bp].toArray 23 (0, 0)), own f.b2 (.cells [.int .i64 parts].toArray 3 (0, 0)), own f.b3 (.cells (atC p f.a f.c).toArray 34 (0, 0)), rowT f.a f.c p.args]
def FD.caps (f : FD) : List Value := [ptr f.b1, ptr f.b2, ptr f.b3]
abbrev EIa (x : At) (d : Option Addr × Nat) : List Hw.Item := [rowT d.1 d.2 x.args]
abbrev arga (x : At) (d : Option Addr × Nat) : Value := atV x d.1 d.2
theorem foundF_len {g : BaseG} {k : Nat} {F : List (At × Nat)} (b : BS g k F) (parts : Int) (p : At) : (foundF F parts p).length ≤ k := by
  unfold foundF
  rw [(sortA_perm _).length_eq]
  have h2 := List.length_filter_le (matchB p) (selF F parts)
  have h3 : (selF F parts).length ≤ F.length := by unfold selF; rw [List.length_map]; exact List.length_filter_le _ _
  have := b.fk
  omega

set_option maxHeartbeats 2000000 in
theorem bfind1_calls (f : FD) (g0 : BaseG) (k : Nat) (F : List (At × Nat)) (b : BS g0 k F) (hk : k ≤ 100000000000) (parts : Int) (p : At) (hl : p.args.length ≤ 1048575) (bp : Nat) (hbp : g0.p = bp)
    {β : Type} (CC : β → List Hw.Item) (J Jx : Nat → BaseG → β → Prop) (y0 : β) (l : Nat) (w1 : World) (hA : Holds ((baseA g0 ++ boxB bp parts p f) ++ CC y0) w1)
    (h0 : ∀ g1, BS g1 k F ∧ g1.p = g0.p → J 0 g1 y0)
    (hy : ∀ i g1 y d W x, (foundF F parts p)[i]? = some x → J i g1 y → Turns ((baseA g0 ++ boxB bp parts p f) ++ CC y0) (EIa x d ++ ((baseA g1 ++ boxB bp parts p f) ++ CC y)) w1 W →
      Hw.Yields Tryz.prog l [arga x d] W fun b W' => ∃ g2 y2, (b = true → J (i + 1) g2 y2) ∧ (b = false → Jx (i + 1) g2 y2) ∧ Turns (EIa x d ++ ((baseA g1 ++ boxB bp parts p f) ++ CC y)) ((baseA g2 ++ boxB bp parts p f) ++ CC y2) W W') :
  Calls Tryz.prog 53 #[.func (.yield l) #[] #[], ptr f.b1, ptr f.b2, ptr f.b3] w1 fun en w' => en = .returned (.tuple #[]) ∧ ∃ g2 y2 i, ((i = (foundF F parts p).length ∧ J i g2 y2) ∨ (0 < i ∧ i ≤ (foundF F parts p).length ∧ Jx i g2 y2)) ∧ Turns ((baseA g0 ++ boxB bp parts p f) ++ CC y0) ((baseA g2 ++ boxB bp parts p f) ++ CC y2) w1 w' := by
  refine enterA hA (args := [.func (.yield l) #[] #[], ptr f.b1, ptr f.b2, ptr f.b3]) Tryz.func53 rfl Tryz.ntmps53 rfl rfl ?_
  refine Cs (WC.weak (S' := Sat w1 (DD ((baseA g0 ++ boxB bp parts p f) ++ CC y0)) (fun b => b < w1.heap.size ∧ ¬ DD ((baseA g0 ++ boxB bp parts p f) ++ CC y0) b) w1 ((baseA g0 ++ (boxB bp parts p f ++ CC y0)))) (fun w' hw => hw.perm (List.Perm.of_eq (List.append_assoc _ _ _).symm)) ?_)
  refine Cr (Zv (OV.load1 (v := ptr bp) rfl T.u23 rfl (fun _ hw => own_box hw (List.mem_append_right _ (List.mem_append_left _ (.head _))))) (Zv (OV.load1 (v := .int .i64 parts) rfl T.u3 rfl (fun _ hw => own_box hw (List.mem_append_right _ (List.mem_append_left _ (.tail _ (.head _)))))) (Zv (OV.loadN (cs := atC p f.a f.c) rfl T.u34 rfl T.z34 (fun _ hw j v hj => by rw [add_off, Nat.zero_add]; exact own_cells hw (List.mem_append_right _ (List.mem_append_left _ (.tail _ (.tail _ (.head _))))) j v hj)) (WL.callTA (ι := AnsA) (vs := [ptr g0.p, .int .i64 parts, atV p f.a f.c]) (vv := fun z => .slice z.a z.ys.length z.c) (pp := fun z => z.ys.map AG.x = (foundF F parts p) ∧ BS z.g k F ∧ z.g.p = g0.p ∧ (∀ y ∈ z.ys, y.x.args.length ≤ 8) ∧ z.ys.length ≤ k) (baseA g0) (AA := fun z => baseA z.g ++ atsA z.a z.c z.ys) rfl (by kernel_rfl) (by rw [hbp]; rfl) rfl (fun w' hw' hH => bfnd_calls g0 k F b hk parts p f.a f.c hl w' (RT.of_row (c := f.c) rfl hw' (List.mem_append_right _ (List.mem_append_left _ (.tail _ (.tail _ (.tail _ (.head _))))))) (fun q hq hl => Sat.sepO hw' (i := rowT f.a f.c p.args) (List.mem_append_left _ (.tail _ (.tail _ (.tail _ (.head _))))) ⟨q, hq, rfl⟩) hH) ?_))))
  rintro z ⟨hzx, bsz, hzp, hza0, hzl⟩
  refine Zv (OV.lenSlice rfl T.u27) (Zm rfl (Nn (Cb ?_)))
  have hzn : z.ys.length = (foundF F parts p).length := by rw [← hzx, List.length_map]
  refine WC.weak (S' := Sat w1 (DD ((baseA g0 ++ boxB bp parts p f) ++ CC y0)) (fun b => b < w1.heap.size ∧ ¬ DD ((baseA g0 ++ boxB bp parts p f) ++ CC y0) b) w1 (rowAt z.a z.c z.ys :: (argsA (z.ys.drop 0) ++ (baseA z.g ++ (boxB bp parts p f ++ CC y0))))) (fun w' hw => ?_) ?_
  · have h2 := hw.perm (ow' := cat [baseA z.g, [rowAt z.a z.c z.ys], argsA z.ys, boxB bp parts p f ++ CC y0]) (List.Perm.of_eq (by simp [cat, atsA]))
    have h3 := h2.pick [baseA z.g, [rowAt z.a z.c z.ys], argsA z.ys, boxB bp parts p f ++ CC y0] [1, 2, 0, 3] 4 rfl (by decide) (by decide)
    exact h3.perm (List.Perm.of_eq (by simp [cat]))
  refine WC.know (fun w' hw => (fun hp => row_addrK (hw.it (rowAt z.a z.c z.ys) (.head _)) hp : 0 < z.ys.length → ∃ q, z.a = some ⟨q, 0, none⟩)) (fun hza => ?_)
  refine WC.loop3 (fun (j : Nat) (gk : BaseG) (y : β) => [(0, .func (.yield l) #[] #[]), (10, .slice z.a z.ys.length z.c), (11, .int .i64 (z.ys.length : Int)), (12, .int .i64 (j : Int))])
      (fun j gk y w' => (j ≤ z.ys.length ∧ J j gk y) ∧ Sat w1 (DD ((baseA g0 ++ boxB bp parts p f) ++ CC y0)) (fun b => b < w1.heap.size ∧ ¬ DD ((baseA g0 ++ boxB bp parts p f) ++ CC y0) b) w1 (rowAt z.a z.c z.ys :: (argsA (z.ys.drop j) ++ (baseA gk ++ (boxB bp parts p f ++ CC y)))) w')
      (fun j _ _ => z.ys.length - j) 0 z.g y0 ⟨rfl, rfl, rfl, rfl, trivial⟩ (fun w' hw => ⟨⟨by omega, h0 z.g ⟨bsz, hzp⟩⟩, hw⟩) ?_
  intro j gk y
  refine WC.pure (fun hj => ?_)
  refine Csr (Zv (OV.lss rfl rfl) (Nn (Cs ?_)))
  refine Cc rfl (fun c13 => ?_) (fun c13 => ?_)
  · refine Ck (Xn (Cs (Cb (Csr ?_))))
    obtain ⟨ay, hay⟩ : ∃ ay, z.ys[j]? = some ay := ⟨_, List.getElem?_eq_getElem (by omega)⟩
    obtain ⟨qa, hqa⟩ := hza (by omega)
    have hdr : z.ys.drop j = ay :: z.ys.drop (j + 1) := drop_cons hay
    refine Zv ((OV.indexSlice (show _ = some (Value.slice (some ⟨qa, 0, none⟩) z.ys.length z.c) by rw [← hqa]; rfl) rfl T.u27 T.z34 (by omega)).cast (u := .pointer (some ⟨qa, j * 5, none⟩)) (by rw [Int.toNat_natCast, add_off, Nat.zero_add])) ?_
    refine WL.val (OV.loadN (cs := agC ay) rfl T.u34 rfl T.z34 (fun _ hw i v hi => by have hi5 : i < 5 := (List.getElem?_eq_some_iff.1 hi).1; have h := row_cellsφE hqa (hw.it (rowAt z.a z.c z.ys) (.head _)) (j * 5 + i) v (by rw [flat_get agC_len _ j i ay hay (by omega)]; exact hi); rw [add_off, Nat.zero_add] at h; rw [add_off]; exact h)) rfl ?_
    refine WL.alloc T.zr34 rfl ?_
    intro b6
    refine WL.storeAll (vs := atC ay.x ay.a ay.c) rfl rfl rfl T.z34 rfl ?_
    refine Nn (Csr (Zm rfl (Zv (OV.loadN (cs := atC ay.x ay.a ay.c) rfl T.u34 rfl T.z34 (fun _ hw j v hj => by rw [add_off, Nat.zero_add]; exact own_cells hw (.head _) j v hj)) ?_)))
    obtain ⟨hjj, hJ⟩ := hj
    rw [hdr]
    have hax : (foundF F parts p)[j]? = some ay.x := by rw [← hzx, List.getElem?_map, hay]; rfl
    refine WL.focus (ow' := (rowT ay.a ay.c ay.x.args :: (baseA gk ++ (boxB bp parts p f ++ CC y))) ++ ([own b6 (.cells (atC ay.x ay.a ay.c).toArray 34 (0, 0)), rowAt z.a z.c z.ys] ++ argsA (z.ys.drop (j + 1)))) (by exact perm_cat [[own b6 (.cells (atC ay.x ay.a ay.c).toArray 34 (0, 0)), rowAt z.a z.c z.ys], [rowT ay.a ay.c ay.x.args], argsA (z.ys.drop (j + 1)), (baseA gk ++ (boxB bp parts p f ++ CC y))] [1, 3, 0, 2] (by decide) rfl) (WL.yieldT (AA := fun b A' => ∃ g2 y2, A' = (baseA g2 ++ (boxB bp parts p f ++ CC y2)) ∧ (b = true → J (j + 1) g2 y2) ∧ (b = false → Jx (j + 1) g2 y2)) rfl rfl rfl (fun w' hw' => ?_) ?_)
    · have ht := hw'.turnedL
      refine (hy j gk y (ay.a, ay.c) w' ay.x hax hJ (by simp only [List.append_assoc] at ht ⊢; exact ht)).mono (fun b W' ⟨g2, y2, t1, t2, t3⟩ => ⟨_, ⟨g2, y2, rfl, t1, t2⟩, by simp only [List.append_assoc] at t3 ⊢; exact t3⟩)
    rintro b A' ⟨g2, y2, rfl, hJt, hJf⟩
    refine Zv (OV.not rfl) (Nn ?_)
    refine Cc rfl (fun c19 => ?_) (fun c19 => ?_)
    · refine WC.ret ?_
      refine Xq (Xr (Xr (Xq ?_)))
      exact WX.ret0 rfl rfl (fun w' hw => ⟨rfl, g2, y2, j + 1, .inr ⟨by omega, by omega, hJf (by simpa using c19)⟩, by simpa only [List.append_assoc] using hw.turnedL⟩)
    refine Ck (Xb (Xn (Cr (Zv (OV.addN (j := 1) rfl rfl (by omega)) (Zm rfl (Nl ?_))))))
    refine WX.round3 (j + 1) g2 y2 ⟨rfl, rfl, rfl, rfl, trivial⟩ (fun w' hw => ⟨⟨by omega, hJt (by simpa using c19)⟩, ?_⟩) (by show z.ys.length - (j + 1) < z.ys.length - j; omega)
    have h2 := hw.perm (ow' := cat [(baseA g2 ++ (boxB bp parts p f ++ CC y2)), [own b6 (.cells (atC ay.x ay.a ay.c).toArray 34 (0, 0))], [rowAt z.a z.c z.ys], argsA (z.ys.drop (j + 1))]) (List.Perm.of_eq (by simp [cat]))
    have h3 := h2.pick [(baseA g2 ++ (boxB bp parts p f ++ CC y2)), [own b6 (.cells (atC ay.x ay.a ay.c).toArray 34 (0, 0))], [rowAt z.a z.c z.ys], argsA (z.ys.drop (j + 1))] [2, 3, 0] 4 rfl (by decide) (by decide)
    exact h3.perm (List.Perm.of_eq (by simp [cat]))
  refine Ce (Xe (Xe (Xh ?_)))
  obtain ⟨hjj, hJ⟩ := hj
  have hje : j = z.ys.length := by omega
  subst hje
  rw [List.drop_length] at *
  exact WX.ret0 rfl rfl (fun w' hw => ⟨rfl, gk, y, z.ys.length, .inl ⟨hzn, hJ⟩, by have h := hw.drop.turned; simpa only [argsA, List.map_nil, List.nil_append, List.append_assoc] using h⟩)

theorem bfind1_iter (f : FD) (g0 : BaseG) (k : Nat) (F : List (At × Nat)) (b : BS g0 k F) (hk : k ≤ 100000000000) (parts : Int) (p : At) (hl : p.args.length ≤ 1048575) (bp : Nat) (hbp : g0.p = bp) (w : World) :
    IterSpec Tryz.prog 53 f.caps (fun g => baseA g ++ boxB bp parts p f) g0 (fun g1 => BS g1 k F ∧ g1.p = g0.p) (fun _ => True) EIa arga (foundF F parts p) w := by
  intro β CC J Jx y0 l w1 ht h0 hm hy
  exact bfind1_calls f g0 k F b hk parts p hl bp hbp CC J Jx y0 l w1 ht.holds h0 hy

end Go.Proofs.YtgiiifadbnpfkaaGreatDoor

set_option maxRecDepth 10000
namespace Go.Proofs.YtgiiifadbnpfkaaGreatDoor
open Go Go.Hw
set_option linter.unusedSimpArgs false
set_option linter.unusedVariables false
set_option maxHeartbeats 2000000 in
theorem lfound_calls (g : BaseG) (k : Nat) (F : List (At × Nat)) (b : BS g k F) (hk : k ≤ 100000000000) (parts : Int) (p : At) (a : Option Addr) (c : Nat) (hl : p.args.length ≤ 1048575) (w : World) (hr : RT w a p.args) (hne : ∀ q, a = some q → 0 < p.args.length → ¬ DD (baseA g) q.block) (hA : Holds (baseA g) w) :
  Calls Tryz.prog 19 #[ptr g.p, .int .i64 parts, atV p a c] w fun e w' => ∃ z : AnsA, e = .returned (.slice z.a z.ys.length z.c) ∧ (z.ys.map AG.x = foundF F parts p ∧ BS z.g k F ∧ z.g.p = g.p ∧ (∀ y ∈ z.ys, y.x.args.length ≤ 8) ∧ z.ys.length ≤ k) ∧ Turns (baseA g) (baseA z.g ++ atsA z.a z.c z.ys) w w' := by
  refine enterA hA (args := [ptr g.p, .int .i64 parts, atV p a c]) Tryz.func19 rfl Tryz.ntmps19 rfl rfl ?_
  refine Csr (WL.box rfl rfl rfl ?_)
  intro b5
  refine Za rfl (Nn (Csr (WL.alloc T.zr27 rfl ?_)))
  intro b7
  refine Nn (Csr (Zm rfl (Zm rfl (Zv (OV.loadN (cs := atC p a c) rfl T.u34 rfl T.z34 (fun _ hw j v hj => by rw [add_off, Nat.zero_add]; exact own_cells hw (.tail _ (.head _)) j v hj)) (WL.callTA (ι := Nat × Nat × Nat × Option Addr × Nat) (vs := [ptr g.p, .int .i64 parts, atV p a c]) (vv := fun z => .func (.func 53) #[] #[ptr z.1, ptr z.2.1, ptr z.2.2.1]) (pp := fun _ => True) [] (AA := fun z => boxB g.p parts p ⟨z.1, z.2.1, z.2.2.1, z.2.2.2.1, z.2.2.2.2⟩) rfl (by kernel_rfl) rfl rfl (fun w' hw' _ => (bfind_calls g parts p a c (by omega) w' (hr.satA hne hw')).mono (fun en w'' ⟨z, h1, h2⟩ => ⟨z, h1, trivial, h2⟩)) ?_)))))
  rintro ⟨z1, z2, z3, z4, z5⟩ _
  obtain ⟨fd, hfd⟩ : ∃ fd : FD, fd = ⟨z1, z2, z3, z4, z5⟩ := ⟨_, rfl⟩
  refine WL.focus (ow' := (baseA g ++ boxB g.p parts p fd) ++ ([own b7 (.cells [Value.slice none 0 0].toArray 27 (0, 0))] ++ [own b5 (.cells (atC p a c).toArray 34 (0, 0))])) (by subst hfd; exact (List.Perm.of_eq (List.append_assoc _ _ _)).trans (perm_cat [boxB g.p parts p ⟨z1, z2, z3, z4, z5⟩, [own b7 (.cells [Value.slice none 0 0].toArray 27 (0, 0))], [own b5 (.cells (atC p a c).toArray 34 (0, 0))], baseA g] [3, 0, 1, 2] (by decide) rfl)) ?_
  refine Za rfl (Nn (Cs (Csr (Zm rfl (Zv (OV.eqlFN T.u54 rfl rfl) (Nn (WC.condF (show _ = some (Value.bool false) from by rfl) ?_)))))))
  refine Ck (Xn (Cs (Csr (Zm rfl (Nn (Cb ?_))))))
  refine WC.weak (S' := SatA w (baseA g) ((baseA g ++ boxB g.p parts p fd) ++ ((fun y : Option Addr × Nat × List AG => own b7 (.cells [Value.slice y.1 y.2.2.length y.2.1].toArray 27 (0, 0)) :: (atsA y.1 y.2.1 y.2.2 ++ [own b5 (.cells (atC p a c).toArray 34 (0, 0))])) (none, 0, []) ++ []))) (fun w' hw => ?_) ?_
  · have h2 := hw.rowNil 34 5
    refine h2.perm ?_
    exact (List.Perm.of_eq (by simp [cat, atsA, argsA, rowAt])).trans (perm_cat [[row 34 5 none 0 0 []], (baseA g ++ boxB g.p parts p fd), [own b7 (.cells [Value.slice none 0 0].toArray 27 (0, 0))], [own b5 (.cells (atC p a c).toArray 34 (0, 0))]] [1, 2, 0, 3] (by decide) rfl)
  refine WC.rangeFunc (RA := fun q => baseA q ++ boxB g.p parts p fd) (CC := (fun y : Option Addr × Nat × List AG => own b7 (.cells [Value.slice y.1 y.2.2.length y.2.1].toArray 27 (0, 0)) :: (atsA y.1 y.2.1 y.2.2 ++ [own b5 (.cells (atC p a c).toArray 34 (0, 0))]))) (EI := EIa) (arg := arga) (xs := (foundF F parts p)) (g0 := g) (y0 := (none, 0, [])) (R01 := fun q => BS q k F ∧ q.p = g.p) (Mono := fun _ => True) (gf := 53) (caps := fd.caps) (ow := []) rfl (by rw [hfd]; rfl) (by kernel_rfl) rfl (fun w' _ => bfind1_iter fd g k F b hk parts p hl g.p rfl w')
    (fun i q y => BS q k F ∧ q.p = g.p ∧ y.2.2.map AG.x = (foundF F parts p).take i ∧ (∀ z ∈ y.2.2, z.x.args.length ≤ 8)) (fun _ _ _ _ => False) (fun q hq => ⟨hq.1, hq.2, by simp, fun z hz => by cases hz⟩) (fun _ _ _ _ => trivial) ?_ ?_ ?_
  · rintro l lr i q ⟨la, lc, ys⟩ d W x hxs hJ hS
    obtain ⟨bsq, hqp, hys, hya⟩ : BS q k F ∧ q.p = g.p ∧ ys.map AG.x = (foundF F parts p).take i ∧ (∀ z ∈ ys, z.x.args.length ≤ 8) := hJ
    have hyl : ys.length ≤ k := by
      have h1 := congrArg List.length hys
      rw [List.length_map, List.length_take] at h1
      have h2 := foundF_len b parts p
      omega
    have hx8 : x.args.length ≤ 8 := by
      have h1 := (sortA_perm _).mem_iff.1 (List.mem_of_getElem? hxs)
      obtain ⟨q2, hq2, he⟩ := List.mem_map.1 (List.mem_filter.1 h1).1
      exact facts_args b.ok ((b.mem x).2 (List.mem_map.2 ⟨q2, (List.mem_filter.1 hq2).1, he⟩))
    refine Cr (WL.alloc T.zr34 rfl ?_)
    intro b9
    refine WL.storeAll (vs := atC x d.1 d.2) rfl rfl rfl T.z34 rfl ?_
    refine WL.focus perm1 ?_
    refine Nl (WX.begin ?_)
    refine WC.focus (ow' := own b7 (.cells [Value.slice la ys.length lc].toArray 27 (0, 0)) :: rowAt la lc ys :: own b9 (.cells (atC x d.1 d.2).toArray 34 (0, 0)) :: own l (lr.ob .busy none) :: rowT d.1 d.2 x.args :: (argsA ys ++ ([own b5 (.cells (atC p a c).toArray 34 (0, 0))] ++ (baseA q ++ boxB g.p parts p fd)))) (by
      refine List.Perm.trans (perm_cat [[own l (lr.ob .busy none)], [own b9 (.cells (atC x d.1 d.2).toArray 34 (0, 0))], [rowT d.1 d.2 x.args], (baseA q ++ boxB g.p parts p fd), [own b7 (.cells [Value.slice la ys.length lc].toArray 27 (0, 0)), rowAt la lc ys], argsA ys, [own b5 (.cells (atC p a c).toArray 34 (0, 0))]] [4, 1, 0, 2, 5, 6, 3] (by decide) rfl) (List.Perm.of_eq ?_)
      simp [cat, atsA]) ?_
    refine Cb (Cr (Zv (OV.load1 (v := .slice la ys.length lc) rfl T.u27 rfl (fun _ hw => own_box hw (show own b7 (.cells [Value.slice la ys.length lc].toArray 27 (0, 0)) ∈ _ by simp))) (Zv (OV.loadN (cs := atC x d.1 d.2) rfl T.u34 rfl T.z34 (fun _ hw j v hj => by rw [add_off, Nat.zero_add]; exact own_cells hw (show own b9 (.cells (atC x d.1 d.2).toArray 34 (0, 0)) ∈ _ by simp) j v hj)) (WL.buildSliceA (cs := agC (⟨x, d.1, d.2⟩ : AG)) T.u27 T.z34 T.zr34 rfl rfl (by omega) (by omega) rfl ?_))))
    intro b23
    refine WL.focus (ow' := rowAt la lc ys :: own b23 (.cells (agC (⟨x, d.1, d.2⟩ : AG)).toArray 34 (0, 0)) :: own b7 (.cells [Value.slice la ys.length lc].toArray 27 (0, 0)) :: own b9 (.cells (atC x d.1 d.2).toArray 34 (0, 0)) :: own l (lr.ob .busy none) :: rowT d.1 d.2 x.args :: (argsA ys ++ ([own b5 (.cells (atC p a c).toArray 34 (0, 0))] ++ (baseA q ++ boxB g.p parts p fd)))) (perm_pick [_, _, _, _, _, _] [2, 0, 1, 3, 4, 5] (by decide) rfl) ?_
    refine WL.append (news := agC (⟨x, d.1, d.2⟩ : AG)) rfl rfl T.apA (fun _ _ => own_srcN (.tail _ (.head _)) rfl) (agC_one _) ⟨by omega, by unfold maxLen; omega⟩ rfl ?_
    intro a24 c24
    refine WL.focus perm2 (WL.store1 (o := 0) rfl rfl rfl T.z27 Nat.zero_lt_one ?_)
    refine Nl (Xb ?_)
    have el : ys.length + 1 = (ys ++ [(⟨x, d.1, d.2⟩ : AG)]).length := by simp
    have ef : ys.flatMap agC ++ agC (⟨x, d.1, d.2⟩ : AG) = (ys ++ [(⟨x, d.1, d.2⟩ : AG)]).flatMap agC := by simp
    have em : argsA (ys ++ [(⟨x, d.1, d.2⟩ : AG)]) = argsA ys ++ [rowT d.1 d.2 x.args] := by simp [argsA]
    refine WX.focus (ow' := own l (lr.ob .busy none) :: ((baseA q ++ boxB g.p parts p fd) ++ (own b7 (.cells [Value.slice a24 (ys ++ [(⟨x, d.1, d.2⟩ : AG)]).length c24].toArray 27 (0, 0)) :: rowAt a24 c24 (ys ++ [(⟨x, d.1, d.2⟩ : AG)]) :: (argsA ys ++ (rowT d.1 d.2 x.args :: ([own b5 (.cells (atC p a c).toArray 34 (0, 0))] ++ [own b23 (.cells (agC (⟨x, d.1, d.2⟩ : AG)).toArray 34 (0, 0)), own b9 (.cells (atC x d.1 d.2).toArray 34 (0, 0))])))))) ?_ (WX.roundEnd (fun w' hw => ⟨q, (a24, c24, ys ++ [(⟨x, d.1, d.2⟩ : AG)]), lr.ob .ready none, fun _ => ⟨⟨bsq, hqp, ?_, ?_⟩, rfl⟩, fun h => (by cases h), ?_⟩))
    · rw [el, ef]
      exact (perm_cat [[own b7 (.cells [Value.slice a24 (ys ++ [(⟨x, d.1, d.2⟩ : AG)]).length c24].toArray 27 (0, 0))], [rowAt a24 c24 (ys ++ [(⟨x, d.1, d.2⟩ : AG)])], [own b23 (.cells (agC (⟨x, d.1, d.2⟩ : AG)).toArray 34 (0, 0))], [own b9 (.cells (atC x d.1 d.2).toArray 34 (0, 0))], [own l (lr.ob .busy none)], [rowT d.1 d.2 x.args], argsA ys, [own b5 (.cells (atC p a c).toArray 34 (0, 0))], (baseA q ++ boxB g.p parts p fd)] [4, 8, 0, 1, 6, 5, 7, 2, 3] (by decide) rfl)
    · show (ys ++ [_]).map AG.x = _
      rw [List.map_append, hys, List.take_add_one, hxs]; rfl
    · intro z hz
      rcases List.mem_append.1 hz with h | h
      · exact hya z h
      · simp only [List.mem_singleton] at h; subst h; exact hx8
    · show Turns _ (own l (lr.ob .ready none) :: ((baseA q ++ boxB g.p parts p fd) ++ (own b7 (.cells [Value.slice a24 (ys ++ [(⟨x, d.1, d.2⟩ : AG)]).length c24].toArray 27 (0, 0)) :: (atsA a24 c24 (ys ++ [(⟨x, d.1, d.2⟩ : AG)]) ++ [own b5 (.cells (atC p a c).toArray 34 (0, 0))])))) _ _
      unfold atsA
      rw [em]
      exact Hw.Sat.turnedL (B := [own b23 (.cells (agC (⟨x, d.1, d.2⟩ : AG)).toArray 34 (0, 0)), own b9 (.cells (atC x d.1 d.2).toArray 34 (0, 0))]) (hw.perm (List.Perm.of_eq (by simp)))
  · rintro D g2 ⟨la, lc, ys⟩ hJ
    obtain ⟨bs2, hp2, hys, hya⟩ : BS g2 k F ∧ g2.p = g.p ∧ ys.map AG.x = (foundF F parts p).take (foundF F parts p).length ∧ (∀ z ∈ ys, z.x.args.length ≤ 8) := hJ
    rw [List.take_length] at hys
    refine Xb (Xn (Csr (Zv (OV.load1 (v := .slice la ys.length lc) rfl T.u27 rfl (fun _ hw => own_box hw (show own b7 (.cells [Value.slice la ys.length lc].toArray 27 (0, 0)) ∈ _ by simp))) (Za rfl (Nn (WC.ret ?_))))))
    have hyk : ys.length ≤ k := by
      have h1 := congrArg List.length hys
      rw [List.length_map] at h1
      rw [h1]; exact foundF_len b parts p
    refine WX.leave rfl (WR.mark ?_)
    refine WR.ret1 (v := .slice la ys.length lc) rfl rfl (fun w' hw => ⟨(⟨g2, la, lc, ys⟩ : AnsA), rfl, ⟨hys, bs2, hp2, hya, hyk⟩, ?_⟩)
    have h2 := hw.drop.perm (ow' := cat [baseA g2, boxB g.p parts p fd, [own b7 (.cells [Value.slice la ys.length lc].toArray 27 (0, 0))], atsA la lc ys, [own b5 (.cells (atC p a c).toArray 34 (0, 0))]]) (List.Perm.of_eq (by simp [cat]))
    have h3 := h2.pick [baseA g2, boxB g.p parts p fd, [own b7 (.cells [Value.slice la ys.length lc].toArray 27 (0, 0))], atsA la lc ys, [own b5 (.cells (atC p a c).toArray 34 (0, 0))]] [0, 3] 5 rfl (by decide) (by decide)
    exact Hw.Sat.turned h3
  · intro D c k g2 y2 hJ
    exact hJ.elim

end Go.Proofs.YtgiiifadbnpfkaaGreatDoor

set_option maxRecDepth 10000
namespace Go.Proofs.YtgiiifadbnpfkaaGreatDoor
open Go Go.Hw
set_option linter.unusedSimpArgs false
set_option linter.unusedVariables false
/-- behindTerm, as it is laid. -/
def TB : Tm := ⟨901, 902, ⟨#[98, 101, 104, 105, 110, 100]⟩⟩
def BehindAt (w : World) : Prop := ∀ j v, (tmC TB)[j]? = some v → w.cell? ⟨0, j, none⟩ = some v
theorem BehindAt.keeps {w w' : World} (h : BehindAt w) (k : Keeps w w') : BehindAt w' := fun j v hj => k _ _ (h j v hj)
abbrev rowL2 (a : Option Addr) (c : Nat) (ts : List Tm) : Hw.Item := row 31 3 a (ts.length + 1) c ((ts ++ [TB]).flatMap tmC)

theorem row_base2 {w : World} {T c m s : Nat} {a : Option Addr} {xs : List Value} (h : (row T s a m c xs).φ w) : m ≤ c := by
  have h1 : w.ownsRow 0 T s (.slice a m c) m xs := h
  rcases h1.2 with ⟨hv, h0⟩ | ⟨g, cc, cur, hv, _, _, hmc, _⟩
  · omega
  · simp only [Value.slice.injEq] at hv; omega

theorem lendTerms_calls (ts : List Tm) (a : Option Addr) (c : Nat) (hm : ts.length ≤ 1048576) (w : World) (hB : BehindAt w) (hr : RT w a ts) : Calls Tryz.prog 51 #[.slice a ts.length c] w fun e w' => ∃ a' c', e = .returned (.slice a' ts.length c') ∧ ts.length + 1 ≤ c' ∧ Turns [] [rowL2 a' c' ts] w w' := by
  refine enterS (args := [.slice a ts.length c]) (fun _ => False) Tryz.func51 rfl Tryz.ntmps51 rfl rfl ?_
  refine Csr (Za rfl (Nn (Csr (Za rfl (Nn (Csr (Zm rfl (Zm rfl (WL.weak (S' := Sat0 w (row 31 3 none 0 0 [] :: [])) (fun w' hw => hw.rowNil 31 3) ?_)))))))))
  refine WL.append (news := ts.flatMap tmC) rfl rfl T.apT (fun _ _ => Src.of_rt hr.nil (fun _ hw => hr.keeps hw.keeps)) (tms_one _) ⟨by omega, by unfold maxLen; omega⟩ rfl ?_
  intro a6 c6
  simp only [Nat.zero_add, List.nil_append]
  refine Za rfl (Nn (Csr (Zm rfl (Zv (OV.loadN (cs := tmC TB) rfl T.u31 rfl T.z31 (fun _ hw j v hj => by rw [add_off, Nat.zero_add]; exact hw.keeps _ _ (hB j v hj))) (WL.buildSliceA (cs := tmC TB) T.u32 T.z31 T.zr31 rfl rfl (by omega) (by omega) rfl ?_)))))
  intro b9
  refine WL.focus perm1 (WL.append (news := tmC TB) rfl rfl T.apT (fun _ _ => own_srcN (.tail _ (.head _)) rfl) (tmC_one _) ⟨by omega, by unfold maxLen; omega⟩ rfl ?_)
  intro a10 c10
  refine Za rfl (Nn (Cs ?_))
  have ef : ts.flatMap tmC ++ tmC TB = (ts ++ [TB]).flatMap tmC := by simp
  rw [ef]
  refine WC.know (fun w' hw => row_base2 (hw.it (rowL2 a10 c10 ts) (.head _))) (fun hcap => ?_)
  refine Cr (Zm rfl (Zm rfl (Zv (OV.lenSlice rfl T.u32) (Zv (OV.sliceTo (h := ts.length) rfl T.u32 T.z31 rfl (by omega)) (Za rfl (Nn (WC.ret ?_)))))))
  exact WX.ret1 rfl rfl rfl (fun w' hw => ⟨a10, c10, rfl, hcap, (hw.pick [[rowL2 a10 c10 ts], [own b9 (.cells (tmC TB).toArray 31 (0, 0))]] [0] 2 rfl (by decide) (by decide)).turned0⟩)

theorem lendAtom_calls (x : At) (a : Option Addr) (c : Nat) (hm : x.args.length ≤ 1048576) (w : World) (hB : BehindAt w) (hr : RT w a x.args) : Calls Tryz.prog 21 #[atV x a c] w fun e w' => ∃ z : Option Addr × Nat, e = .returned (atV x z.1 z.2) ∧ x.args.length + 1 ≤ z.2 ∧ Turns [] [rowL2 z.1 z.2 x.args] w w' := by
  refine enterS (args := [atV x a c]) (fun _ => False) Tryz.func21 rfl Tryz.ntmps21 rfl rfl ?_
  refine Csr (WL.box rfl rfl rfl ?_)
  intro b1
  refine WL.alloc T.zr34 rfl ?_
  intro b2
  refine Nn (Cs (Hd (fun w' => w'.heap[b1]? = some (.cells (atC x a c).toArray 34 (0, 0))) [] (fun _ hw => hw.it (own b1 _) (by simp)) (m := 9) rfl ?_))
  refine Hf 0 rfl (OV.fieldAddr0 (off := 0) rfl T.u34 rfl) (Ht 1 rfl (OV.loadN (cs := tmC x.b) rfl T.u31 rfl T.z31 (fun _ hw j v hj => by rw [add_off]; exact heap_part hw (o := 0) (cs' := tmC x.b) rfl j v hj)) (Hf 2 rfl (OV.fieldAddr0 (off := 3) rfl T.u34 rfl) (Ht 3 rfl (OV.load1 (v := .string x.name) rfl T.u9 rfl (fun _ hw => (cell_at hw (o := 3) rfl).1)) (Hf 4 rfl (OV.fieldAddr0 (off := 4) rfl T.u34 rfl) (Ht 5 rfl (OV.load1 (v := .slice a x.args.length c) rfl T.u32 rfl (fun _ hw => (cell_at hw (o := 4) rfl).1)) (Ho 6 rfl (fl' := false) rfl ?_))))))
  refine WL.focus (ow' := [] ++ (own b2 (.cells (atC ⟨T0, E0, []⟩ none 0).toArray 34 (0, 0)) :: own b1 (.cells (atC x a c).toArray 34 (0, 0)) :: [])) (List.Perm.refl _) ?_
  refine WL.callTA (ι := Option Addr × Nat) (vs := [.slice a x.args.length c]) (vv := fun q => .slice q.1 x.args.length q.2) (pp := fun q => x.args.length + 1 ≤ q.2) [] (AA := fun q => [rowL2 q.1 q.2 x.args]) rfl (by kernel_rfl) rfl rfl (fun w' hw' _ => (lendTerms_calls x.args a c hm w' (hB.keeps hw'.keeps) (hr.keeps hw'.keeps)).mono (fun en w'' ⟨la, lc, h1, h2, h3⟩ => ⟨(la, lc), h1, h2, h3⟩)) ?_
  rintro ⟨la, lc⟩ hlc
  refine Hc (fun _ => (fun _ hw => hw.it (own b1 _) (by simp))) ?_
  refine Hf 7 rfl (OV.buildStruct (xs := [(0, .tmp 4), (1, .tmp 6), (2, .tmp 9)]) (pl := [(0, 3), (3, 1), (4, 1)]) (cs := atC x la lc) T.u34 T.zr34 (by kernel_rfl) rfl (fill_cons (us := tmC x.b) rfl rfl (Nat.le_of_ble_eq_true rfl) (fill_cons (us := [_]) rfl rfl (Nat.le_of_ble_eq_true rfl) (fill_cons (us := [_]) rfl rfl (Nat.le_of_ble_eq_true rfl) rfl)))) (Ho 8 rfl (fl' := false) rfl ?_)
  refine WL.focus perm1 (WL.storeAll (vs := atC x la lc) rfl rfl rfl T.z34 rfl ?_)
  refine Hc (fun _ => (fun _ hw => hw.it (own b1 _) (by simp))) ?_
  refine He (Xn (WC.ret ?_))
  refine WX.retC (cs := atC x la lc) rfl rfl rfl T.u34 rfl T.z34 (fun w' hw j v hj => own_cells hw (.head _) j v hj) (fun w' hw => ⟨(la, lc), rfl, hlc, ?_⟩)
  exact (hw.pick [[own b2 (.cells (atC x la lc).toArray 34 (0, 0))], [rowL2 la lc x.args], [own b1 (.cells (atC x a c).toArray 34 (0, 0))]] [1] 3 rfl (by decide) (by decide)).turned0

end Go.Proofs.YtgiiifadbnpfkaaGreatDoor

set_option maxRecDepth 10000
namespace Go.Proofs.YtgiiifadbnpfkaaGreatDoor
open Go Go.Hw
set_option linter.unusedSimpArgs false
set_option linter.unusedVariables false
theorem RT.pre {w : World} {a : Option Addr} {ts us : List Tm} (h : RT w a (ts ++ us)) (hu : 0 < us.length) : RT w a ts :=
  ⟨fun ha => by have := h.nil ha; rw [List.length_append] at this; omega, fun q hq i t ht j v hv => h.at_ q hq i t (by rw [List.getElem?_append_left (List.getElem?_eq_some_iff.1 ht).1]; exact ht) j v hv⟩

end Go.Proofs.YtgiiifadbnpfkaaGreatDoor

set_option maxRecDepth 10000
namespace Go.Proofs.YtgiiifadbnpfkaaGreatDoor
open Go Go.Hw
set_option linter.unusedSimpArgs false
set_option linter.unusedVariables false
end Go.Proofs.YtgiiifadbnpfkaaGreatDoor

set_option maxRecDepth 10000
namespace Go.Proofs.YtgiiifadbnpfkaaGreatDoor
open Go Go.Hw
set_option linter.unusedSimpArgs false
set_option linter.unusedVariables false
end Go.Proofs.YtgiiifadbnpfkaaGreatDoor

set_option maxRecDepth 10000
namespace Go.Proofs.YtgiiifadbnpfkaaGreatDoor
open Go Go.Hw
set_option linter.unusedSimpArgs false
set_option linter.unusedVariables false
end Go.Proofs.YtgiiifadbnpfkaaGreatDoor

set_option maxRecDepth 10000
namespace Go.Proofs.YtgiiifadbnpfkaaGreatDoor
open Go Go.Hw
set_option linter.unusedSimpArgs false
set_option linter.unusedVariables false
end Go.Proofs.YtgiiifadbnpfkaaGreatDoor

set_option maxRecDepth 10000
namespace Go.Proofs.YtgiiifadbnpfkaaGreatDoor
open Go Go.Hw
set_option linter.unusedSimpArgs false
set_option linter.unusedVariables false
/-- The strings of an atom are not too long. -/
structure AtS (x : At) : Prop where
  len : x.args.length ≤ 1048575
  name : x.name.size ≤ 1099511627776
  b : x.b.s.size ≤ 1099511627776
  args : ∀ t ∈ x.args, t.s.size ≤ 1099511627776
end Go.Proofs.YtgiiifadbnpfkaaGreatDoor

set_option maxRecDepth 10000
namespace Go.Proofs.YtgiiifadbnpfkaaGreatDoor
open Go Go.Hw
set_option linter.unusedSimpArgs false
set_option linter.unusedVariables false
section
open Go.ChangeShapes Go.WideShapes Go.ChangeAt Go.RowKit
variable {H : Type} {enc : TypeId × Value → H} {w : World} {base : Nat} {spare : Nat → Bool} {held : Bool} {r : Reach} {b0 : Nat}
def wtS (y : AG) : Nat := y.x.name.size + y.x.b.s.size + (y.x.args.map wtT).sum + 7
set_option maxRecDepth 100000 in
theorem trod_atomS {fuel : Nat} {cs : List Value} {x : DataW H × List MemPlace} (h : DataW.trod enc Tryz.prog w base spare held fuel 34 cs = some x) :
    ∃ y : AG, cs = agC y ∧ RT w y.a y.x.args ∧ wtS y ≤ Rows.uptoBulk x.1 := by
  obtain ⟨xs, n, rfl, rfl, hl, hxs, hf⟩ := DataW.trod_struct T.u34 h
  have hl5 : cs.length = 5 := by rw [hl]; kernel_rfl
  have cT : Program.cellsOf Tryz.prog 31 = 3 := by kernel_rfl
  have cS : Program.cellsOf Tryz.prog 9 = 1 := by kernel_rfl
  have cL : Program.cellsOf Tryz.prog 32 = 1 := by kernel_rfl
  match cs, hl5 with
  | [v0, v1, v2, v3, v4], _ =>
    match xs, hxs with
    | [x0, x1, x2], _ =>
      have k0 : DataW.trod enc Tryz.prog w base spare held n 31 [v0, v1, v2] = some x0 := by
        have k : DataW.trod enc Tryz.prog w base spare held n 31 (List.take (Program.cellsOf Tryz.prog 31) (List.drop 0 [v0, v1, v2, v3, v4])) = some x0 := hf 0 _ rfl
        rw [cT] at k; exact k
      have k1 : DataW.trod enc Tryz.prog w base spare held n 9 [v3] = some x1 := by
        have k : DataW.trod enc Tryz.prog w base spare held n 9 (List.take (Program.cellsOf Tryz.prog 9) (List.drop 3 [v0, v1, v2, v3, v4])) = some x1 := hf 1 _ rfl
        rw [cS] at k; exact k
      have k2 : DataW.trod enc Tryz.prog w base spare held n 32 [v4] = some x2 := by
        have k : DataW.trod enc Tryz.prog w base spare held n 32 (List.take (Program.cellsOf Tryz.prog 32) (List.drop 4 [v0, v1, v2, v3, v4])) = some x2 := hf 2 _ rfl
        rw [cL] at k; exact k
      obtain ⟨t, e0, _, b0, _⟩ := trod_term k0
      obtain ⟨s, e1, rfl, w1⟩ := DataW.trod_string T.u9 k1
      obtain ⟨a, c, ts, e2, ha, hat, _, b2⟩ := trod_listN (default : Tm) T.u32 (by kernel_rfl) tmC tmC_len (fun _ => True) wtT (fun fuel cs x hx => by
        obtain ⟨t, e, _, hb, _⟩ := trod_term hx
        exact ⟨t, e, trivial, hb⟩) k2
      simp only [tmC, List.cons.injEq, and_true] at e0 e1 e2
      obtain ⟨rfl, rfl, rfl⟩ := e0
      subst e1; subst e2
      refine ⟨⟨⟨t, s, ts⟩, a, c⟩, rfl, ⟨ha, hat⟩, ?_⟩
      have h1 := len_wt wtT (k := 1) (fun y => by unfold wtT; omega) ts
      have h2 : s.data.toList.length = s.size := by simp
      unfold wtT at b0
      simp only [List.map_cons, List.map_nil, Rows.uptoBulk, Rows.uptoBulkAll, wtS]
      omega
def wtOS (o : OpB) : Nat := wtS o.y + 4
set_option maxRecDepth 100000 in
theorem trod_opS {fuel : Nat} {cs : List Value} {x : DataW H × List MemPlace} (h : DataW.trod enc Tryz.prog w base spare held fuel 65 cs = some x) :
    ∃ o : OpB, cs = opB o ∧ RT w o.y.a o.y.x.args ∧ wtOS o ≤ Rows.uptoBulk x.1 := by
  obtain ⟨xs, n, rfl, rfl, hl, hxs, hf⟩ := DataW.trod_struct T.u65 h
  have hl8 : cs.length = 8 := by rw [hl]; kernel_rfl
  have cI : Program.cellsOf Tryz.prog 3 = 1 := by kernel_rfl
  have cA : Program.cellsOf Tryz.prog 34 = 5 := by kernel_rfl
  have cB : Program.cellsOf Tryz.prog 4 = 1 := by kernel_rfl
  match cs, hl8 with
  | [v0, v1, v2, v3, v4, v5, v6, v7], _ =>
    match xs, hxs with
    | [x0, x1, x2, x3], _ =>
      have k0 : DataW.trod enc Tryz.prog w base spare held n 3 [v0] = some x0 := by
        have k : DataW.trod enc Tryz.prog w base spare held n 3 (List.take (Program.cellsOf Tryz.prog 3) (List.drop 0 [v0, v1, v2, v3, v4, v5, v6, v7])) = some x0 := hf 0 _ rfl
        rw [cI] at k; exact k
      have k1 : DataW.trod enc Tryz.prog w base spare held n 34 [v1, v2, v3, v4, v5] = some x1 := by
        have k : DataW.trod enc Tryz.prog w base spare held n 34 (List.take (Program.cellsOf Tryz.prog 34) (List.drop 1 [v0, v1, v2, v3, v4, v5, v6, v7])) = some x1 := hf 1 _ rfl
        rw [cA] at k; exact k
      have k2 : DataW.trod enc Tryz.prog w base spare held n 3 [v6] = some x2 := by
        have k : DataW.trod enc Tryz.prog w base spare held n 3 (List.take (Program.cellsOf Tryz.prog 3) (List.drop 6 [v0, v1, v2, v3, v4, v5, v6, v7])) = some x2 := hf 2 _ rfl
        rw [cI] at k; exact k
      have k3 : DataW.trod enc Tryz.prog w base spare held n 4 [v7] = some x3 := by
        have k : DataW.trod enc Tryz.prog w base spare held n 4 (List.take (Program.cellsOf Tryz.prog 4) (List.drop 7 [v0, v1, v2, v3, v4, v5, v6, v7])) = some x3 := hf 3 _ rfl
        rw [cB] at k; exact k
      obtain ⟨kind, e0, rfl, w0⟩ := DataW.trod_int T.u3 k0
      obtain ⟨y, e1, r1, b1⟩ := trod_atomS k1
      obtain ⟨num, e2, rfl, w2⟩ := DataW.trod_int T.u3 k2
      obtain ⟨other, e3, rfl⟩ := DataW.trod_bool T.u4 k3
      simp only [agC, atC, List.cons.injEq, and_true] at e0 e1 e2 e3
      obtain ⟨rfl, rfl, rfl, rfl, rfl⟩ := e1
      subst e0; subst e2; subst e3
      refine ⟨⟨kind, y, num, other⟩, rfl, r1, ?_⟩
      simp only [List.map_cons, List.map_nil, Rows.uptoBulk, Rows.uptoBulkAll, wtOS]
      omega
set_option maxRecDepth 100000 in
theorem open_opsS {v : Value} {d : DataW H} {p : List MemPlace} (hv : Value.okWide Tryz.prog w r b0 22 v) (h : DataW.Trod enc Tryz.prog w base spare held 22 v d p) :
    ∃ a c os, v = .slice a os.length c ∧ ROp w a os ∧ (os.map wtOS).sum + 1 ≤ Rows.uptoBulk d := by
  obtain ⟨fuel, hf⟩ := h
  obtain ⟨a, c, os, e, ha, hat, hg, hb⟩ := trod_listN (⟨0, ⟨default, none, 0⟩, 0, false⟩ : OpB) (s := 8) T.u22 (by kernel_rfl) opB opB_len (fun o => RT w o.y.a o.y.x.args) wtOS (fun fuel cs x hx => by
    obtain ⟨o, e, h1, h2⟩ := trod_opS hx
    exact ⟨o, e, h1, h2⟩) hf
  exact ⟨a, c, os, slice_of_ok (P := Tryz.prog) T.u22 hv e, ⟨ha, hat, hg⟩, hb⟩

theorem wtS_AtS {y : AG} (h : wtS y ≤ 1048576) : AtS y.x := by
  unfold wtS at h
  have h1 := len_wt wtT (k := 1) (fun y => by unfold wtT; omega) y.x.args
  refine ⟨by omega, by omega, by omega, fun t ht => ?_⟩
  have h2 := le_sum wtT ht
  have h3 : wtT t = t.s.size + 4 := rfl
  omega
theorem ops_okS {os : List OpB} (h : (os.map wtOS).sum + 1 ≤ 1048576) : os.length ≤ 1048576 ∧ ∀ o ∈ os, AtS o.y.x := by
  have h1 := len_wt wtOS (k := 1) (fun y => by unfold wtOS; omega) os
  refine ⟨by omega, fun o ho => wtS_AtS ?_⟩
  have h2 := le_sum wtOS ho
  have h3 : wtOS o = wtS o.y + 4 := rfl
  omega
theorem behind_laid {fuel : Nat} {cs : Array Value} {q : List MemPlace} (hg : Program.globalNamed Tryz.prog "hearsay/hearsayref03.behindTerm" = some 0) (hv : w.var? Tryz.prog "hearsay/hearsayref03.behindTerm" = some cs) (hd : DataW.trod enc Tryz.prog w base spare held fuel 31 cs.toList = some (Rows.laid_hearsay_hearsayref03_behindTerm, q)) : BehindAt w := by
  obtain ⟨t, e, _, _, ht⟩ := trod_term hd
  have ht0 : t = TB := by
    simp only [Rows.laid_hearsay_hearsayref03_behindTerm, DataW.agg.injEq, List.cons.injEq, DataW.lit.injEq, Lit.int.injEq, true_and, Lit.string.injEq, and_true] at ht
    obtain ⟨h1, h2, h3⟩ := ht
    obtain ⟨k, n, s⟩ := t
    simp only at h1 h2 h3
    subst h1; subst h2
    have : s = ⟨#[98, 101, 104, 105, 110, 100]⟩ := by
      obtain ⟨⟨l⟩⟩ := s
      have h4 : ([98, 101, 104, 105, 110, 100] : List UInt8) = l := h3
      subst h4; rfl
    rw [this]; rfl
  intro j v hj
  rw [World.var?_cell hg hv j, ← Array.getElem?_toList, e, ht0]
  exact hj
end

end Go.Proofs.YtgiiifadbnpfkaaGreatDoor

set_option maxRecDepth 10000
namespace Go.Proofs.YtgiiifadbnpfkaaGreatDoor
open Go Go.Hw
set_option linter.unusedSimpArgs false
set_option linter.unusedVariables false
/-! ### The document's list of facts -/
def atD (L : List (At × Nat)) (x : At) : Nat := L.findIdx fun q => !decide (cmpA q.1 x < 0)
def SD (L : List (At × Nat)) : Prop := L.Pairwise fun p q => cmpA p.1 q.1 < 0
theorem atD_lt {L : List (At × Nat)} {x : At} {j : Nat} {q : At × Nat} (hq : L[j]? = some q) (hj : j < atD L x) : cmpA q.1 x < 0 := by
  have h := List.not_of_lt_findIdx hj
  obtain ⟨hl, rfl⟩ := List.getElem?_eq_some_iff.1 hq
  simpa using h
theorem atD_at {L : List (At × Nat)} {x : At} {q : At × Nat} (hq : L[atD L x]? = some q) : ¬ cmpA q.1 x < 0 := by
  obtain ⟨hl, rfl⟩ := List.getElem?_eq_some_iff.1 hq
  have h : (!decide (cmpA (L[atD L x]).1 x < 0)) = true := List.findIdx_getElem (w := hl)
  simpa using h
theorem SD.lt {L : List (At × Nat)} (h : SD L) {i j : Nat} {p q : At × Nat} (hp : L[i]? = some p) (hq : L[j]? = some q) (hij : i < j) : cmpA p.1 q.1 < 0 := by
  obtain ⟨h1, rfl⟩ := List.getElem?_eq_some_iff.1 hp
  obtain ⟨h2, rfl⟩ := List.getElem?_eq_some_iff.1 hq
  exact List.pairwise_iff_getElem.1 h i j h1 h2 hij
theorem SD.mem {L : List (At × Nat)} (h : SD L) {x : At} : x ∈ L.map (·.1) ↔ ∃ q, L[atD L x]? = some q ∧ q.1 = x := by
  constructor
  · intro hx
    obtain ⟨q, hq, rfl⟩ := List.mem_map.1 hx
    obtain ⟨j, hj⟩ := List.mem_iff_getElem?.1 hq
    have hl := (List.getElem?_eq_some_iff.1 hj).1
    rcases Nat.lt_trichotomy j (atD L q.1) with e | e | e
    · have := atD_lt hj e
      rw [cmpA_ok.refl] at this
      omega
    · exact ⟨q, by rw [← e]; exact hj, rfl⟩
    · exact absurd (h.lt (List.getElem?_eq_getElem (by omega)) hj e) (atD_at (List.getElem?_eq_getElem (by omega)))
  · rintro ⟨q, hq, rfl⟩
    exact List.mem_map.2 ⟨q, List.mem_of_getElem? hq, rfl⟩
theorem SD.turn {L : List (At × Nat)} (h : SD L) : SD (turnF L) := by
  unfold turnF SD
  rw [List.pairwise_map]
  exact h
theorem SD.sub {L M : List (At × Nat)} (h : SD L) (hs : M.Sublist L) : (M.map (·.1)).Pairwise fun a b => ¬ cmpA b a < 0 := by
  rw [List.pairwise_map]
  exact List.Pairwise.imp (fun {p q} hpq hh => by have := cmpA_ok.anti p.1 q.1; omega) (List.Pairwise.sublist hs h)
/-! ### The predicates of a list in order -/
end Go.Proofs.YtgiiifadbnpfkaaGreatDoor

namespace Go.Hw
open Go
set_option linter.unusedSimpArgs false
set_option linter.unusedVariables false
section
variable {w0 ws : World} {M I : Nat → Prop} {ow : List Item}
variable {P : Program} {ops : Array Oper} {Q : Post} {n : Nat} {ds : DS} {e : Env} {rest : List Oper} {t lt : TypeId} {p : String} {af : Array Edge} {k : Nat} {x y : Operand} {v : Value}
theorem take_set_mid {α : Type} {l xs vs : List α} {o k : Nat} (h : l.take k = xs) (ho : o + vs.length ≤ xs.length) (hk : k ≤ l.length) : (l.take o ++ vs ++ l.drop (o + vs.length)).take k = xs.take o ++ vs ++ xs.drop (o + vs.length) := by
  have hl : xs.length = k := by rw [← h, List.length_take]; omega
  subst h
  rw [List.take_take, Nat.min_eq_left (by omega), List.append_assoc, List.append_assoc, List.take_append, List.length_take, Nat.min_eq_left (by omega), List.take_of_length_le (l := List.take o l) (by rw [List.length_take]; omega)]
  congr 1
  rw [List.take_append, List.take_of_length_le (l := vs) (by omega)]
  congr 1
  rw [List.drop_take]
  congr 1
  omega
theorem WL.storeRowN {T size m cap o b : Nat} {a : Option Addr} {xs vs : List Value} (hx : ev e x = Option.some (.pointer (Option.some ⟨b, o, none⟩))) (ha : a = Option.some ⟨b, 0, none⟩) (hy : ev e y = Option.some (.agg vs.toArray)) (h1 : vs.all (·.oneCell') = true) (hz : P.sz lt = Option.some vs.length) (ho : o + vs.length ≤ xs.length)
    (h : WL P ops Q n ds e (Sat w0 M I ws (row T size a m cap (xs.take o ++ vs ++ xs.drop (o + vs.length)) :: ow)) rest) :
    WL P ops Q n ds e (Sat w0 M I ws (row T size a m cap xs :: ow)) (⟨none, .store lt x y, t, p, af, none⟩ :: rest) := by
  subst ha
  refine WL.runS (S' := Sat w0 M I ws (row T size (Option.some ⟨b, 0, none⟩) m cap (xs.take o ++ vs ++ xs.drop (o + vs.length)) :: ow)) (fun ac w ha hw => ?_) h
  have hown : w.ownsRow 0 T size (.slice (Option.some ⟨b, 0, none⟩) m cap) m xs := hw.it _ (.head _)
  rcases hown.2 with ⟨hv, _⟩ | ⟨g, c, cur, hv, hg0, hg, hmc, hcm, hcs, htake⟩
  · cases hv
  · simp only [Value.slice.injEq, Option.some.injEq, Addr.mk.injEq, and_true] at hv
    obtain ⟨rfl, _, rfl⟩ := hv
    have hlen := hown.1
    have hle : m * size ≤ cur.size := by rw [hcs]; exact Nat.mul_le_mul_right _ hmc
    have hcl : cur.toList.length = cur.size := Array.length_toList
    have ho' : o + vs.length ≤ cur.toList.length := by omega
    have hs := run_storeCells_at P b o T vs 0 cur w hg (by simpa using (show o + vs.length ≤ cur.size by omega)) (by simpa using h1)
    simp only [Nat.zero_add, Nat.add_zero] at hs
    refine ⟨w.setRow b (cur.toList.take o ++ vs ++ cur.toList.drop (o + vs.length)).toArray, ?_, ?_⟩
    · simp only [execOp, Instr.storeAt, Instr.sureAddr, storeVar, ha.eval hx, ha.eval hy, Value.cells]
      simp [run_sizeOf hz, hs]
    · refine hw.turn ((Fr.setRow _ _ _).mono (fun i hi => ⟨_, rfl, by subst hi; rfl⟩)) ⟨by simp only [List.length_append, List.length_take, List.length_drop]; omega, .inr ⟨b, cap, _, rfl, hg0, setRow_heap w b cur _ T (0, 0) hg, hmc, hcm, ?_, ?_⟩⟩ (fun q hq => .inl hq)
      · simp only [List.size_toArray, List.length_append, List.length_take, List.length_drop]
        rw [← hcs]; omega
      · exact take_set_mid htake ho (by omega)
end
/-- The literal of several structs. -/
theorem WL.buildSliceB {P : Program} {w0 ws : World} {M I : Nat → Prop} {ow : List Item} {ops : Array Oper} {Q : Post} {n : Nat} {ds : DS} {e : Env} {rest : List Oper} {t lt T : TypeId} {p : String} {af : Array Edge} {k s m : Nat} {xs : List Operand} {css : List (List Value)} {parts : Array (Nat × Operand)} {zc : List Value}
    (hp : parts = (xs.zipIdx.map fun (x, i) => (i, x)).toArray) (hu : P.underlying lt = Option.some (.slice T)) (hz : P.sz T = Option.some s) (hzr : P.zr T = Option.some zc.toArray) (hv : evs e xs = Option.some (css.map fun c => .agg c.toArray)) (hl : css.length = m) (hs : ∀ c ∈ css, c.length = s) (h0 : 0 < m * s) (hm : m * s ≤ 16777216) (hk : Nat.blt k n = true)
    (h : ∀ b, WL P ops Q n ds ((k, .slice (Option.some ⟨b, 0, Option.none⟩) m m) :: e) (Sat w0 M I ws (own b (.cells css.flatten.toArray T (0, 0)) :: ow)) rest) :
    WL P ops Q n ds e (Sat w0 M I ws ow) (⟨Option.some k, .buildSlice lt m parts, t, p, af, Option.none⟩ :: rest) := by
  refine WL.runX (ι := Nat) (vv := fun b => .slice (Option.some ⟨b, 0, Option.none⟩) m m) (SS := fun b => Sat w0 M I ws (own b (.cells css.flatten.toArray T (0, 0)) :: ow)) ?_ hk h
  intro a w ha hw
  obtain ⟨zv, hzv, hc⟩ := run_zero hzr w
  have key : ∀ (us : List (List Value)) (i : Nat) (done cur : List Value), (∀ c ∈ us, c.length = s) → done.length = i * s → cur.length = us.length * s →
      Instr.fill (fun i => Option.some (i * s, s)) (done ++ cur).toArray (((us.map fun c => Value.agg c.toArray).zipIdx i).map fun (v, i) => (i, v)) = Option.some (done ++ us.flatten).toArray := by
    intro us
    induction us with
    | nil => intro i done cur _ _ hcu; have : cur = [] := List.eq_nil_of_length_eq_zero (by simpa using hcu); subst this; simp [Instr.fill]
    | cons u us ih =>
      intro i done cur h1 hd hcu
      have hu1 : u.length = s := h1 u (.head _)
      have hcl : cur.length = us.length * s + s := by rw [hcu, List.length_cons, Nat.add_mul, Nat.one_mul]
      have ih' := ih (i + 1) (done ++ u) (cur.drop s) (fun c hc => h1 c (.tail _ hc)) (by rw [List.length_append, hd, hu1, Nat.add_mul, Nat.one_mul]) (by rw [List.length_drop]; omega)
      simp only [List.map_cons, List.zipIdx_cons]
      refine fill_cons (us := u) rfl (by rw [hu1]) (by rw [List.length_append, hd, hu1]; omega) ?_
      have e1 : (done ++ cur).take (i * s) = done := by rw [← hd, List.take_left']; rfl
      have e2 : (done ++ cur).drop (i * s + u.length) = cur.drop s := by rw [← hd, hu1, List.drop_append, Nat.add_sub_cancel_left, List.drop_eq_nil_of_le (by omega), List.nil_append]
      rw [e1, e2, ih']
      simp
  have hxs := evs_eval ha hv
  have hmap : List.map ((fun x : Nat × Operand => (x.fst, a.eval x.snd)) ∘ fun x : Operand × Nat => (x.snd, x.fst)) xs.zipIdx = (css.map fun c => Value.agg c.toArray).zipIdx.map fun (v, i) => (i, v) := by
    rw [← hxs, List.zipIdx_map, List.map_map]
    rfl
  subst hp
  refine ⟨w.heap.size, w.alloc (.cells css.flatten.toArray T), ?_, hw.fresh (Fr.alloc _ _) (own_alloc _ _) (fun b hb => by simp only [own] at hb; subst hb; simp)⟩
  have hz2 : ∀ (f : Nat → Value), Instr.fill (fun i => Option.some (i * s, s)) ((Array.range (m * s)).map f) ((css.map fun c => Value.agg c.toArray).zipIdx.map fun (v, i) => (i, v)) = Option.some css.flatten.toArray := by
    intro f
    have h2 := key css 0 [] ((Array.range (m * s)).map f).toList hs (by simp) (by simp [hl])
    rw [List.nil_append, List.nil_append, Array.toArray_toList] at h2
    exact h2
  have hs0 : ¬ (m * s = 0) := by omega
  have hs3 : ¬ (m * s > 2 ^ 24) := by omega
  simp only [execOp, Instr.buildSlice, Sem.run_bind, run_underlying hu, Result.andThen_ok, run_sizeOf hz, if_neg hs3, if_neg hs0, hzv, Sem.run_pure]
  simp only [List.map_toArray, List.map_map, hmap, hz2]
  simp [newRow, newObj, Sem.run]
end Go.Hw

set_option maxRecDepth 10000
namespace Go.Proofs.YtgiiifadbnpfkaaGreatDoor
open Go Go.Hw
set_option linter.unusedSimpArgs false
set_option linter.unusedVariables false
/-! ### Answers that were kept, and written full -/
abbrev MINE : ByteArray := ⟨#[109, 105, 110, 101]⟩
abbrev LATE : ByteArray := ⟨#[108, 97, 116, 101]⟩
def mkT (m i : Nat) : Tm := ⟨-(m : Int), i, E0⟩
def mineY (m i : Nat) : AG := ⟨⟨mkT m i, MINE, []⟩, none, 0⟩
def lateY (m n : Nat) : AG := ⟨⟨mkT m n, LATE, []⟩, none, 0⟩
def mineL (m n : Nat) : List AG := (List.range n).map (mineY m)
structure KQ where
  a : Option Addr
  c : Nat
  l : Nat
  a2 : Option Addr
  c2 : Nat
  sh : Bool
  t : Tm
abbrev rowR (a : Option Addr) (c n : Nat) (t : Tm) : Hw.Item := row 31 3 a n c ((List.replicate n t).flatMap tmC)
def kqA (q : KQ) : List Hw.Item := rowR q.a2 q.c2 (q.l + 1) q.t :: (if q.sh then [] else [rowR q.a q.c q.l q.t])
structure KG where
  m : Nat
  n : Nat
  la : Option Addr
  lc : Nat
  xa : Option Addr
  xc : Nat
  xsh : Bool
  ga : Option Addr
  gc : Nat
  ta : Option Addr
  tc : Nat
  qs : List KQ
def hdY (ys : List AG) : List Value := ys.map fun y => .slice y.a y.x.args.length y.c
def hdQ (qs : List KQ) : List Value := qs.map fun q => .slice q.a q.l q.c
def hdQ2 (qs : List KQ) : List Value := qs.map fun q => .slice q.a2 (q.l + 1) q.c2
def kpC (z : KG) : List Value := [.slice z.la z.n z.lc, .slice z.xa (z.n + 1) z.xc, .slice z.ga z.n z.gc, .slice z.ta z.n z.tc, .int .i64 (z.m : Int)]
def keptA (z : KG) : List Hw.Item := rowAt z.xa z.xc (mineL z.m z.n ++ [lateY z.m z.n]) :: row 32 1 z.ga z.n z.gc (hdQ z.qs) :: row 32 1 z.ta z.n z.tc (hdQ2 z.qs) :: ((if z.xsh then [] else [rowAt z.la z.lc (mineL z.m z.n)]) ++ z.qs.flatMap kqA)
structure KOK (z : KG) : Prop where
  n : z.qs.length = z.n
  x : z.xsh = true → z.xa = z.la
  sh : ∀ q ∈ z.qs, q.sh = true → q.a2 = q.a
  t : ∀ (i : Nat) (q : KQ), z.qs[i]? = some q → q.t = mkT z.m i
  l : ∀ q ∈ z.qs, q.l ≤ 8
/-- The arguments of the first atoms, written full. -/
def fullA (m : Nat) (ys : List AG) : List Hw.Item := ys.mapIdx fun j y => rowR y.a y.c y.x.args.length (mkT m j)
theorem fullA_snoc (m : Nat) (ys : List AG) (y : AG) : fullA m (ys ++ [y]) = fullA m ys ++ [rowR y.a y.c y.x.args.length (mkT m ys.length)] := by
  unfold fullA; rw [List.mapIdx_append]; simp
theorem flat_setN {α : Type} {en : α → List Value} {k : Nat} (hk : ∀ x, (en x).length = k) {xs : List α} {j : Nat} {y : α} (hj : j < xs.length) : (xs.flatMap en).take (j * k) ++ en y ++ (xs.flatMap en).drop (j * k + (en y).length) = (xs.set j y).flatMap en := by
  have e : xs = xs.take j ++ xs[j] :: xs.drop (j + 1) := by rw [List.getElem_cons_drop, List.take_append_drop]
  have e2 : xs.set j y = xs.take j ++ y :: xs.drop (j + 1) := List.set_eq_take_append_cons_drop.trans (if_pos hj)
  have hl : ((xs.take j).flatMap en).length = j * k := by rw [flat_len hk, List.length_take, Nat.min_eq_left (by omega)]
  have e3 : xs.flatMap en = (xs.take j).flatMap en ++ (en xs[j] ++ (xs.drop (j + 1)).flatMap en) := by
    have h := congrArg (fun l => l.flatMap en) e
    simpa only [List.flatMap_append, List.flatMap_cons] using h
  rw [e2, e3, List.take_append, hl, Nat.sub_self, List.take_zero, List.append_nil, List.take_of_length_le (by omega), hk, List.drop_append, hl, List.drop_of_length_le (by omega), List.nil_append, Nat.add_sub_cancel_left, List.drop_append, hk, Nat.sub_self, List.drop_zero, List.drop_of_length_le (by rw [hk]; omega)]
  simp
theorem fill_set {ts : List Tm} {t : Tm} {j : Nat} (hj : j < ts.length) : (List.replicate j t ++ ts.drop j).set j t = List.replicate (j + 1) t ++ ts.drop (j + 1) := by
  rw [List.set_append_right _ _ (by simp), List.length_replicate, Nat.sub_self, List.drop_eq_getElem_cons hj, List.set_cons_zero, List.replicate_succ', List.append_assoc]
  rfl
theorem fullA_drop {m : Nat} {ys : List AG} {i : Nat} {y : AG} (h : ys[i]? = some y) : (fullA m ys).drop i = rowR y.a y.c y.x.args.length (mkT m i) :: (fullA m ys).drop (i + 1) :=
  drop_cons (by unfold fullA; rw [List.getElem?_mapIdx, h]; rfl)
theorem argsA_drop {ys : List AG} {i : Nat} {y : AG} (h : ys[i]? = some y) : argsA (ys.drop i) = rowT y.a y.c y.x.args :: argsA (ys.drop (i + 1)) := by
  rw [drop_cons h]; rfl
theorem mineL_len (m n : Nat) : (mineL m n).length = n := by simp [mineL]
theorem mineL_at {m n i : Nat} (h : i < n) : (mineL m n)[i]? = some (mineY m i) := by simp [mineL, h]
theorem mine_at {m i : Nat} {ys : List AG} {y : AG} (h : ys[i]? = some y) : (mineL m i ++ ys.drop i)[i]? = some y := by
  rw [List.getElem?_append_right (by rw [mineL_len]; omega), mineL_len, Nat.sub_self, List.getElem?_drop]; exact h
theorem mine_set {m i : Nat} {ys : List AG} (h : i < ys.length) : (mineL m i ++ ys.drop i).set i (mineY m i) = mineL m (i + 1) ++ ys.drop (i + 1) := by
  rw [List.set_append_right _ _ (by rw [mineL_len]; omega), mineL_len, Nat.sub_self, List.drop_eq_getElem_cons h, List.set_cons_zero]
  simp [mineL, List.range_succ]
theorem mine_len {m i : Nat} {ys : List AG} (h : i ≤ ys.length) : (mineL m i ++ ys.drop i).length = ys.length := by rw [List.length_append, mineL_len, List.length_drop]; omega
theorem rep_snoc (n : Nat) (t : Tm) : (List.replicate n t).flatMap tmC ++ tmC t = (List.replicate (n + 1) t).flatMap tmC := by rw [List.replicate_succ', List.flatMap_append]; simp
theorem T.apTs : appB Tryz.prog 69 32 1 24 = true := by kernel_rfl

end Go.Proofs.YtgiiifadbnpfkaaGreatDoor

set_option maxRecDepth 10000
namespace Go.Proofs.YtgiiifadbnpfkaaGreatDoor
open Go Go.Hw
set_option linter.unusedSimpArgs false
set_option linter.unusedVariables false
set_option maxHeartbeats 2000000 in
theorem keep_calls (la : Option Addr) (lc : Nat) (ys : List AG) (m : Nat) (hn : ys.length ≤ 100000000000) (h8 : ∀ y ∈ ys, y.x.args.length ≤ 8) (hm : m ≤ 1000) (w : World) (hA : Holds (atsA la lc ys) w) :
  Calls Tryz.prog 31 #[.slice la ys.length lc, .int .i64 (m : Int)] w fun e w' => ∃ z : KG, e = .returned (.agg (kpC z).toArray) ∧ (KOK z ∧ z.m = m ∧ z.n = ys.length) ∧ Turns (atsA la lc ys) (keptA z) w w' := by
  refine enterA hA (args := [.slice la ys.length lc, .int .i64 (m : Int)]) Tryz.func31 rfl Tryz.ntmps31 rfl rfl ?_
  refine Csr (WL.alloc T.zr71 rfl ?_)
  intro b4
  refine Nn (Csr (Zm rfl (Zm rfl (Zv (OV.buildStruct (xs := [(0, .tmp 10), (4, .tmp 11)]) (pl := [(0, 1), (1, 1), (2, 1), (3, 1), (4, 1)]) (cs := [Value.slice la ys.length lc, Value.slice none 0 0, Value.slice none 0 0, Value.slice none 0 0, .int .i64 (m : Int)]) T.u71 T.zr71 (by kernel_rfl) rfl (fill_cons (us := [_]) rfl rfl (Nat.le_of_ble_eq_true rfl) (fill_cons (us := [_]) rfl rfl (Nat.le_of_ble_eq_true rfl) rfl))) (WL.alloc T.zr71 rfl ?_)))))
  intro b5
  refine WL.storeAll (vs := [Value.slice la ys.length lc, Value.slice none 0 0, Value.slice none 0 0, Value.slice none 0 0, .int .i64 (m : Int)]) rfl rfl rfl T.z71 rfl ?_
  refine Nn (Cs (Csr (Za rfl (Nn (Cb (WC.weak (S' := SatA w (atsA la lc ys) (own b5 (.cells ([Value.slice la ys.length lc, Value.slice none 0 0, Value.slice none 0 0, Value.slice none 0 0, .int .i64 (m : Int)] : List Value).toArray 71 (0, 0)) :: row 32 1 none 0 0 (hdY (ys.take 0)) :: own b4 (.cells ([Value.slice none 0 0, Value.slice none 0 0, Value.slice none 0 0, Value.slice none 0 0, .int .i64 0] : List Value).toArray 71 (0, 0)) :: rowAt la lc ys :: (fullA m (ys.take 0) ++ argsA (ys.drop 0)))) (fun w' hw => (hw.rowNil 32 1).perm (perm_pick [_, _, _] [1, 0, 2] (by decide) rfl)) ?_))))))
  refine WC.know (fun w' hw => (fun hp => row_addrK (hw.it (rowAt la lc ys) (.tail _ (.tail _ (.tail _ (.head _))))) hp : 0 < ys.length → ∃ q, la = some ⟨q, 0, none⟩)) (fun hla => ?_)
  refine WC.loop3 (fun (i : Nat) (ga : Option Addr) (gc : Nat) => [(0, .slice la ys.length lc), (1, .int .i64 (m : Int)), (4, ptr b4), (5, ptr b5), (6, .int .i64 (i : Int))])
      (fun i ga gc w' => i ≤ ys.length ∧ SatA w (atsA la lc ys) (own b5 (.cells ([Value.slice la ys.length lc, Value.slice none 0 0, Value.slice ga i gc, Value.slice none 0 0, .int .i64 (m : Int)] : List Value).toArray 71 (0, 0)) :: row 32 1 ga i gc (hdY (ys.take i)) :: own b4 (.cells ([Value.slice none 0 0, Value.slice none 0 0, Value.slice none 0 0, Value.slice none 0 0, .int .i64 0] : List Value).toArray 71 (0, 0)) :: rowAt la lc ys :: (fullA m (ys.take i) ++ argsA (ys.drop i))) w')
      (fun i _ _ => ys.length - i) 0 none 0 ⟨rfl, rfl, rfl, rfl, rfl, trivial⟩ (fun w' hw => ⟨by omega, hw⟩) ?_
  intro i ga gc
  refine WC.pure (fun hi => ?_)
  refine Cs (Csr (Zm rfl (Zm rfl (Zv (OV.lenSlice rfl T.u27) (Zv (OV.lss rfl rfl) (Nn ?_))))))
  refine Cc rfl (fun c16 => ?_) (fun c16 => ?_)
  · refine Ck (Xn (Cs (Cb (Cs (Csr (Za rfl (Nn (Cb ?_))))))))
    obtain ⟨y, hy⟩ : ∃ y, ys[i]? = some y := ⟨_, List.getElem?_eq_getElem (by omega)⟩
    have hy8 := h8 y (List.mem_of_getElem? hy)
    obtain ⟨qb, hqb⟩ := hla (by omega)
    refine WC.focus (ow' := row 31 3 y.a y.x.args.length y.c ((List.replicate 0 (mkT m i) ++ y.x.args.drop 0).flatMap tmC) :: own b5 (.cells ([Value.slice la ys.length lc, Value.slice none 0 0, Value.slice ga i gc, Value.slice none 0 0, .int .i64 (m : Int)] : List Value).toArray 71 (0, 0)) :: row 32 1 ga i gc (hdY (ys.take i)) :: own b4 (.cells ([Value.slice none 0 0, Value.slice none 0 0, Value.slice none 0 0, Value.slice none 0 0, .int .i64 0] : List Value).toArray 71 (0, 0)) :: rowAt la lc ys :: (fullA m (ys.take i) ++ argsA (ys.drop (i + 1)))) ?_ ?_
    · rw [argsA_drop hy]
      exact perm_cat [[own b5 (.cells ([Value.slice la ys.length lc, Value.slice none 0 0, Value.slice ga i gc, Value.slice none 0 0, .int .i64 (m : Int)] : List Value).toArray 71 (0, 0)), row 32 1 ga i gc (hdY (ys.take i)), own b4 (.cells ([Value.slice none 0 0, Value.slice none 0 0, Value.slice none 0 0, Value.slice none 0 0, .int .i64 0] : List Value).toArray 71 (0, 0)), rowAt la lc ys], fullA m (ys.take i), [rowT y.a y.c y.x.args], argsA (ys.drop (i + 1))] [2, 0, 1, 3] (by decide) rfl
    refine WC.know (fun w' hw => (fun hp => row_addrK (hw.it (row 31 3 y.a y.x.args.length y.c ((List.replicate 0 (mkT m i) ++ y.x.args.drop 0).flatMap tmC)) (.head _)) hp : 0 < y.x.args.length → ∃ q, y.a = some ⟨q, 0, none⟩)) (fun hya => ?_)
    refine WC.loop1 (fun (j : Nat) => [(0, .slice la ys.length lc), (1, .int .i64 (m : Int)), (4, ptr b4), (5, ptr b5), (6, .int .i64 (i : Int)), (7, .int .i64 (j : Int))])
        (fun j w' => j ≤ y.x.args.length ∧ SatA w (atsA la lc ys) (row 31 3 y.a y.x.args.length y.c ((List.replicate j (mkT m i) ++ y.x.args.drop j).flatMap tmC) :: own b5 (.cells ([Value.slice la ys.length lc, Value.slice none 0 0, Value.slice ga i gc, Value.slice none 0 0, .int .i64 (m : Int)] : List Value).toArray 71 (0, 0)) :: row 32 1 ga i gc (hdY (ys.take i)) :: own b4 (.cells ([Value.slice none 0 0, Value.slice none 0 0, Value.slice none 0 0, Value.slice none 0 0, .int .i64 0] : List Value).toArray 71 (0, 0)) :: rowAt la lc ys :: (fullA m (ys.take i) ++ argsA (ys.drop (i + 1)))) w')
        (fun j => y.x.args.length - j) 0 ⟨rfl, rfl, rfl, rfl, rfl, rfl, trivial⟩ (fun w' hw => ⟨by omega, hw⟩) ?_
    intro j
    refine WC.pure (fun hj => ?_)
    refine Cs (Csr (Zm rfl (Zm rfl (Zm rfl (Zv ((OV.indexSlice (show _ = some (Value.slice (some ⟨qb, 0, none⟩) ys.length lc) by rw [← hqb]; rfl) rfl T.u27 T.z34 (by omega)).cast (u := .pointer (some ⟨qb, i * 5, none⟩)) (by rw [Int.toNat_natCast, add_off, Nat.zero_add])) (Zv (OV.fieldAddr (off := 4) rfl T.u34 rfl) (Zv (OV.load1 (v := .slice y.a y.x.args.length y.c) rfl T.u32 rfl (fun _ hw => by have h := row_cellsE hw hqb (.tail _ (.tail _ (.tail _ (.tail _ (.head _))))) (i * 5 + 4) (.slice y.a y.x.args.length y.c) (by rw [flat_get agC_len ys i 4 y hy (by omega)]; rfl); rw [add_off, Nat.zero_add] at h; exact h)) (Zv (OV.lenSlice rfl T.u32) (Zv (OV.lss rfl rfl) (Nn ?_))))))))))
    refine Cc rfl (fun c26 => ?_) (fun c26 => ?_)
    · refine Ck (Xn (Cs (Cb (Cr (Zm rfl (Zm rfl (Zv ((OV.indexSlice (show _ = some (Value.slice (some ⟨qb, 0, none⟩) ys.length lc) by rw [← hqb]; rfl) rfl T.u27 T.z34 (by omega)).cast (u := .pointer (some ⟨qb, i * 5, none⟩)) (by rw [Int.toNat_natCast, add_off, Nat.zero_add])) (Zv (OV.fieldAddr (off := 4) rfl T.u34 rfl) (Zv (OV.load1 (v := .slice y.a y.x.args.length y.c) rfl T.u32 rfl (fun _ hw => by have h := row_cellsE hw hqb (.tail _ (.tail _ (.tail _ (.tail _ (.head _))))) (i * 5 + 4) (.slice y.a y.x.args.length y.c) (by rw [flat_get agC_len ys i 4 y hy (by omega)]; rfl); rw [add_off, Nat.zero_add] at h; exact h)) (Zm rfl (Zm rfl (Zv ((OV.neg rfl).cast (u := .int .i64 (-(m : Int))) (by rw [wrap_i64 (by omega)])) (Zm rfl (Zv (OV.buildStruct (xs := [(0, .tmp 36), (1, .tmp 37)]) (pl := [(0, 1), (1, 1), (2, 1)]) (cs := tmC (mkT m i)) T.u31 T.zr31 (by kernel_rfl) rfl (fill_cons (us := [_]) rfl rfl (Nat.le_of_ble_eq_true rfl) (fill_cons (us := [_]) rfl rfl (Nat.le_of_ble_eq_true rfl) rfl))) ?_))))))))))))))
      obtain ⟨yb, hyb⟩ := hya (by omega)
      refine Zv ((OV.indexSlice (show _ = some (Value.slice (some ⟨yb, 0, none⟩) y.x.args.length y.c) by rw [← hyb]; rfl) rfl T.u32 T.z31 (by omega)).cast (u := .pointer (some ⟨yb, j * 3, none⟩)) (by rw [Int.toNat_natCast, add_off, Nat.zero_add])) (WL.storeRowN (vs := tmC (mkT m i)) (o := j * 3) rfl hyb rfl rfl T.z31 (by rw [flat_len tmC_len]; simp [tmC_len]; omega) ?_)
      refine Nl (Xb (Xn (Cr (Zm rfl (Zv (OV.addN (j := 1) rfl rfl (by omega)) (Za rfl (Nl ?_)))))))
      exact WX.round1 (j + 1) ⟨rfl, rfl, rfl, rfl, rfl, rfl, trivial⟩ (fun w' hw => ⟨by omega, by
        rw [flat_setN tmC_len (y := (mkT m i)) (by simp; omega), fill_set (by omega)] at hw
        exact hw⟩) (by show y.x.args.length - (j + 1) < y.x.args.length - j; omega)
    refine Ce (Xe (Xe (Xh (Xn ?_))))
    have hjl : j = y.x.args.length := by omega
    rw [hjl, List.drop_length, List.append_nil]
    refine Hd (fun w' => w'.heap[b5]? = some (.cells ([Value.slice la ys.length lc, Value.slice none 0 0, Value.slice ga i gc, Value.slice none 0 0, .int .i64 (m : Int)] : List Value).toArray 71 (0, 0)) ∧ (rowAt la lc ys).φ w') [10] (fun _ hw => ⟨hw.it (own b5 (.cells ([Value.slice la ys.length lc, Value.slice none 0 0, Value.slice ga i gc, Value.slice none 0 0, .int .i64 (m : Int)] : List Value).toArray 71 (0, 0))) (by simp), hw.it (rowAt la lc ys) (by simp)⟩) (m := 11) rfl ?_
    refine Hf 0 rfl (OV.fieldAddr0 (off := 2) rfl T.u71 rfl) (Ht 1 rfl (OV.load1 (v := .slice ga i gc) rfl T.u69 rfl (fun _ hw => (cell_at hw.1 (o := 2) rfl).1)) (Hf 2 rfl (OV.move rfl) (Hf 3 rfl (OV.move rfl) (Hf 4 rfl ((OV.indexSlice (show _ = some (Value.slice (some ⟨qb, 0, none⟩) ys.length lc) by rw [← hqb]; rfl) rfl T.u27 T.z34 (by omega)).cast (u := .pointer (some ⟨qb, i * 5, none⟩)) (by rw [Int.toNat_natCast, add_off, Nat.zero_add])) (Hf 5 rfl (OV.fieldAddr (off := 4) rfl T.u34 rfl) (Ht 6 rfl (OV.load1 (v := .slice y.a y.x.args.length y.c) rfl T.u32 rfl (fun _ hw => by have h := row_cellsφE hqb hw.2 (i * 5 + 4) (.slice y.a y.x.args.length y.c) (by rw [flat_get agC_len ys i 4 y hy (by omega)]; rfl); rw [add_off, Nat.zero_add] at h; exact h)) (Ho 7 rfl (fl' := false) rfl ?_)))))))
    refine WL.buildSlice1 T.u69 T.z32 T.zr32 rfl rfl rfl ?_
    intro b47
    refine Hc (fun _ => (fun _ hw => ⟨hw.it (own b5 (.cells ([Value.slice la ys.length lc, Value.slice none 0 0, Value.slice ga i gc, Value.slice none 0 0, .int .i64 (m : Int)] : List Value).toArray 71 (0, 0))) (by simp), hw.it (rowAt la lc ys) (by simp)⟩)) ?_
    refine Ho 8 rfl (fl' := false) rfl ?_
    refine WL.focus (ow' := row 32 1 ga i gc (hdY (ys.take i)) :: own b47 (.cells [Value.slice y.a y.x.args.length y.c].toArray 32 (0, 0)) :: rowR y.a y.c y.x.args.length (mkT m i) :: own b5 (.cells ([Value.slice la ys.length lc, Value.slice none 0 0, Value.slice ga i gc, Value.slice none 0 0, .int .i64 (m : Int)] : List Value).toArray 71 (0, 0)) :: own b4 (.cells ([Value.slice none 0 0, Value.slice none 0 0, Value.slice none 0 0, Value.slice none 0 0, .int .i64 0] : List Value).toArray 71 (0, 0)) :: rowAt la lc ys :: (fullA m (ys.take i) ++ argsA (ys.drop (i + 1)))) (perm_pick [_, _, _, _] [3, 0, 1, 2] (by decide) rfl) ?_
    refine WL.append (news := [Value.slice y.a y.x.args.length y.c]) rfl rfl T.apTs (fun _ _ => own_srcN (.tail _ (.head _)) rfl) (by simp [Value.oneCell']) ⟨by omega, by unfold maxLen; omega⟩ rfl ?_
    intro a48 c48
    refine Hc (fun _ => (fun _ hw => ⟨hw.it (own b5 (.cells ([Value.slice la ys.length lc, Value.slice none 0 0, Value.slice ga i gc, Value.slice none 0 0, .int .i64 (m : Int)] : List Value).toArray 71 (0, 0))) (by simp), hw.it (rowAt la lc ys) (by simp)⟩)) ?_
    refine Hf 9 rfl (OV.fieldAddr0 (off := 2) rfl T.u71 rfl) (Ho 10 rfl (fl' := true) rfl ?_)
    refine WL.focus (ow' := own b5 (.cells ([Value.slice la ys.length lc, Value.slice none 0 0, Value.slice ga i gc, Value.slice none 0 0, .int .i64 (m : Int)] : List Value).toArray 71 (0, 0)) :: row 32 1 a48 (i + 1) c48 (hdY (ys.take i) ++ [Value.slice y.a y.x.args.length y.c]) :: own b47 (.cells [Value.slice y.a y.x.args.length y.c].toArray 32 (0, 0)) :: rowR y.a y.c y.x.args.length (mkT m i) :: own b4 (.cells ([Value.slice none 0 0, Value.slice none 0 0, Value.slice none 0 0, Value.slice none 0 0, .int .i64 0] : List Value).toArray 71 (0, 0)) :: rowAt la lc ys :: (fullA m (ys.take i) ++ argsA (ys.drop (i + 1)))) (perm_pick [_, _, _, _] [3, 0, 1, 2] (by decide) rfl) (WL.store1 (o := 2) rfl rfl rfl T.z69 (by show 2 < 5; omega) ?_)
    refine Hc (fun h => by cases h) ?_
    refine He (Xb (Xn (Cr (Zm rfl (Zv (OV.addN (j := 1) rfl rfl (by omega)) (Za rfl (Nl ?_)))))))
    have e1 : hdY (ys.take i) ++ [Value.slice y.a y.x.args.length y.c] = hdY (ys.take (i + 1)) := by rw [List.take_add_one, hy]; simp [hdY]
    have e2 : fullA m (ys.take (i + 1)) = fullA m (ys.take i) ++ [rowR y.a y.c y.x.args.length (mkT m i)] := by
      rw [List.take_add_one, hy]
      exact (fullA_snoc m (ys.take i) y).trans (by rw [List.length_take, Nat.min_eq_left (by omega)])
    exact WX.round3 (i + 1) a48 c48 ⟨rfl, rfl, rfl, rfl, rfl, trivial⟩ (fun w' hw => ⟨by omega, by
      rw [e1] at hw
      rw [e2]
      exact (hw.pick [[own b5 (.cells ([Value.slice la ys.length lc, Value.slice none 0 0, Value.slice a48 (i + 1) c48, Value.slice none 0 0, .int .i64 (m : Int)] : List Value).toArray 71 (0, 0))], [row 32 1 a48 (i + 1) c48 (hdY (ys.take (i + 1)))], [own b47 (.cells [Value.slice y.a y.x.args.length y.c].toArray 32 (0, 0))], [rowR y.a y.c y.x.args.length (mkT m i)], [own b4 (.cells ([Value.slice none 0 0, Value.slice none 0 0, Value.slice none 0 0, Value.slice none 0 0, .int .i64 0] : List Value).toArray 71 (0, 0)), rowAt la lc ys], fullA m (ys.take i), argsA (ys.drop (i + 1))] [0, 1, 4, 5, 3, 6] 7 rfl (by decide) (by decide)).perm (List.Perm.of_eq (by simp [cat]))⟩) (by show ys.length - (i + 1) < ys.length - i; omega)
  refine Ce (Xe (Xe (Xh (Xn (Cs (Csr (Za rfl (Nn (Cb ?_)))))))))
  have hin : i = ys.length := by omega
  subst hin
  rw [List.take_length, List.drop_length, show argsA ([] : List AG) = [] from rfl, List.append_nil]
  refine WC.weak (S' := SatA w (atsA la lc ys) (own b5 (.cells ([Value.slice la ys.length lc, Value.slice none 0 0, Value.slice ga ys.length gc, Value.slice none 0 0, .int .i64 (m : Int)] : List Value).toArray 71 (0, 0)) :: row 32 1 none 0 0 (hdQ2 ([] : List KQ)) :: row 34 5 la ys.length lc ((mineL m 0 ++ ys.drop 0).flatMap agC) :: row 32 1 ga ys.length gc (hdY ys) :: own b4 (.cells ([Value.slice none 0 0, Value.slice none 0 0, Value.slice none 0 0, Value.slice none 0 0, .int .i64 0] : List Value).toArray 71 (0, 0)) :: (([] : List KQ).flatMap kqA ++ (fullA m ys).drop 0))) (fun w' hw => (hw.rowNil 32 1).perm (perm_pick [_, _, _, _, _] [1, 0, 4, 2, 3] (by decide) rfl)) ?_
  refine WC.loop4 (fun (i : Nat) (ta : Option Addr) (tc : Nat) (qs : List KQ) => [(0, .slice la ys.length lc), (1, .int .i64 (m : Int)), (4, ptr b4), (5, ptr b5), (8, .int .i64 (i : Int))])
      (fun i ta tc qs w' => (i ≤ ys.length ∧ qs.length = i ∧ hdQ qs = hdY (ys.take i) ∧ (∀ q ∈ qs, q.sh = true → q.a2 = q.a) ∧ (∀ (j : Nat) (q : KQ), qs[j]? = some q → q.t = mkT m j) ∧ (∀ q ∈ qs, q.l ≤ 8)) ∧ SatA w (atsA la lc ys) (own b5 (.cells ([Value.slice la ys.length lc, Value.slice none 0 0, Value.slice ga ys.length gc, Value.slice ta i tc, .int .i64 (m : Int)] : List Value).toArray 71 (0, 0)) :: row 32 1 ta i tc (hdQ2 qs) :: row 34 5 la ys.length lc ((mineL m i ++ ys.drop i).flatMap agC) :: row 32 1 ga ys.length gc (hdY ys) :: own b4 (.cells ([Value.slice none 0 0, Value.slice none 0 0, Value.slice none 0 0, Value.slice none 0 0, .int .i64 0] : List Value).toArray 71 (0, 0)) :: (qs.flatMap kqA ++ (fullA m ys).drop i)) w')
      (fun i _ _ _ => ys.length - i) 0 none 0 [] ⟨rfl, rfl, rfl, rfl, rfl, trivial⟩ (fun w' hw => ⟨⟨by omega, rfl, rfl, (fun q hq => by cases hq), (fun j q hq => by simp at hq), (fun q hq => by cases hq)⟩, hw⟩) ?_
  intro i ta tc qs
  refine WC.pure (fun hi => ?_)
  obtain ⟨hi, hql, hqh, hqs, hqt, hq8⟩ := hi
  refine Cs (Csr (Zm rfl (Zm rfl (Zv (OV.lenSlice rfl T.u27) (Zv (OV.lss rfl rfl) (Nn ?_))))))
  refine Cc rfl (fun c53 => ?_) (fun c53 => ?_)
  · refine Ck (Xn (Cs (Cb (Cs ?_))))
    obtain ⟨y, hy⟩ : ∃ y, ys[i]? = some y := ⟨_, List.getElem?_eq_getElem (by omega)⟩
    have hy8 := h8 y (List.mem_of_getElem? hy)
    obtain ⟨qb, hqb⟩ := hla (by omega)
    refine Cr (Zm rfl (Zm rfl (Zv ((OV.indexSlice (show _ = some (Value.slice (some ⟨qb, 0, none⟩) ys.length lc) by rw [← hqb]; rfl) rfl T.u27 T.z34 (by omega)).cast (u := .pointer (some ⟨qb, i * 5, none⟩)) (by rw [Int.toNat_natCast, add_off, Nat.zero_add])) (Zv (OV.fieldAddr (off := 4) rfl T.u34 rfl) (Zv (OV.load1 (v := .slice y.a y.x.args.length y.c) rfl T.u32 rfl (fun _ hw => by have h := row_cellsE hw hqb (.tail _ (.tail _ (.head _))) (i * 5 + 4) (.slice y.a y.x.args.length y.c) (by rw [flat_get agC_len _ i 4 y (mine_at hy) (by omega)]; rfl); rw [add_off, Nat.zero_add] at h; exact h)) (Zm rfl (Zv ((OV.neg rfl).cast (u := .int .i64 (-(m : Int))) (by rw [wrap_i64 (by omega)])) (Zm rfl (Zv (OV.buildStruct (xs := [(0, .tmp 62), (1, .tmp 63)]) (pl := [(0, 1), (1, 1), (2, 1)]) (cs := tmC (mkT m i)) T.u31 T.zr31 (by kernel_rfl) rfl (fill_cons (us := [_]) rfl rfl (Nat.le_of_ble_eq_true rfl) (fill_cons (us := [_]) rfl rfl (Nat.le_of_ble_eq_true rfl) rfl))) (WL.buildSliceA (cs := tmC (mkT m i)) T.u32 T.z31 T.zr31 rfl rfl (by omega) (by omega) rfl ?_))))))))))
    intro b65
    refine WL.focus (ow' := rowR y.a y.c y.x.args.length (mkT m i) :: own b65 (.cells (tmC (mkT m i)).toArray 31 (0, 0)) :: own b5 (.cells ([Value.slice la ys.length lc, Value.slice none 0 0, Value.slice ga ys.length gc, Value.slice ta i tc, .int .i64 (m : Int)] : List Value).toArray 71 (0, 0)) :: row 32 1 ta i tc (hdQ2 qs) :: row 34 5 la ys.length lc ((mineL m i ++ ys.drop i).flatMap agC) :: row 32 1 ga ys.length gc (hdY ys) :: own b4 (.cells ([Value.slice none 0 0, Value.slice none 0 0, Value.slice none 0 0, Value.slice none 0 0, .int .i64 0] : List Value).toArray 71 (0, 0)) :: (qs.flatMap kqA ++ (fullA m ys).drop (i + 1))) ?_ ?_
    · rw [fullA_drop hy]
      exact perm_cat [[own b65 (.cells (tmC (mkT m i)).toArray 31 (0, 0))], [own b5 (.cells ([Value.slice la ys.length lc, Value.slice none 0 0, Value.slice ga ys.length gc, Value.slice ta i tc, .int .i64 (m : Int)] : List Value).toArray 71 (0, 0)), row 32 1 ta i tc (hdQ2 qs), row 34 5 la ys.length lc ((mineL m i ++ ys.drop i).flatMap agC), row 32 1 ga ys.length gc (hdY ys), own b4 (.cells ([Value.slice none 0 0, Value.slice none 0 0, Value.slice none 0 0, Value.slice none 0 0, .int .i64 0] : List Value).toArray 71 (0, 0))], qs.flatMap kqA, [rowR y.a y.c y.x.args.length (mkT m i)], (fullA m ys).drop (i + 1)] [3, 0, 1, 2, 4] (by decide) rfl
    refine WL.appendK (news := tmC (mkT m i)) rfl rfl T.apT (fun _ _ => own_srcN (.tail _ (.head _)) rfl) (tmC_one _) ⟨by omega, by unfold maxLen; omega⟩ (by omega) rfl ?_
    intro a66 c66 sh66 hsh66
    refine Za rfl (Nn (Csr (Zv (OV.fieldAddr0 (off := 3) rfl T.u71 rfl) (Zv (OV.load1 (v := .slice ta i tc) rfl T.u69 rfl (fun _ hw => cell_own hw (show own b5 (.cells ([Value.slice la ys.length lc, Value.slice none 0 0, Value.slice ga ys.length gc, Value.slice ta i tc, .int .i64 (m : Int)] : List Value).toArray 71 (0, 0)) ∈ _ by simp) (o := 3) rfl)) (Zm rfl (WL.buildSlice1 T.u69 T.z32 T.zr32 rfl rfl rfl ?_))))))
    intro b70
    refine WL.focus (ow' := row 32 1 ta i tc (hdQ2 qs) :: own b70 (.cells [Value.slice a66 (y.x.args.length + 1) c66].toArray 32 (0, 0)) :: row 31 3 a66 (y.x.args.length + 1) c66 ((List.replicate y.x.args.length (mkT m i)).flatMap tmC ++ tmC (mkT m i)) :: ((if sh66 = true then [] else [rowR y.a y.c y.x.args.length (mkT m i)]) ++ (own b65 (.cells (tmC (mkT m i)).toArray 31 (0, 0)) :: own b5 (.cells ([Value.slice la ys.length lc, Value.slice none 0 0, Value.slice ga ys.length gc, Value.slice ta i tc, .int .i64 (m : Int)] : List Value).toArray 71 (0, 0)) :: row 34 5 la ys.length lc ((mineL m i ++ ys.drop i).flatMap agC) :: row 32 1 ga ys.length gc (hdY ys) :: own b4 (.cells ([Value.slice none 0 0, Value.slice none 0 0, Value.slice none 0 0, Value.slice none 0 0, .int .i64 0] : List Value).toArray 71 (0, 0)) :: (qs.flatMap kqA ++ (fullA m ys).drop (i + 1))))) ?_ ?_
    · exact perm_cat [[own b70 (.cells [Value.slice a66 (y.x.args.length + 1) c66].toArray 32 (0, 0))], [row 31 3 a66 (y.x.args.length + 1) c66 ((List.replicate y.x.args.length (mkT m i)).flatMap tmC ++ tmC (mkT m i))], (if sh66 = true then [] else [rowR y.a y.c y.x.args.length (mkT m i)]), [own b65 (.cells (tmC (mkT m i)).toArray 31 (0, 0))], [own b5 (.cells ([Value.slice la ys.length lc, Value.slice none 0 0, Value.slice ga ys.length gc, Value.slice ta i tc, .int .i64 (m : Int)] : List Value).toArray 71 (0, 0))], [row 32 1 ta i tc (hdQ2 qs)], [row 34 5 la ys.length lc ((mineL m i ++ ys.drop i).flatMap agC), row 32 1 ga ys.length gc (hdY ys), own b4 (.cells ([Value.slice none 0 0, Value.slice none 0 0, Value.slice none 0 0, Value.slice none 0 0, .int .i64 0] : List Value).toArray 71 (0, 0))], (qs.flatMap kqA ++ (fullA m ys).drop (i + 1))] [5, 0, 1, 2, 3, 4, 6, 7] (by decide) rfl
    refine WL.append (news := [Value.slice a66 (y.x.args.length + 1) c66]) rfl rfl T.apTs (fun _ _ => own_srcN (.tail _ (.head _)) rfl) (by simp [Value.oneCell']) ⟨by omega, by unfold maxLen; omega⟩ rfl ?_
    intro a71 c71
    refine Zv (OV.fieldAddr0 (off := 3) rfl T.u71 rfl) ?_
    refine WL.focus (ow' := own b5 (.cells ([Value.slice la ys.length lc, Value.slice none 0 0, Value.slice ga ys.length gc, Value.slice ta i tc, .int .i64 (m : Int)] : List Value).toArray 71 (0, 0)) :: row 32 1 a71 (i + 1) c71 (hdQ2 qs ++ [Value.slice a66 (y.x.args.length + 1) c66]) :: own b70 (.cells [Value.slice a66 (y.x.args.length + 1) c66].toArray 32 (0, 0)) :: row 31 3 a66 (y.x.args.length + 1) c66 ((List.replicate y.x.args.length (mkT m i)).flatMap tmC ++ tmC (mkT m i)) :: ((if sh66 = true then [] else [rowR y.a y.c y.x.args.length (mkT m i)]) ++ (own b65 (.cells (tmC (mkT m i)).toArray 31 (0, 0)) :: row 34 5 la ys.length lc ((mineL m i ++ ys.drop i).flatMap agC) :: row 32 1 ga ys.length gc (hdY ys) :: own b4 (.cells ([Value.slice none 0 0, Value.slice none 0 0, Value.slice none 0 0, Value.slice none 0 0, .int .i64 0] : List Value).toArray 71 (0, 0)) :: (qs.flatMap kqA ++ (fullA m ys).drop (i + 1))))) ?_ (WL.store1 (o := 3) rfl rfl rfl T.z69 (by show 3 < 5; omega) ?_)
    · exact perm_cat [[row 32 1 a71 (i + 1) c71 (hdQ2 qs ++ [Value.slice a66 (y.x.args.length + 1) c66])], [own b70 (.cells [Value.slice a66 (y.x.args.length + 1) c66].toArray 32 (0, 0))], [row 31 3 a66 (y.x.args.length + 1) c66 ((List.replicate y.x.args.length (mkT m i)).flatMap tmC ++ tmC (mkT m i))], (if sh66 = true then [] else [rowR y.a y.c y.x.args.length (mkT m i)]), [own b65 (.cells (tmC (mkT m i)).toArray 31 (0, 0))], [own b5 (.cells ([Value.slice la ys.length lc, Value.slice none 0 0, Value.slice ga ys.length gc, Value.slice ta i tc, .int .i64 (m : Int)] : List Value).toArray 71 (0, 0))], [row 34 5 la ys.length lc ((mineL m i ++ ys.drop i).flatMap agC), row 32 1 ga ys.length gc (hdY ys), own b4 (.cells ([Value.slice none 0 0, Value.slice none 0 0, Value.slice none 0 0, Value.slice none 0 0, .int .i64 0] : List Value).toArray 71 (0, 0))], (qs.flatMap kqA ++ (fullA m ys).drop (i + 1))] [5, 0, 1, 2, 3, 4, 6, 7] (by decide) rfl
    refine Nn (Cr (Zm rfl (Zm rfl (Zm rfl (Zv ((OV.neg rfl).cast (u := .int .i64 (-(m : Int))) (by rw [wrap_i64 (by omega)])) (Zm rfl (Zv (OV.buildStruct (xs := [(0, .tmp 76), (1, .tmp 77)]) (pl := [(0, 1), (1, 1), (2, 1)]) (cs := tmC (mkT m i)) T.u31 T.zr31 (by kernel_rfl) rfl (fill_cons (us := [_]) rfl rfl (Nat.le_of_ble_eq_true rfl) (fill_cons (us := [_]) rfl rfl (Nat.le_of_ble_eq_true rfl) rfl))) (Zv (OV.buildStruct (xs := [(1, .const (.string MINE)), (0, .tmp 78)]) (pl := [(0, 3), (3, 1), (4, 1)]) (cs := agC (mineY m i)) T.u34 T.zr34 (by kernel_rfl) rfl (fill_cons (us := [_]) rfl rfl (Nat.le_of_ble_eq_true rfl) (fill_cons (us := tmC (mkT m i)) rfl rfl (Nat.le_of_ble_eq_true rfl) rfl))) (Zv ((OV.indexSlice (show _ = some (Value.slice (some ⟨qb, 0, none⟩) ys.length lc) by rw [← hqb]; rfl) rfl T.u27 T.z34 (by omega)).cast (u := .pointer (some ⟨qb, i * 5, none⟩)) (by rw [Int.toNat_natCast, add_off, Nat.zero_add])) ?_)))))))))
    refine WL.focus (ow' := row 34 5 la ys.length lc ((mineL m i ++ ys.drop i).flatMap agC) :: own b5 (.cells ([Value.slice la ys.length lc, Value.slice none 0 0, Value.slice ga ys.length gc, Value.slice a71 (i + 1) c71, .int .i64 (m : Int)] : List Value).toArray 71 (0, 0)) :: row 32 1 a71 (i + 1) c71 (hdQ2 qs ++ [Value.slice a66 (y.x.args.length + 1) c66]) :: own b70 (.cells [Value.slice a66 (y.x.args.length + 1) c66].toArray 32 (0, 0)) :: row 31 3 a66 (y.x.args.length + 1) c66 ((List.replicate y.x.args.length (mkT m i)).flatMap tmC ++ tmC (mkT m i)) :: ((if sh66 = true then [] else [rowR y.a y.c y.x.args.length (mkT m i)]) ++ (own b65 (.cells (tmC (mkT m i)).toArray 31 (0, 0)) :: row 32 1 ga ys.length gc (hdY ys) :: own b4 (.cells ([Value.slice none 0 0, Value.slice none 0 0, Value.slice none 0 0, Value.slice none 0 0, .int .i64 0] : List Value).toArray 71 (0, 0)) :: (qs.flatMap kqA ++ (fullA m ys).drop (i + 1))))) ?_ ?_
    · exact perm_cat [[own b5 (.cells ([Value.slice la ys.length lc, Value.slice none 0 0, Value.slice ga ys.length gc, Value.slice a71 (i + 1) c71, .int .i64 (m : Int)] : List Value).toArray 71 (0, 0))], [row 32 1 a71 (i + 1) c71 (hdQ2 qs ++ [Value.slice a66 (y.x.args.length + 1) c66])], [own b70 (.cells [Value.slice a66 (y.x.args.length + 1) c66].toArray 32 (0, 0))], [row 31 3 a66 (y.x.args.length + 1) c66 ((List.replicate y.x.args.length (mkT m i)).flatMap tmC ++ tmC (mkT m i))], (if sh66 = true then [] else [rowR y.a y.c y.x.args.length (mkT m i)]), [own b65 (.cells (tmC (mkT m i)).toArray 31 (0, 0))], [row 34 5 la ys.length lc ((mineL m i ++ ys.drop i).flatMap agC)], [row 32 1 ga ys.length gc (hdY ys), own b4 (.cells ([Value.slice none 0 0, Value.slice none 0 0, Value.slice none 0 0, Value.slice none 0 0, .int .i64 0] : List Value).toArray 71 (0, 0))], (qs.flatMap kqA ++ (fullA m ys).drop (i + 1))] [6, 0, 1, 2, 3, 4, 5, 7, 8] (by decide) rfl
    refine WL.storeRowN (vs := agC (mineY m i)) (o := i * 5) rfl hqb rfl rfl T.z34 (by rw [flat_len agC_len, mine_len (by omega)]; show i * 5 + 5 ≤ _; omega) ?_
    refine Nl (Xb (Xn (Cr (Zm rfl (Zv (OV.addN (j := 1) rfl rfl (by omega)) (Za rfl (Nl ?_)))))))
    have e3 : hdQ2 qs ++ [Value.slice a66 (y.x.args.length + 1) c66] = hdQ2 (qs ++ [(⟨y.a, y.c, y.x.args.length, a66, c66, sh66, (mkT m i)⟩ : KQ)]) := by simp [hdQ2]
    have e4 : (qs ++ [(⟨y.a, y.c, y.x.args.length, a66, c66, sh66, (mkT m i)⟩ : KQ)]).flatMap kqA = qs.flatMap kqA ++ (rowR a66 c66 (y.x.args.length + 1) (mkT m i) :: (if sh66 = true then [] else [rowR y.a y.c y.x.args.length (mkT m i)])) := by simp [kqA]
    exact WX.round4 (i + 1) a71 c71 (qs ++ [(⟨y.a, y.c, y.x.args.length, a66, c66, sh66, (mkT m i)⟩ : KQ)]) ⟨rfl, rfl, rfl, rfl, rfl, trivial⟩ (fun w' hw => ⟨⟨by omega, by simp [hql], by
        rw [List.take_add_one, hy]
        simpa [hdQ, hdY] using hqh, (fun q hq => by
        rcases List.mem_append.1 hq with h | h
        · exact hqs q h
        · simp only [List.mem_singleton] at h; subst h; exact hsh66), (fun j q hq => by
        rcases Nat.lt_or_ge j qs.length with h | h
        · exact hqt j q (by rwa [List.getElem?_append_left h] at hq)
        · rw [List.getElem?_append_right h] at hq
          have hj0 : j - qs.length = 0 := by have := (List.getElem?_eq_some_iff.1 hq).1; simpa using this
          rw [hj0] at hq
          simp only [List.getElem?_cons_zero, Option.some.injEq] at hq
          rw [← hq, show j = i by omega]), (fun q hq => by
        rcases List.mem_append.1 hq with h | h
        · exact hq8 q h
        · simp only [List.mem_singleton] at h; subst h; exact hy8)⟩, by
      rw [e3, rep_snoc, flat_setN agC_len (y := mineY m i) (by rw [mine_len (by omega)]; omega), mine_set (by omega)] at hw
      rw [e4]
      exact (hw.pick [[row 34 5 la ys.length lc ((mineL m (i + 1) ++ ys.drop (i + 1)).flatMap agC)], [own b5 (.cells ([Value.slice la ys.length lc, Value.slice none 0 0, Value.slice ga ys.length gc, Value.slice a71 (i + 1) c71, .int .i64 (m : Int)] : List Value).toArray 71 (0, 0))], [row 32 1 a71 (i + 1) c71 (hdQ2 (qs ++ [(⟨y.a, y.c, y.x.args.length, a66, c66, sh66, (mkT m i)⟩ : KQ)]))], [own b70 (.cells [Value.slice a66 (y.x.args.length + 1) c66].toArray 32 (0, 0))], [rowR a66 c66 (y.x.args.length + 1) (mkT m i)], (if sh66 = true then [] else [rowR y.a y.c y.x.args.length (mkT m i)]), [own b65 (.cells (tmC (mkT m i)).toArray 31 (0, 0))], [row 32 1 ga ys.length gc (hdY ys), own b4 (.cells ([Value.slice none 0 0, Value.slice none 0 0, Value.slice none 0 0, Value.slice none 0 0, .int .i64 0] : List Value).toArray 71 (0, 0))], qs.flatMap kqA, (fullA m ys).drop (i + 1)] [1, 2, 0, 7, 8, 4, 5, 9] 10 rfl (by decide) (by decide)).perm (List.Perm.of_eq (by simp [cat]))⟩) (by show ys.length - (i + 1) < ys.length - i; omega)
  refine Ce (Xe (Xe (Xh (Xn (Cs ?_)))))
  have hin : i = ys.length := by omega
  subst hin
  have hfd : (fullA m ys).drop ys.length = [] := List.drop_eq_nil_of_le (by simp [fullA])
  rw [List.drop_length, List.append_nil, hfd, List.append_nil]
  rw [List.take_length] at hqh
  refine Cr (Zm rfl (Zm rfl (Zv ((OV.neg rfl).cast (u := .int .i64 (-(m : Int))) (by rw [wrap_i64 (by omega)])) (Zm rfl (Zv (OV.lenSlice rfl T.u27) (Zv (OV.buildStruct (xs := [(0, .tmp 83), (1, .tmp 85)]) (pl := [(0, 1), (1, 1), (2, 1)]) (cs := tmC (mkT m ys.length)) T.u31 T.zr31 (by kernel_rfl) rfl (fill_cons (us := [_]) rfl rfl (Nat.le_of_ble_eq_true rfl) (fill_cons (us := [_]) rfl rfl (Nat.le_of_ble_eq_true rfl) rfl))) (Zv (OV.buildStruct (xs := [(1, .const (.string LATE)), (0, .tmp 86)]) (pl := [(0, 3), (3, 1), (4, 1)]) (cs := agC (lateY m ys.length)) T.u34 T.zr34 (by kernel_rfl) rfl (fill_cons (us := [_]) rfl rfl (Nat.le_of_ble_eq_true rfl) (fill_cons (us := tmC (mkT m ys.length)) rfl rfl (Nat.le_of_ble_eq_true rfl) rfl))) (WL.buildSliceA (cs := agC (lateY m ys.length)) T.u27 T.z34 T.zr34 rfl rfl (by omega) (by omega) rfl ?_))))))))
  intro b88
  refine WL.focus (ow' := row 34 5 la ys.length lc ((mineL m ys.length).flatMap agC) :: own b88 (.cells (agC (lateY m ys.length)).toArray 34 (0, 0)) :: own b5 (.cells ([Value.slice la ys.length lc, Value.slice none 0 0, Value.slice ga ys.length gc, Value.slice ta ys.length tc, .int .i64 (m : Int)] : List Value).toArray 71 (0, 0)) :: row 32 1 ta ys.length tc (hdQ2 qs) :: row 32 1 ga ys.length gc (hdY ys) :: own b4 (.cells ([Value.slice none 0 0, Value.slice none 0 0, Value.slice none 0 0, Value.slice none 0 0, .int .i64 0] : List Value).toArray 71 (0, 0)) :: qs.flatMap kqA) (perm_pick [_, _, _, _] [3, 0, 1, 2] (by decide) rfl) ?_
  refine WL.appendK (news := agC (lateY m ys.length)) rfl rfl T.apA (fun _ _ => own_srcN (.tail _ (.head _)) rfl) (agC_one _) ⟨by omega, by unfold maxLen; omega⟩ (by omega) rfl ?_
  intro xa xc xsh hxsh
  refine Zv (OV.fieldAddr0 (off := 1) rfl T.u71 rfl) ?_
  refine WL.focus (ow' := own b5 (.cells ([Value.slice la ys.length lc, Value.slice none 0 0, Value.slice ga ys.length gc, Value.slice ta ys.length tc, .int .i64 (m : Int)] : List Value).toArray 71 (0, 0)) :: row 34 5 xa (ys.length + 1) xc ((mineL m ys.length).flatMap agC ++ agC (lateY m ys.length)) :: ((if xsh = true then [] else [row 34 5 la ys.length lc ((mineL m ys.length).flatMap agC)]) ++ (own b88 (.cells (agC (lateY m ys.length)).toArray 34 (0, 0)) :: row 32 1 ta ys.length tc (hdQ2 qs) :: row 32 1 ga ys.length gc (hdY ys) :: own b4 (.cells ([Value.slice none 0 0, Value.slice none 0 0, Value.slice none 0 0, Value.slice none 0 0, .int .i64 0] : List Value).toArray 71 (0, 0)) :: qs.flatMap kqA))) ?_ (WL.store1 (o := 1) rfl rfl rfl T.z27 (by show 1 < 5; omega) ?_)
  · exact perm_cat [[row 34 5 xa (ys.length + 1) xc ((mineL m ys.length).flatMap agC ++ agC (lateY m ys.length))], (if xsh = true then [] else [row 34 5 la ys.length lc ((mineL m ys.length).flatMap agC)]), [own b88 (.cells (agC (lateY m ys.length)).toArray 34 (0, 0))], [own b5 (.cells ([Value.slice la ys.length lc, Value.slice none 0 0, Value.slice ga ys.length gc, Value.slice ta ys.length tc, .int .i64 (m : Int)] : List Value).toArray 71 (0, 0))], [row 32 1 ta ys.length tc (hdQ2 qs), row 32 1 ga ys.length gc (hdY ys), own b4 (.cells ([Value.slice none 0 0, Value.slice none 0 0, Value.slice none 0 0, Value.slice none 0 0, .int .i64 0] : List Value).toArray 71 (0, 0))], qs.flatMap kqA] [3, 0, 1, 2, 4, 5] (by decide) rfl
  refine Nn (Csr (Zv (OV.loadN (cs := kpC (⟨m, ys.length, la, lc, xa, xc, xsh, ga, gc, ta, tc, qs⟩ : KG)) rfl T.u71 rfl T.z71 (fun _ hw j v hj => by rw [add_off, Nat.zero_add]; exact own_cells hw (show own b5 (.cells ([Value.slice la ys.length lc, Value.slice xa (ys.length + 1) xc, Value.slice ga ys.length gc, Value.slice ta ys.length tc, .int .i64 (m : Int)] : List Value).toArray 71 (0, 0)) ∈ _ from .head _) j v hj)) ?_))
  refine WL.focus (ow' := own b4 (.cells ([Value.slice none 0 0, Value.slice none 0 0, Value.slice none 0 0, Value.slice none 0 0, .int .i64 0] : List Value).toArray 71 (0, 0)) :: own b5 (.cells ([Value.slice la ys.length lc, Value.slice xa (ys.length + 1) xc, Value.slice ga ys.length gc, Value.slice ta ys.length tc, .int .i64 (m : Int)] : List Value).toArray 71 (0, 0)) :: row 34 5 xa (ys.length + 1) xc ((mineL m ys.length).flatMap agC ++ agC (lateY m ys.length)) :: ((if xsh = true then [] else [row 34 5 la ys.length lc ((mineL m ys.length).flatMap agC)]) ++ (own b88 (.cells (agC (lateY m ys.length)).toArray 34 (0, 0)) :: row 32 1 ta ys.length tc (hdQ2 qs) :: row 32 1 ga ys.length gc (hdY ys) :: qs.flatMap kqA))) ?_ (WL.storeAll (vs := kpC (⟨m, ys.length, la, lc, xa, xc, xsh, ga, gc, ta, tc, qs⟩ : KG)) rfl rfl rfl T.z71 rfl ?_)
  · exact perm_cat [[own b5 (.cells ([Value.slice la ys.length lc, Value.slice xa (ys.length + 1) xc, Value.slice ga ys.length gc, Value.slice ta ys.length tc, .int .i64 (m : Int)] : List Value).toArray 71 (0, 0))], [row 34 5 xa (ys.length + 1) xc ((mineL m ys.length).flatMap agC ++ agC (lateY m ys.length))], (if xsh = true then [] else [row 34 5 la ys.length lc ((mineL m ys.length).flatMap agC)]), [own b88 (.cells (agC (lateY m ys.length)).toArray 34 (0, 0))], [row 32 1 ta ys.length tc (hdQ2 qs), row 32 1 ga ys.length gc (hdY ys)], [own b4 (.cells ([Value.slice none 0 0, Value.slice none 0 0, Value.slice none 0 0, Value.slice none 0 0, .int .i64 0] : List Value).toArray 71 (0, 0))], qs.flatMap kqA] [5, 0, 1, 2, 3, 4, 6] (by decide) rfl
  refine Nn (WC.ret ?_)
  have hxe : (mineL m ys.length).flatMap agC ++ agC (lateY m ys.length) = (mineL m ys.length ++ [lateY m ys.length]).flatMap agC := by simp
  have hxl : ys.length + 1 = (mineL m ys.length ++ [lateY m ys.length]).length := by simp [mineL_len]
  have hml : (mineL m ys.length).length = ys.length := mineL_len _ _
  refine WX.retC (cs := kpC (⟨m, ys.length, la, lc, xa, xc, xsh, ga, gc, ta, tc, qs⟩ : KG)) rfl rfl rfl T.u71 rfl T.z71 (fun w' hw j v hj => own_cells hw (.head _) j v hj) (fun w' hw => ⟨(⟨m, ys.length, la, lc, xa, xc, xsh, ga, gc, ta, tc, qs⟩ : KG), rfl, ⟨⟨hql, hxsh, hqs, hqt, hq8⟩, rfl, rfl⟩, ?_⟩)
  have ek : keptA (⟨m, ys.length, la, lc, xa, xc, xsh, ga, gc, ta, tc, qs⟩ : KG) = row 34 5 xa (ys.length + 1) xc ((mineL m ys.length).flatMap agC ++ agC (lateY m ys.length)) :: row 32 1 ga ys.length gc (hdY ys) :: row 32 1 ta ys.length tc (hdQ2 qs) :: ((if xsh = true then [] else [row 34 5 la ys.length lc ((mineL m ys.length).flatMap agC)]) ++ qs.flatMap kqA) := by
    unfold keptA rowAt
    rw [← hxl, ← hxe, hml]
    show _ = _ :: _ :: _ :: _
    rw [hqh]
  rw [ek]
  exact Hw.Sat.turned ((hw.pick [[own b4 (.cells (kpC (⟨m, ys.length, la, lc, xa, xc, xsh, ga, gc, ta, tc, qs⟩ : KG)).toArray 71 (0, 0))], [own b5 (.cells ([Value.slice la ys.length lc, Value.slice xa (ys.length + 1) xc, Value.slice ga ys.length gc, Value.slice ta ys.length tc, .int .i64 (m : Int)] : List Value).toArray 71 (0, 0))], [row 34 5 xa (ys.length + 1) xc ((mineL m ys.length).flatMap agC ++ agC (lateY m ys.length))], (if xsh = true then [] else [row 34 5 la ys.length lc ((mineL m ys.length).flatMap agC)]), [own b88 (.cells (agC (lateY m ys.length)).toArray 34 (0, 0))], [row 32 1 ta ys.length tc (hdQ2 qs)], [row 32 1 ga ys.length gc (hdY ys)], qs.flatMap kqA] [2, 6, 5, 3, 7] 8 rfl (by decide) (by decide)).perm (List.Perm.of_eq (by simp [cat])))

end Go.Proofs.YtgiiifadbnpfkaaGreatDoor

set_option maxRecDepth 10000
namespace Go.Proofs.YtgiiifadbnpfkaaGreatDoor
open Go Go.Hw
set_option linter.unusedSimpArgs false
set_option linter.unusedVariables false
/-- A kept list, as it may be read. -/
structure KRd (w : World) (z : KG) : Prop where
  more : RA w z.xa (mineL z.m z.n ++ [lateY z.m z.n])
  l : RA w z.la (mineL z.m z.n)
  ga : ∀ i v, (hdQ z.qs)[i]? = some v → ∃ q, z.ga = some q ∧ w.cell? (q.add i) = some v
  ta : ∀ i v, (hdQ2 z.qs)[i]? = some v → ∃ q, z.ta = some q ∧ w.cell? (q.add i) = some v
  qa : ∀ q ∈ z.qs, RT w q.a (List.replicate q.l q.t)
  qa2 : ∀ q ∈ z.qs, RT w q.a2 (List.replicate (q.l + 1) q.t)
theorem KRd.keeps {w w' : World} {z : KG} (h : KRd w z) (k : Keeps w w') : KRd w' z :=
  ⟨h.more.keeps k, h.l.keeps k, fun i v hv => (h.ga i v hv).imp fun q hq => ⟨hq.1, k _ _ hq.2⟩, fun i v hv => (h.ta i v hv).imp fun q hq => ⟨hq.1, k _ _ hq.2⟩, fun q hq => (h.qa q hq).keeps k, fun q hq => (h.qa2 q hq).keeps k⟩
theorem Src.of_rep {a : Option Addr} {n : Nat} {t : Tm} {S : World → Prop} (h2 : a = none → (List.replicate n t).length = 0) (h : ∀ w, S w → RT w a (List.replicate n t)) : Src S a n 3 ((List.replicate n t).flatMap tmC) := by
  have h3 := Src.of_rt h2 h
  rwa [List.length_replicate] at h3
theorem rep_add (m n : Nat) (t : Tm) : (List.replicate m t).flatMap tmC ++ (List.replicate n t).flatMap tmC = (List.replicate (m + n) t).flatMap tmC := by
  rw [← List.flatMap_append, List.replicate_append_replicate]
theorem more_b {m n i : Nat} {y : AG} (h : (mineL m n ++ [lateY m n])[i]? = some y) : y.x.b = mkT m i := by
  rcases Nat.lt_or_ge i n with h1 | h1
  · rw [List.getElem?_append_left (by rw [mineL_len]; exact h1), mineL_at h1] at h
    rw [← Option.some.inj h]; rfl
  · rw [List.getElem?_append_right (by rw [mineL_len]; exact h1), mineL_len] at h
    have h0 : i - n = 0 := by have := (List.getElem?_eq_some_iff.1 h).1; simpa using this
    rw [h0] at h
    have h2 : lateY m n = y := by simpa using h
    rw [← h2, show i = n by omega]; rfl
theorem agC_b {y : AG} {j : Nat} {v : Value} (hj : (tmC y.x.b)[j]? = some v) : (agC y)[j]? = some v := by
  show (tmC y.x.b ++ [Value.string y.x.name, .slice y.a y.x.args.length y.c])[j]? = some v
  rw [List.getElem?_append_left (List.getElem?_eq_some_iff.1 hj).1]; exact hj
theorem mine_b {m n i : Nat} {y : AG} (h : (mineL m n)[i]? = some y) : y.x.b = mkT m i := by
  have h1 : i < n := by have := (List.getElem?_eq_some_iff.1 h).1; rwa [mineL_len] at this
  rw [mineL_at h1] at h
  rw [← Option.some.inj h]; rfl

set_option maxHeartbeats 1000000 in
theorem whole_calls (z : KG) (hz : KOK z) (hn : z.n ≤ 100000000000) (hm : z.m ≤ 1000) (w : World) (hr : KRd w z) : Calls Tryz.prog 32 #[.agg (kpC z).toArray] w fun e w' => e = .returned (.bool true) ∧ Fr0 w w' := by
  refine enterS (args := [.agg (kpC z).toArray]) (fun _ => False) Tryz.func32 rfl Tryz.ntmps32 rfl rfl ?_
  refine Csr (WL.box rfl rfl rfl ?_)
  intro b1
  refine Za rfl (Nn (Cs (Csr (Za rfl (Nn (Cb ?_))))))
  refine WC.loop1 (fun (i : Nat) => [(1, ptr b1), (3, .int .i64 (i : Int))])
      (fun i w' => i ≤ z.n ∧ Sat0 w (own b1 (.cells (kpC z).toArray 71 (0, 0)) :: []) w')
      (fun i => z.n - i) 0 ⟨rfl, rfl, trivial⟩ (fun w' hw => ⟨by omega, hw⟩) ?_
  intro i
  refine WC.pure (fun hi => ?_)
  refine Cs (Csr (Zm rfl (Zv (OV.fieldAddr0 (off := 2) rfl T.u71 rfl) (Zv (OV.load1 (v := .slice z.ga z.n z.gc) rfl T.u69 rfl (fun _ hw => cell_own hw (.head _) (o := 2) rfl)) (Zv (OV.lenSlice rfl T.u69) (Zv (OV.lss rfl rfl) (Nn ?_)))))))
  refine Cc rfl (fun c11 => ?_) (fun c11 => ?_)
  · refine Ck (Xn (Cs (Cb (Cs (Hd (fun w' => w'.heap[b1]? = some (.cells (kpC z).toArray 71 (0, 0)) ∧ Keeps w w') [] (fun _ hw => ⟨hw.it (own b1 (.cells (kpC z).toArray 71 (0, 0))) (by simp), hw.keeps⟩) (m := 14) rfl ?_)))))
    refine Hf 1 rfl (OV.fieldAddr0 (off := 2) rfl T.u71 rfl) (Ht 2 rfl (OV.load1 (v := .slice z.ga z.n z.gc) rfl T.u69 rfl (fun _ hw => (cell_at hw.1 (o := 2) rfl).1)) (Hf 3 rfl (OV.move rfl) ?_))
    obtain ⟨q, hq⟩ : ∃ q, z.qs[i]? = some q := ⟨_, List.getElem?_eq_getElem (by rw [hz.n]; omega)⟩
    have hqm := List.mem_of_getElem? hq
    have hqt := hz.t i q hq
    have hq8 := hz.l q hqm
    obtain ⟨q1, hq1, hc1⟩ := hr.ga i (.slice q.a q.l q.c) (by simp [hdQ, hq])
    obtain ⟨q2, hq2, hc2⟩ := hr.ta i (.slice q.a2 (q.l + 1) q.c2) (by simp [hdQ2, hq])
    have hra := hr.qa q hqm
    have hra2 := hr.qa2 q hqm
    rw [hqt] at hra hra2
    refine Hf 4 rfl ((OV.indexSlice (show _ = some (Value.slice (some q1) z.n z.gc) by rw [← hq1]; rfl) rfl T.u69 T.z32 (by omega)).cast (u := .pointer (some (q1.add i))) (by rw [Int.toNat_natCast, Nat.mul_one])) (Ht 5 rfl (OV.load1 (v := .slice q.a q.l q.c) rfl T.u32 rfl (fun _ hw => hw.2 _ _ hc1)) (Hf 7 rfl (OV.fieldAddr0 (off := 3) rfl T.u71 rfl) (Ht 8 rfl (OV.load1 (v := .slice z.ta z.n z.tc) rfl T.u69 rfl (fun _ hw => (cell_at hw.1 (o := 3) rfl).1)) (Hf 9 rfl (OV.move rfl) (Hf 10 rfl ((OV.indexSlice (show _ = some (Value.slice (some q2) z.n z.tc) by rw [← hq2]; rfl) rfl T.u69 T.z32 (by omega)).cast (u := .pointer (some (q2.add i))) (by rw [Int.toNat_natCast, Nat.mul_one])) (Ht 11 rfl (OV.load1 (v := .slice q.a2 (q.l + 1) q.c2) rfl T.u32 rfl (fun _ hw => hw.2 _ _ hc2)) (Ho 0 rfl (fl' := false) rfl ?_)))))))
    refine WL.buildSlice0 T.u32 T.z31 rfl ?_
    intro b14
    refine Hc (fun _ => (fun _ hw => ⟨hw.it (own b1 (.cells (kpC z).toArray 71 (0, 0))) (by simp), hw.keeps⟩)) ?_
    refine Ho 6 rfl (fl' := false) rfl ?_
    refine WL.append (news := (List.replicate q.l (mkT z.m i)).flatMap tmC) rfl rfl T.apT (fun _ _ => Src.of_rep hra.nil (fun _ hw => hra.keeps hw.keeps)) (tms_one _) ⟨by omega, by unfold maxLen; omega⟩ rfl ?_
    intro a20 c20
    simp only [Nat.zero_add, List.nil_append]
    refine Hc (fun _ => (fun _ hw => ⟨hw.it (own b1 (.cells (kpC z).toArray 71 (0, 0))) (by simp), hw.keeps⟩)) ?_
    refine Ho 12 rfl (fl' := false) rfl ?_
    refine WL.append (news := (List.replicate (q.l + 1) (mkT z.m i)).flatMap tmC) rfl rfl T.apT (fun _ _ => Src.of_rep hra2.nil (fun _ hw => hra2.keeps hw.keeps)) (tms_one _) ⟨by omega, by unfold maxLen; omega⟩ rfl ?_
    intro a26 c26
    rw [rep_add]
    refine Hc (fun _ => (fun _ hw => ⟨hw.it (own b1 (.cells (kpC z).toArray 71 (0, 0))) (by simp), hw.keeps⟩)) ?_
    refine Hf 13 rfl (OV.assign rfl) (He (Xn (Csr (Za rfl (Nn (Cb ?_))))))
    refine WC.know (fun w' hw => (fun hp => row_addrK (hw.it (row 31 3 a26 (q.l + (q.l + 1)) c26 ((List.replicate (q.l + (q.l + 1)) (mkT z.m i)).flatMap tmC)) (.head _)) hp : 0 < q.l + (q.l + 1) → ∃ b, a26 = some ⟨b, 0, none⟩)) (fun hyb0 => ?_)
    obtain ⟨yb, hyb⟩ := hyb0 (by omega)
    refine WC.loop1 (fun (j : Nat) => [(1, ptr b1), (3, .int .i64 (i : Int)), (4, .slice a26 (q.l + (q.l + 1)) c26), (5, .int .i64 (j : Int))])
        (fun j w' => j ≤ q.l + (q.l + 1) ∧ Sat0 w (row 31 3 a26 (q.l + (q.l + 1)) c26 ((List.replicate (q.l + (q.l + 1)) (mkT z.m i)).flatMap tmC) :: own b1 (.cells (kpC z).toArray 71 (0, 0)) :: []) w')
        (fun j => q.l + (q.l + 1) - j) 0 ⟨rfl, rfl, rfl, rfl, trivial⟩ (fun w' hw => ⟨by omega, hw⟩) ?_
    intro j
    refine WC.pure (fun hj => ?_)
    refine Cs (Csr (Zm rfl (Zm rfl (Zv (OV.lenSlice rfl T.u32) (Zv (OV.lss rfl rfl) (Nn ?_))))))
    refine Cc rfl (fun c30 => ?_) (fun c30 => ?_)
    · refine Ck (Xn (Cs (Cb (Cs (Hq [] (m := 10) rfl ?_)))))
      refine Hf 0 rfl (OV.move rfl) (Hf 1 rfl (OV.move rfl) (Hf 2 rfl ((OV.indexSlice (show _ = some (Value.slice (some ⟨yb, 0, none⟩) (q.l + (q.l + 1)) c26) by rw [← hyb]; rfl) rfl T.u32 T.z31 (by omega)).cast (u := .pointer (some ⟨yb, j * 3, none⟩)) (by rw [Int.toNat_natCast, add_off, Nat.zero_add])) ?_))
      refine Ht 3 rfl (OV.loadN (cs := tmC (mkT z.m i)) rfl T.u31 rfl T.z31 (fun _ hw k v hk => by have hk3 : k < 3 := (List.getElem?_eq_some_iff.1 hk).1; have h := row_cellsE hw hyb (.head _) (j * 3 + k) v (by rw [flat_get tmC_len _ j k (mkT z.m i) (by rw [List.getElem?_replicate, if_pos (by omega)]) (by omega)]; exact hk); rw [add_off, Nat.zero_add] at h; rw [add_off]; exact h)) ?_
      refine Hf 4 rfl (OV.fieldAddr0 (off := 4) rfl T.u71 rfl) (Ht 5 rfl (OV.load1 (v := .int .i64 (z.m : Int)) rfl T.u3 rfl (fun _ hw => cell_own hw (.tail _ (.head _)) (o := 4) rfl)) (Hf 6 rfl ((OV.neg rfl).cast (u := .int .i64 (-(z.m : Int))) (by rw [wrap_i64 (by omega)])) (Hf 7 rfl (OV.move rfl) (Hf 8 rfl (OV.buildStruct (xs := [(0, .tmp 39), (1, .tmp 40)]) (pl := [(0, 1), (1, 1), (2, 1)]) (cs := tmC (mkT z.m i)) T.u31 T.zr31 (by kernel_rfl) rfl (fill_cons (us := [_]) rfl rfl (Nat.le_of_ble_eq_true rfl) (fill_cons (us := [_]) rfl rfl (Nat.le_of_ble_eq_true rfl) rfl))) (Hf 9 rfl ((OV.neqTm (a := mkT z.m i) (b := mkT z.m i) rfl rfl).cast (u := .bool false) (by simp)) (He (Xn (WC.condF (show _ = some (Value.bool false) from by rfl) ?_))))))))
      refine Ck (Xb (Xn (Cr (Zm rfl (Zv (OV.addN (j := 1) rfl rfl (by omega)) (Za rfl (Nl ?_)))))))
      exact WX.round1 (j + 1) ⟨rfl, rfl, rfl, rfl, trivial⟩ (fun w' hw => ⟨by omega, hw⟩) (by show q.l + (q.l + 1) - (j + 1) < q.l + (q.l + 1) - j; omega)
    refine Ce (Xe (Xe (Xh (Xb (Xn (Cr (Zm rfl (Zv (OV.addN (j := 1) rfl rfl (by omega)) (Za rfl (Nl ?_))))))))))
    exact WX.round1 (i + 1) ⟨rfl, rfl, trivial⟩ (fun w' hw => ⟨by omega, hw.drop⟩) (by show z.n - (i + 1) < z.n - i; omega)
  refine Ce (Xe (Xe (Xh (Xn (Cs (Csr (Za rfl (Nn (Cb ?_)))))))))
  refine WC.loop1 (fun (i : Nat) => [(1, ptr b1), (6, .int .i64 (i : Int))])
      (fun i w' => i ≤ z.n + 1 ∧ Sat0 w (own b1 (.cells (kpC z).toArray 71 (0, 0)) :: []) w')
      (fun i => z.n + 1 - i) 0 ⟨rfl, rfl, trivial⟩ (fun w' hw => ⟨by omega, hw⟩) ?_
  intro i
  refine WC.pure (fun hi => ?_)
  refine Cs (Csr (Zm rfl (Zv (OV.fieldAddr0 (off := 1) rfl T.u71 rfl) (Zv (OV.load1 (v := .slice z.xa (z.n + 1) z.xc) rfl T.u27 rfl (fun _ hw => cell_own hw (.head _) (o := 1) rfl)) (Zv (OV.lenSlice rfl T.u27) (Zv (OV.lss rfl rfl) (Nn ?_)))))))
  refine Cc rfl (fun c47 => ?_) (fun c47 => ?_)
  · refine Ck (Xn (Cs (Cb (Cs (Hq [] (m := 34) rfl ?_)))))
    refine Hf 0 rfl (OV.fieldAddr0 (off := 1) rfl T.u71 rfl) (Ht 1 rfl (OV.load1 (v := .slice z.xa (z.n + 1) z.xc) rfl T.u27 rfl (fun _ hw => cell_own hw (.head _) (o := 1) rfl)) (Hf 2 rfl (OV.move rfl) ?_))
    obtain ⟨qm, ym, hqm, htm, _, _, hcm⟩ := hr.more.get (i := i) (by rw [List.length_append, mineL_len]; show i < z.n + 1; omega)
    have hbm := more_b htm
    refine Hf 3 rfl ((OV.indexSlice (show _ = some (Value.slice (some qm) (z.n + 1) z.xc) by rw [← hqm]; rfl) rfl T.u27 T.z34 (by omega)).cast (u := .pointer (some (qm.add (i * 5)))) (by rw [Int.toNat_natCast])) (Hf 4 rfl ((OV.fieldAddrA (off := 0) rfl T.u34 rfl).cast (u := .pointer (some (qm.add (i * 5)))) (by rw [addr_add0])) (Ht 5 rfl (OV.loadN (cs := tmC ym.x.b) rfl T.u31 rfl T.z31 (fun _ hw j v hj => hw.keeps _ _ (hcm j v (agC_b hj)))) (Hf 6 rfl (OV.fieldAddr0 (off := 4) rfl T.u71 rfl) (Ht 7 rfl (OV.load1 (v := .int .i64 (z.m : Int)) rfl T.u3 rfl (fun _ hw => cell_own hw (.head _) (o := 4) rfl)) (Hf 8 rfl ((OV.neg rfl).cast (u := .int .i64 (-(z.m : Int))) (by rw [wrap_i64 (by omega)])) (Hf 9 rfl (OV.move rfl) (Hf 10 rfl (OV.buildStruct (xs := [(0, .tmp 58), (1, .tmp 59)]) (pl := [(0, 1), (1, 1), (2, 1)]) (cs := tmC (mkT z.m i)) T.u31 T.zr31 (by kernel_rfl) rfl (fill_cons (us := [_]) rfl rfl (Nat.le_of_ble_eq_true rfl) (fill_cons (us := [_]) rfl rfl (Nat.le_of_ble_eq_true rfl) rfl))) (Hf 11 rfl ((OV.neqTm (a := ym.x.b) (b := mkT z.m i) rfl rfl).cast (u := .bool false) (by simp [hbm])) (Hf 12 rfl (OV.move rfl) (Hk (t := 62) (b := false) rfl (by rfl) ?_))))))))))
    refine Hfg 13 rfl rfl rfl rfl (OV.move rfl) (Hfg 14 rfl rfl rfl rfl (OV.fieldAddr0 (off := 0) rfl T.u71 rfl) (Htg 15 rfl rfl rfl rfl (OV.load1 (v := .slice z.la z.n z.lc) rfl T.u27 rfl (fun _ hw => cell_own hw (.head _) (o := 0) rfl)) (Hfg 16 rfl rfl rfl rfl (OV.lenSlice rfl T.u27) (Hfg 17 rfl rfl rfl rfl (OV.lss rfl rfl) (Hfg 18 rfl rfl rfl rfl (OV.move rfl) ?_)))))
    refine Hp (t := 68) rfl (fun g68 => ?_) (fun g68 => ?_)
    · refine Hfg 19 rfl rfl rfl rfl (OV.fieldAddr0 (off := 0) rfl T.u71 rfl) (Htg 20 rfl rfl rfl rfl (OV.load1 (v := .slice z.la z.n z.lc) rfl T.u27 rfl (fun _ hw => cell_own hw (.head _) (o := 0) rfl)) (Hfg 21 rfl rfl rfl rfl (OV.move rfl) ?_))
      obtain ⟨ql, yl, hql2, htl, _, _, hcl⟩ := hr.l.get (i := i) (by rw [mineL_len]; omega)
      have hbl := mine_b htl
      refine Hfg 22 rfl rfl rfl rfl ((OV.indexSlice (show _ = some (Value.slice (some ql) z.n z.lc) by rw [← hql2]; rfl) rfl T.u27 T.z34 (by omega)).cast (u := .pointer (some (ql.add (i * 5)))) (by rw [Int.toNat_natCast])) (Hfg 23 rfl rfl rfl rfl ((OV.fieldAddrA (off := 0) rfl T.u34 rfl).cast (u := .pointer (some (ql.add (i * 5)))) (by rw [addr_add0])) (Htg 24 rfl rfl rfl rfl (OV.loadN (cs := tmC yl.x.b) rfl T.u31 rfl T.z31 (fun _ hw j v hj => hw.keeps _ _ (hcl j v (agC_b hj)))) (Hfg 25 rfl rfl rfl rfl (OV.fieldAddr0 (off := 1) rfl T.u71 rfl) (Htg 26 rfl rfl rfl rfl (OV.load1 (v := .slice z.xa (z.n + 1) z.xc) rfl T.u27 rfl (fun _ hw => cell_own hw (.head _) (o := 1) rfl)) (Hfg 27 rfl rfl rfl rfl (OV.move rfl) (Hfg 28 rfl rfl rfl rfl ((OV.indexSlice (show _ = some (Value.slice (some qm) (z.n + 1) z.xc) by rw [← hqm]; rfl) rfl T.u27 T.z34 (by omega)).cast (u := .pointer (some (qm.add (i * 5)))) (by rw [Int.toNat_natCast])) (Hfg 29 rfl rfl rfl rfl ((OV.fieldAddrA (off := 0) rfl T.u34 rfl).cast (u := .pointer (some (qm.add (i * 5)))) (by rw [addr_add0])) (Htg 30 rfl rfl rfl rfl (OV.loadN (cs := tmC ym.x.b) rfl T.u31 rfl T.z31 (fun _ hw j v hj => hw.keeps _ _ (hcm j v (agC_b hj)))) (Hfg 31 rfl rfl rfl rfl ((OV.neqTm (a := yl.x.b) (b := ym.x.b) rfl rfl).cast (u := .bool false) (by simp [hbm, hbl])) (Hfg 32 rfl rfl rfl rfl (OV.pickT rfl rfl) (Hf 33 rfl (OV.pickF rfl rfl) (He (Xn (WC.condF (show _ = some (Value.bool false) from by rfl) ?_))))))))))))))
      refine Ck (Xb (Xn (Cr (Zm rfl (Zv (OV.addN (j := 1) rfl rfl (by omega)) (Za rfl (Nl ?_)))))))
      exact WX.round1 (i + 1) ⟨rfl, rfl, trivial⟩ (fun w' hw => ⟨by omega, hw⟩) (by show z.n + 1 - (i + 1) < z.n + 1 - i; omega)
    refine Hs 19 rfl rfl rfl rfl (Hs 20 rfl rfl rfl rfl (Hs 21 rfl rfl rfl rfl (Hs 22 rfl rfl rfl rfl (Hs 23 rfl rfl rfl rfl (Hs 24 rfl rfl rfl rfl (Hs 25 rfl rfl rfl rfl (Hs 26 rfl rfl rfl rfl (Hs 27 rfl rfl rfl rfl (Hs 28 rfl rfl rfl rfl (Hs 29 rfl rfl rfl rfl (Hs 30 rfl rfl rfl rfl (Hs 31 rfl rfl rfl rfl (Hfg 32 rfl rfl rfl rfl (OV.pickF rfl rfl) (Hf 33 rfl (OV.pickF rfl rfl) (He (Xn (WC.condF (show _ = some (Value.bool false) from by rfl) ?_)))))))))))))))))
    refine Ck (Xb (Xn (Cr (Zm rfl (Zv (OV.addN (j := 1) rfl rfl (by omega)) (Za rfl (Nl ?_)))))))
    exact WX.round1 (i + 1) ⟨rfl, rfl, trivial⟩ (fun w' hw => ⟨by omega, hw⟩) (by show z.n + 1 - (i + 1) < z.n + 1 - i; omega)
  refine Ce (Xe (Xe (Xh (Xn (Csr (Zv (OV.fieldAddr0 (off := 1) rfl T.u71 rfl) (Zv (OV.load1 (v := .slice z.xa (z.n + 1) z.xc) rfl T.u27 rfl (fun _ hw => cell_own hw (.head _) (o := 1) rfl)) (Zv (OV.lenSlice rfl T.u27) (Zv (OV.fieldAddr0 (off := 0) rfl T.u71 rfl) (Zv (OV.load1 (v := .slice z.la z.n z.lc) rfl T.u27 rfl (fun _ hw => cell_own hw (.head _) (o := 0) rfl)) (Zv (OV.lenSlice rfl T.u27) (Zv (OV.addN (i := z.n) (j := 1) rfl rfl (by omega)) (Zv ((OV.eql rfl rfl).cast (u := .bool true) (by simp)) (Za rfl (Nn (WC.ret ?_))))))))))))))))
  exact WX.ret1 rfl rfl rfl (fun w' hw => ⟨rfl, hw.fr⟩)

end Go.Proofs.YtgiiifadbnpfkaaGreatDoor

set_option maxRecDepth 10000
namespace Go.Proofs.YtgiiifadbnpfkaaGreatDoor
open Go Go.Hw
set_option linter.unusedSimpArgs false
set_option linter.unusedVariables false
theorem RA.of_bare {w0 ws w : World} {M I : Nat → Prop} {ow : List Hw.Item} {a : Option Addr} {m c : Nat} {ys : List AG} (hl : ys.length = m) (hw : Sat w0 M I ws ow w) (hm : row 34 5 a m c (ys.flatMap agC) ∈ ow) (h0 : ∀ y ∈ ys, y.a = none ∧ y.x.args = []) : RA w a ys := by
  subst hl
  refine ⟨fun ha => ?_, fun q hq i t ht j v hv => ?_, fun y hy => by rw [(h0 y hy).1, (h0 y hy).2]; exact RT.nil0 _⟩
  · rcases (row_base hw hm).2 with ⟨_, h, _⟩ | ⟨b, hb, _⟩
    · exact h
    · rw [ha] at hb; cases hb
  · subst hq
    have hj : j < 5 := (List.getElem?_eq_some_iff.1 hv).1
    have h1 := row_cells hw hm (i * 5 + j) v (by rw [flat_get agC_len ys i j t ht hj]; exact hv)
    rwa [add_add] at h1
theorem RA.pre {w : World} {a : Option Addr} {ys zs : List AG} (h : RA w a (ys ++ zs)) : RA w a ys :=
  ⟨fun ha => by have := h.nil ha; rw [List.length_append] at this; omega, fun q hq i t ht j v hv => h.at_ q hq i t (by rw [List.getElem?_append_left (List.getElem?_eq_some_iff.1 ht).1]; exact ht) j v hv, fun y hy => h.args y (List.mem_append_left _ hy)⟩
theorem KRd.of_items {w0 ws w : World} {M I : Nat → Prop} {ow : List Hw.Item} {z : KG} (hz : KOK z) (hw : Sat w0 M I ws ow w) (hm : ∀ i ∈ keptA z, i ∈ ow) : KRd w z := by
  have h0 : ∀ y ∈ mineL z.m z.n ++ [lateY z.m z.n], y.a = none ∧ y.x.args = [] := by
    intro y hy
    rcases List.mem_append.1 hy with h | h
    · obtain ⟨i, _, rfl⟩ := List.mem_map.1 h
      exact ⟨rfl, rfl⟩
    · simp only [List.mem_singleton] at h; subst h; exact ⟨rfl, rfl⟩
  have hmore : RA w z.xa (mineL z.m z.n ++ [lateY z.m z.n]) := RA.of_bare rfl hw (hm _ (.head _)) h0
  have hg : row 32 1 z.ga z.n z.gc (hdQ z.qs) ∈ ow := hm _ (.tail _ (.head _))
  have ht : row 32 1 z.ta z.n z.tc (hdQ2 z.qs) ∈ ow := hm _ (.tail _ (.tail _ (.head _)))
  have hq2 : ∀ q ∈ z.qs, RT w q.a2 (List.replicate (q.l + 1) q.t) := fun q hq =>
    RT.of_row (m := q.l + 1) (c := q.c2) (by simp) hw (hm _ (.tail _ (.tail _ (.tail _ (List.mem_append_right _ (List.mem_flatMap.2 ⟨q, hq, .head _⟩))))))
  refine ⟨hmore, ?_, fun i v hv => ?_, fun i v hv => ?_, fun q hq => ?_, hq2⟩
  · cases hx : z.xsh with
    | true => rw [← hz.x hx]; exact hmore.pre
    | false =>
      refine RA.of_bare rfl hw (hm (rowAt z.la z.lc (mineL z.m z.n)) ?_) (fun y hy => h0 y (List.mem_append_left _ hy))
      refine .tail _ (.tail _ (.tail _ (List.mem_append_left _ ?_)))
      rw [hx]; exact .head _
  · have hi := (List.getElem?_eq_some_iff.1 hv).1
    obtain ⟨b, hb⟩ := row_addrK (hw.it _ hg) (by rw [← hz.n]; simp only [hdQ, List.length_map] at hi; omega)
    exact ⟨_, hb, row_cellsφE hb (hw.it _ hg) i v hv⟩
  · have hi := (List.getElem?_eq_some_iff.1 hv).1
    obtain ⟨b, hb⟩ := row_addrK (hw.it _ ht) (by rw [← hz.n]; simp only [hdQ2, List.length_map] at hi; omega)
    exact ⟨_, hb, row_cellsφE hb (hw.it _ ht) i v hv⟩
  · cases hs : q.sh with
    | true =>
      have h2 := hq2 q hq
      rw [List.replicate_succ', hz.sh q hq hs] at h2
      exact h2.pre Nat.zero_lt_one
    | false =>
      refine RT.of_row (m := q.l) (c := q.c) (by simp) hw (hm (rowR q.a q.c q.l q.t) ?_)
      refine .tail _ (.tail _ (.tail _ (List.mem_append_right _ (List.mem_flatMap.2 ⟨q, hq, .tail _ ?_⟩))))
      rw [hs]; exact .head _
/-! ### Predicates whose arity may be below zero -/
structure PI where
  name : ByteArray
  ar : Int
deriving DecidableEq
def piC (p : PI) : List Value := [.string p.name, .int .i64 p.ar]
abbrev piV (p : PI) : Value := .agg (piC p).toArray
theorem piC_len (p : PI) : (piC p).length = 2 := rfl
theorem piC_one (y : PI) : ∀ v ∈ piC y, v.oneCell' = true := by simp [piC, Value.oneCell']
def toI (p : Pd) : PI := ⟨p.name, p.ar⟩
theorem toI_flat (ps : List Pd) : ps.flatMap pdC = (ps.map toI).flatMap piC := by
  rw [List.flatMap_map]; rfl
def mpI (k : Nat) : PI := ⟨MINE, -(k : Int)⟩
def mpL (n : Nat) : List PI := (List.range n).map mpI
def ltI : PI := ⟨LATE, 0⟩
theorem mpL_len (n : Nat) : (mpL n).length = n := by simp [mpL]
theorem mpL_at {n i : Nat} (h : i < n) : (mpL n)[i]? = some (mpI i) := by simp [mpL, h]
theorem gen_set {α : Type} (f : Nat → α) {l : List α} {i : Nat} (h : i < l.length) : ((List.range i).map f ++ l.drop i).set i (f i) = (List.range (i + 1)).map f ++ l.drop (i + 1) := by
  rw [List.set_append_right _ _ (by simp), List.length_map, List.length_range, Nat.sub_self, List.drop_eq_getElem_cons h, List.set_cons_zero]
  simp [List.range_succ]
set_option maxRecDepth 100000 in
theorem pi_equal (d : Nat) (a b : PI) (w : World) : (Op.equalIn (d + 2) 43 (piV a) (piV b)).run Tryz.prog w = .ok (decide (a = b)) w := by
  rw [run_equalIn_struct w (d + 1) 43 _ _ (by simp only [Program.fieldsOf, T.u43]) (by kernel_rfl)]
  obtain ⟨s, n⟩ := a
  obtain ⟨s', n'⟩ := b
  simp only [Program.fieldsOf, T.u43]
  simp [Op.eqFields, part, piC, run_isAgg T.u3, run_isAgg T.u9, aggD, run_equalIn_int w _ _ _ _ _ _ T.u3, run_equalIn_string w _ _ _ _ T.u9, s_beq]
  by_cases h1 : s = s' <;> by_cases h2 : n = n' <;> simp [h1, h2]
theorem OV.neqPI {n : Nat} {ds : DS} {e : Env} {S : World → Prop} {dst : Option Tmp} {t : TypeId} {p : String} {af : Array Edge} {g : Option (Nat × Bool)} {x y : Operand} {a b : PI} (hx : ev e x = some (piV a)) (hy : ev e y = some (piV b)) : OV Tryz.prog n ds e S ⟨dst, .binOp .neq 43 x y 43, t, p, af, g⟩ (.bool (!decide (a = b))) := fun _ w ha _ => by
  simp [execOp, ha.eval hx, ha.eval hy, run_eqGuard_agg _ _ _ _ _ _ _ (show Program.eqGuardType Tryz.prog (Program.depth Tryz.prog) 43 = false by kernel_rfl), run_neq_struct, pi_equal 9998]
abbrev rowPI (a : Option Addr) (n c : Nat) (l : List PI) : Hw.Item := row 43 2 a n c (l.flatMap piC)
structure RPI (w : World) (a : Option Addr) (ys : List PI) : Prop where
  at_ : ∀ i y, ys[i]? = some y → ∃ q, a = some q ∧ ∀ j v, (piC y)[j]? = some v → w.cell? ((q.add (i * 2)).add j) = some v
theorem RPI.of_row {w0 ws w : World} {M I : Nat → Prop} {ow : List Hw.Item} {a : Option Addr} {m c : Nat} {ys : List PI} (hl : ys.length = m) (hw : Sat w0 M I ws ow w) (hm : rowPI a m c ys ∈ ow) : RPI w a ys := by
  subst hl
  refine ⟨fun i y hy => ?_⟩
  have hi := (List.getElem?_eq_some_iff.1 hy).1
  obtain ⟨b, hb⟩ := row_addrK (hw.it _ hm) (by omega)
  refine ⟨_, hb, fun j v hv => ?_⟩
  have hj : j < 2 := (List.getElem?_eq_some_iff.1 hv).1
  have h1 := row_cellsφE hb (hw.it _ hm) (i * 2 + j) v (by rw [flat_get piC_len ys i j y hy hj]; exact hv)
  rwa [add_add] at h1
theorem RPI.pre {w : World} {a : Option Addr} {ys zs : List PI} (h : RPI w a (ys ++ zs)) : RPI w a ys :=
  ⟨fun i y hy => h.at_ i y (by rw [List.getElem?_append_left (List.getElem?_eq_some_iff.1 hy).1]; exact hy)⟩
theorem RPI.old {w0 ws w : World} {M I : Nat → Prop} {ow : List Hw.Item} {pa qa : Option Addr} {n pc qc : Nat} {sh : Bool} {l : List PI} {z : PI} (hl : l.length = n) (hsh : sh = true → qa = pa) (hw : Sat w0 M I ws ow w) (h1 : rowPI qa (n + 1) qc (l ++ [z]) ∈ ow) (h2 : ∀ i ∈ (if sh = true then [] else [rowPI pa n pc l]), i ∈ ow) : RPI w pa l := by
  cases hs : sh with
  | true =>
    have h3 := RPI.of_row (by simp [hl]) hw h1
    rw [← hsh hs]; exact h3.pre
  | false => exact RPI.of_row hl hw (h2 _ (by rw [hs]; exact .head _))
theorem T.apPd' : appB Tryz.prog 40 43 2 24 = true := by kernel_rfl
theorem T.apK : appB Tryz.prog 66 71 5 104 = true := by kernel_rfl
theorem kpC_len (z : KG) : (kpC z).length = 5 := rfl
theorem kpC_one (z : KG) : ∀ v ∈ kpC z, v.oneCell' = true := by simp [kpC, Value.oneCell']

end Go.Proofs.YtgiiifadbnpfkaaGreatDoor

set_option maxRecDepth 10000
namespace Go.Proofs.YtgiiifadbnpfkaaGreatDoor
open Go Go.Hw
set_option linter.unusedSimpArgs false
set_option linter.unusedVariables false
end Go.Proofs.YtgiiifadbnpfkaaGreatDoor

set_option maxRecDepth 10000
namespace Go.Proofs.YtgiiifadbnpfkaaGreatDoor
open Go Go.Hw
set_option linter.unusedSimpArgs false
set_option linter.unusedVariables false
end Go.Proofs.YtgiiifadbnpfkaaGreatDoor

set_option maxRecDepth 10000
namespace Go.Proofs.YtgiiifadbnpfkaaGreatDoor
open Go Go.Hw
set_option linter.unusedSimpArgs false
set_option linter.unusedVariables false
/-- Binds that lie one behind the other. -/
structure RBd (w : World) (a : Option Addr) (ys : List Bd) : Prop where
  nil : a = none → ys.length = 0
  at_ : ∀ q, a = some q → ∀ i y, ys[i]? = some y → ∀ j v, (bdC y)[j]? = some v → w.cell? ((q.add (i * 4)).add j) = some v
theorem RBd.keeps {w w' : World} {a : Option Addr} {ys : List Bd} (h : RBd w a ys) (k : Keeps w w') : RBd w' a ys := ⟨h.nil, fun q hq i t ht j v hv => k _ _ (h.at_ q hq i t ht j v hv)⟩
theorem RBd.nil0 (w : World) : RBd w none [] := ⟨fun _ => rfl, fun q hq => by cases hq⟩
theorem RBd.get {w : World} {a : Option Addr} {ys : List Bd} (h : RBd w a ys) {i : Nat} (hi : i < ys.length) : ∃ q y, a = some q ∧ ys[i]? = some y ∧ y ∈ ys ∧ ∀ j v, (bdC y)[j]? = some v → w.cell? ((q.add (i * 4)).add j) = some v := by
  cases a with
  | none => have := h.nil rfl; omega
  | some q => exact ⟨q, ys[i], rfl, List.getElem?_eq_getElem hi, List.getElem_mem hi, h.at_ q rfl i _ (List.getElem?_eq_getElem hi)⟩
theorem RBd.of_row {w0 ws w : World} {M I : Nat → Prop} {ow : List Hw.Item} {a : Option Addr} {c : Nat} {ys : List Bd} (hw : Sat w0 M I ws ow w) (hm : rowB a c ys ∈ ow) : RBd w a ys := by
  refine ⟨fun ha => ?_, fun q hq i t ht j v hv => ?_⟩
  · rcases (row_base hw hm).2 with ⟨_, h, _⟩ | ⟨b, hb, _⟩
    · exact h
    · rw [ha] at hb; cases hb
  · subst hq
    have hj : j < 4 := (List.getElem?_eq_some_iff.1 hv).1
    have h1 := row_cells hw hm (i * 4 + j) v (by rw [flat_get bdC_len ys i j t ht hj]; exact hv)
    rwa [add_add] at h1
def sb (ys : List Bd) : List (Int × Tm) := ys.map fun b => (b.v, b.t)
end Go.Proofs.YtgiiifadbnpfkaaGreatDoor

set_option maxRecDepth 10000
namespace Go.Proofs.YtgiiifadbnpfkaaGreatDoor
open Go Go.Hw
set_option linter.unusedSimpArgs false
set_option linter.unusedVariables false
theorem AtS.plc {x : At} (h : AtS x) : ∀ t ∈ plc x, t.s.size ≤ 1099511627776 := fun t ht => by
  rcases List.mem_cons.1 ht with rfl | ht
  · exact h.b
  · exact h.args t ht
end Go.Proofs.YtgiiifadbnpfkaaGreatDoor

set_option maxRecDepth 10000
namespace Go.Proofs.YtgiiifadbnpfkaaGreatDoor
open Go Go.Hw
set_option linter.unusedSimpArgs false
set_option linter.unusedVariables false
/-! ### The document's base as it lies -/
structure DG where
  p : Nat
  a : Option Addr
  c : Nat
  is : List IG
/-- The document's base behind at most k Adds: the facts L, in order. -/
structure DOK (d : DG) (k : Nat) (L : List (At × Nat)) : Prop where
  ls : Fis d.is = L
  sd : SD L
  fct : ∀ i ∈ d.is, factB i.y.x = true
  part : ∀ i ∈ d.is, i.p = 1 ∨ i.p = 2 ∨ i.p = 4
  len : d.is.length ≤ k
theorem DOK.mono {d : DG} {k m : Nat} {L : List (At × Nat)} (h : DOK d k L) (hk : k ≤ m) : DOK d m L := ⟨h.ls, h.sd, h.fct, h.part, Nat.le_trans h.len hk⟩
end Go.Proofs.YtgiiifadbnpfkaaGreatDoor

set_option maxRecDepth 10000
namespace Go.Proofs.YtgiiifadbnpfkaaGreatDoor
open Go Go.Hw
set_option linter.unusedSimpArgs false
set_option linter.unusedVariables false
end Go.Proofs.YtgiiifadbnpfkaaGreatDoor

set_option maxRecDepth 10000
namespace Go.Proofs.YtgiiifadbnpfkaaGreatDoor
open Go Go.Hw
set_option linter.unusedSimpArgs false
set_option linter.unusedVariables false
end Go.Proofs.YtgiiifadbnpfkaaGreatDoor

set_option maxRecDepth 10000
namespace Go.Proofs.YtgiiifadbnpfkaaGreatDoor
open Go Go.Hw
set_option linter.unusedSimpArgs false
set_option linter.unusedVariables false
/-! ### One call on both bases -/
theorem lend_rt {w0 ws w : World} {M I : Nat → Prop} {ow : List Hw.Item} {la : Option Addr} {lc : Nat} {ts : List Tm} (hw : Sat w0 M I ws ow w) (hm : rowL2 la lc ts ∈ ow) : RT w la (ts ++ [TB]) := RT.of_row (c := lc) (m := ts.length + 1) (by simp) hw hm
theorem lend_rt1 {w0 ws w : World} {M I : Nat → Prop} {ow : List Hw.Item} {la : Option Addr} {lc : Nat} {ts : List Tm} (hw : Sat w0 M I ws ow w) (hm : rowL2 la lc ts ∈ ow) : RT w la ts := (lend_rt hw hm).pre (by decide)
theorem BehindAt.lt {w : World} (h : BehindAt w) : 0 < w.heap.size := by
  have h1 := h 0 (.int .i64 901) rfl
  exact World.block_lt_of_cell? _ _ h1
theorem BehindAt.satA {w w' : World} {A ow : List Hw.Item} (h : BehindAt w) (hne : ¬ DD A 0) (hw : Sat w (DD A) (fun b => b < w.heap.size ∧ ¬ DD A b) w ow w') : BehindAt w' := by
  intro j v hj
  have h2 := hw.fr.keep 0 h.lt hne
  have h1 := h j v hj
  rw [World.cell?_of_block (a := ⟨0, j, Option.none⟩) h2]
  exact h1
end Go.Proofs.YtgiiifadbnpfkaaGreatDoor
