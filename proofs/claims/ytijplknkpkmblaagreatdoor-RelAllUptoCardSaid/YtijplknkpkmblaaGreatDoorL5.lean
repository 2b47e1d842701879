/- Contracts of functions of the program: what each returns and leaves in memory. Printed by gen.py and walk.py. -/
import Derived.Test.YtijplknkpkmblaaGreatDoorL4
namespace Go.Proofs.YtijplknkpkmblaaGreatDoor
open Go Go.Hw
set_option linter.unusedSimpArgs false
set_option linter.unusedVariables false
/-! ### Find -/
structure FB where
  bO : Nat
  bR : Nat
  bL : Nat
  bK : Nat
  bP : Nat
  r : Nat
  parts : Int
  la : Option Addr
  lc : Nat
  ls : List Int
  ka : Option Addr
  kc : Nat
  ks : List Int
  b : Bool
def FB.col (F : FB) : Col := ⟨F.la, F.lc, F.ls⟩
abbrev box1 (b : Nat) (T : TypeId) (v : Value) : Hw.Item := own b (.cells [v].toArray T (0, 0))
def boxA (F : FB) : List Hw.Item := [box1 F.bO 4 (.bool F.b), box1 F.bR 25 (ptr F.r), box1 F.bL 32 (.slice F.la F.ls.length F.lc), box1 F.bK 32 (.slice F.ka F.ks.length F.kc), box1 F.bP 3 (.int .i64 F.parts), row 3 1 F.ka F.ks.length F.kc (ints F.ks)]
def FB.caps (F : FB) : List Value := [ptr F.bO, ptr F.bR, ptr F.bL, ptr F.bK, ptr F.bP]
def FB.fn (F : FB) : Value := .func (.func 29) #[] F.caps.toArray
def colG (g : RelG) (c : Col) : RelG := { g with cols := g.cols ++ [c] }
theorem colG_ok {g : RelG} (ok : RelOK g) {c : Col} (h1 : ∀ k ∈ c.l, 0 ≤ k ∧ k < g.width) (h2 : c.l.length ≤ 1099511627776) : RelOK (colG g c) where
  wid := ok.wid
  i64 := ok.i64
  part := ok.part
  rows := ok.rows
  ptrs := ok.ptrs
  fs := ok.fs
  ns := ok.ns
  cols x hx := by
    rcases List.mem_append.1 hx with h | h
    · exact ok.cols x h
    · simp only [List.mem_singleton] at h; subst h; exact h1
  ixc x hx := List.mem_append_left _ (ok.ixc x hx)
  ixk := ok.ixk
  ix := ok.ix
  coll x hx := by
    rcases List.mem_append.1 hx with h | h
    · exact ok.coll x h
    · simp only [List.mem_singleton] at h; subst h; exact h2
  wl := ok.wl
  rl := ok.rl
  el := ok.el
theorem colG_le (g : RelG) (c : Col) : RelLe g (colG g c) := ⟨rfl, rfl, fun e he => ⟨e, he, rfl, rfl, rfl, rfl⟩, fun _ h => List.mem_append_left _ h⟩
theorem relA_col (g : RelG) (c : Col) : (relA (colG g c)).Perm (row 3 1 c.a c.l.length c.c (ints c.l) :: relA g) := by
  have h := tail_col g.es g.cols [] c g.ix
  rw [List.append_nil] at h
  have h2 := (List.Perm.append_left [hdA g.r (hdC g.width g.mb (fslice g) (nslice g) (counts g.es) g.ib), own g.mb (mapK Value.string (rowsM g.es)), own g.ib (mapK Value.string (ixM g.ix)), psA g.fa g.fc g.fs, psA g.na g.nc g.ns] h).symm
  exact h2.trans (List.perm_middle (l₁ := [_, _, _, _, _]))

set_option maxRecDepth 10000 in
theorem find_calls (g : RelG) (ok : RelOK g) (parts : Int) (cols key : List Int) (a1 : Option Addr) (m1 c1 : Nat) (a2 : Option Addr) (m2 c2 : Nat) (hc : i64s cols) (hk : i64s key) (hm1 : m1 ≤ 1099511627776) (hm2 : m2 ≤ 1099511627776) (w : World) (hr1 : RI w a1 m1 cols) (hr2 : RI w a2 m2 key) (hne1 : ∀ b, a1 = some b → 0 < m1 → ¬ DD (relA g) b.block) (hne2 : ∀ b, a2 = some b → 0 < m2 → ¬ DD (relA g) b.block) (hA : Holds (relA g) w) :
  Calls Tryz.prog 13 #[ptr g.r, .int .i64 parts, .slice a1 m1 c1, .slice a2 m2 c2] w fun e w' => ∃ F : FB, e = .returned F.fn ∧ F.r = g.r ∧ F.parts = parts ∧ QR g.width cols key F.ls F.ks F.b ∧ RelOK (colG g F.col) ∧ Turns (relA g) (relA (colG g F.col) ++ boxA F) w w' := by
  refine enterA hA (args := [ptr g.r, .int .i64 parts, .slice a1 m1 c1, .slice a2 m2 c2]) Tryz.func13 rfl Tryz.ntmps13 rfl rfl ?_
  refine WC.seq ?_
  refine WC.region ?_
  refine WL.box rfl rfl rfl ?_
  intro b4
  refine WL.box rfl rfl rfl ?_
  intro b5
  refine WL.val (OV.assign rfl) rfl ?_
  refine WL.nil ?_
  refine WX.next ?_
  refine WC.seq ?_
  refine WC.region ?_
  first
  | (refine WL.val (OV.load1 rfl T.u25 rfl (fun _ hw => cell_own hw (.head _) rfl)) rfl ?_)
  | (refine WL.val (OV.load1 rfl T.u25 rfl (fun _ hw => cell_own hw (.tail _ (.head _)) rfl)) rfl ?_)
  | (refine WL.val (OV.load1 rfl T.u25 rfl (fun _ hw => cell_own hw (.tail _ (.tail _ (.head _))) rfl)) rfl ?_)
  | (refine WL.val (OV.load1 rfl T.u25 rfl (fun _ hw => cell_own hw (.tail _ (.tail _ (.tail _ (.head _)))) rfl)) rfl ?_)
  refine WL.val (OV.move rfl) rfl ?_
  refine WL.val (OV.move rfl) rfl ?_
  refine WL.callTA (ι := Option Addr × Nat × Option Addr × Nat × List Int × List Int × Bool) (vv := fun q => .tuple #[.slice q.1 q.2.2.2.2.1.length q.2.1, .slice q.2.2.1 q.2.2.2.2.2.1.length q.2.2.2.1, .bool q.2.2.2.2.2.2]) (pp := fun q => QR g.width cols key q.2.2.2.2.1 q.2.2.2.2.2.1 q.2.2.2.2.2.2) [] (AA := fun q => [row 3 1 q.1 q.2.2.2.2.1.length q.2.1 (ints q.2.2.2.2.1), row 3 1 q.2.2.1 q.2.2.2.2.2.1.length q.2.2.2.1 (ints q.2.2.2.2.2.1)]) rfl (by kernel_rfl) rfl rfl (fun w' hw' _ => (question_calls g ok cols key a1 m1 c1 a2 m2 c2 hc hk hm1 hm2 w' (hr1.satA hne1 hw') (hr2.satA hne2 hw') hw'.drop.drop.holdsAll).mono (fun en w'' ⟨la, lc, ka, kc, ls, ks, b, h1, h2, h3⟩ => ⟨(la, lc, ka, kc, ls, ks, b), h1, h2, h3⟩)) ?_
  rintro ⟨la, lc, ka, kc, ls, ks, b⟩ hq
  refine WL.val (OV.move rfl) rfl ?_
  refine WL.val (OV.extract rfl rfl) rfl ?_
  refine WL.val (OV.extract rfl rfl) rfl ?_
  refine WL.val (OV.extract rfl rfl) rfl ?_
  refine WL.alloc T.zr32 rfl ?_
  intro b9
  refine WL.alloc T.zr32 rfl ?_
  intro b10
  refine WL.alloc T.zr4 rfl ?_
  intro b11
  first
  | (refine WL.store1 rfl rfl rfl T.z32 (by first | decide | (simp; omega)) ?_)
  | (refine WL.focus perm1 (WL.store1 rfl rfl rfl T.z32 (by first | decide | (simp; omega)) ?_))
  | (refine WL.focus perm2 (WL.store1 rfl rfl rfl T.z32 (by first | decide | (simp; omega)) ?_))
  | (refine WL.focus perm3 (WL.store1 rfl rfl rfl T.z32 (by first | decide | (simp; omega)) ?_))
  first
  | (refine WL.store1 rfl rfl rfl T.z32 (by first | decide | (simp; omega)) ?_)
  | (refine WL.focus perm1 (WL.store1 rfl rfl rfl T.z32 (by first | decide | (simp; omega)) ?_))
  | (refine WL.focus perm2 (WL.store1 rfl rfl rfl T.z32 (by first | decide | (simp; omega)) ?_))
  | (refine WL.focus perm3 (WL.store1 rfl rfl rfl T.z32 (by first | decide | (simp; omega)) ?_))
  first
  | (refine WL.store1 rfl rfl rfl T.z4 (by first | decide | (simp; omega)) ?_)
  | (refine WL.focus perm1 (WL.store1 rfl rfl rfl T.z4 (by first | decide | (simp; omega)) ?_))
  | (refine WL.focus perm2 (WL.store1 rfl rfl rfl T.z4 (by first | decide | (simp; omega)) ?_))
  | (refine WL.focus perm3 (WL.store1 rfl rfl rfl T.z4 (by first | decide | (simp; omega)) ?_))
  refine WL.nil ?_
  refine WX.next ?_
  refine WC.seq ?_
  refine WC.region ?_
  refine WL.val (OV.makeFunc rfl) rfl ?_
  refine WL.val (OV.assign rfl) rfl ?_
  refine WL.nil ?_
  refine WX.next ?_
  refine WC.ret ?_
  have hle := hq.le
  have h1 := hr1.1
  refine WX.ret1 rfl rfl rfl (fun w' hw => ⟨⟨b11, b4, b9, b10, b5, g.r, parts, la, lc, ls, ka, kc, ks, b⟩, rfl, rfl, rfl, hq, colG_ok ok hq.ok (Nat.le_trans hle (by omega)), ?_⟩)
  refine (hw.perm ?_).turned
  refine (List.Perm.append_right _ (relA_col g _)).trans ?_
  refine List.perm_append_comm.trans ?_
  exact (perm_pick [_, _, _, _, _, _, _] [0, 6, 2, 1, 5, 4, 3] (by decide) rfl)

end Go.Proofs.YtijplknkpkmblaaGreatDoor
