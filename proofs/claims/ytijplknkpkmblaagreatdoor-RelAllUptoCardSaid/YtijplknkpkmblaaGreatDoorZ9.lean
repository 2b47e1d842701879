/- Contracts of functions of the program: what each returns and leaves in memory. Printed by gen.py and walk.py. -/
import Derived.Test.YtijplknkpkmblaaGreatDoorZ8
namespace Go.Proofs.YtijplknkpkmblaaGreatDoor
open Go Go.Hw
set_option linter.unusedSimpArgs false
set_option linter.unusedVariables false
theorem _root_.Go.Hw.OV.fieldAddrA {P : Program} {n : Nat} {ds : DS} {e : Env} {S : World → Prop} {dst : Option Tmp} {t lt : TypeId} {p : String} {af : Array Edge} {x : Operand} {a : Addr} {f off s : Nat} {fs : Array Field} {g : Option (Nat × Bool)} (hx : ev e x = some (.pointer (some a))) (hu : P.underlying lt = some (.struct fs)) (hf : (fs[f]?).map (fun q => (q.offset, P.sz q.type)) = some (off, some (s + 1))) :
    OV P n ds e S ⟨dst, .fieldAddr lt x f, t, p, af, g⟩ (.pointer (some (a.add off))) := fun _ w ha _ => by
  obtain ⟨q, hq, h⟩ := Option.map_eq_some_iff.1 hf
  simp only [Prod.mk.injEq] at h
  simp [execOp, ha.eval hx, Instr.fieldAt, run_underlying hu, Instr.sureAddr, hq, fieldPlace, Hw.run_sizeOf h.2 w, h.1]
/-! ### A script over two relations -/
abbrev BG := Option (RelG × RefG)
def pv1 (o : BG) : Value := .pointer (o.map fun z => ⟨z.1.r, 0, none⟩)
def pv2 (o : BG) : Value := .pointer (o.map fun z => ⟨z.2.p, 0, none⟩)
def bothV (o : BG) : List Value := [pv1 o, pv2 o]
def bothA (o : BG) : List Hw.Item := match o with | none => [] | some z => relA z.1 ++ refA z.2
def OKb (o : BG) (n : Nat) : Prop := ∀ z, o = some z → Tie z.1 z.2 ∧ z.1.es.length ≤ n ∧ z.2.cols.length ≤ n
theorem OKb.up {o : BG} {n : Nat} (h : OKb o n) : OKb o (n + 1) := fun z hz => ⟨(h z hz).1, by have := (h z hz).2.1; omega, by have := (h z hz).2.2; omega⟩
theorem begin_any (wd : Int) (hi : -9223372036854775808 ≤ wd ∧ wd ≤ 9223372036854775807) (w : World) : Calls Tryz.prog 7 #[.int .i64 wd] w fun e w' => ∃ o : BG, e = .returned (.tuple #[.agg (bothV o).toArray, .bool true]) ∧ OKb o 0 ∧ Turns [] (bothA o) w w' := by
  by_cases h : wd < 0
  · refine (begin_neg wd h w).mono ?_
    rintro e w' ⟨rfl, hf⟩
    exact ⟨none, rfl, (fun z hz => by cases hz), ⟨hf.mono (fun _ f => f.elim), (fun i hi => by cases hi), (fun i hi => by cases hi), .nil⟩⟩
  · obtain ⟨m, rfl⟩ : ∃ m : Nat, wd = m := ⟨wd.toNat, by omega⟩
    refine (begin_calls m (by omega) w).mono ?_
    rintro e w' ⟨g, q, rfl, h1, h2, h3, h4, h5, h6, h7⟩
    refine ⟨some (g, q), rfl, fun z hz => ?_, h7⟩
    cases hz
    refine ⟨⟨h1, h2, by rw [h3, h4], by rw [h5, h6]⟩, ?_, ?_⟩
    · have := es_len h5
      simpa using this
    · have h8 := congrArg List.length h6
      rw [refL, List.length_zip, refR, List.length_map, h2.li, Nat.min_self] at h8
      simpa using h8
structure OpR where
  kind : Int
  parts : Int
  stop : Int
  two : Bool
  rr : List Int
  cols : List Int
  key : List Int
  deriving Inhabited
def opWt (o : OpR) : Nat := o.rr.length + o.cols.length + o.key.length
/-- A step of a script as it lies in memory. -/
def OpAt (w : World) (p : Addr) (o : OpR) : Prop := ∃ ra rc a1 c1 a2 c2, (∀ j v, (opC o.kind o.parts o.stop o.two ra o.rr.length rc a1 o.cols.length c1 a2 o.key.length c2)[j]? = some v → w.cell? (p.add j) = some v) ∧ RI w ra o.rr.length o.rr ∧ RI w a1 o.cols.length o.cols ∧ RI w a2 o.key.length o.key ∧ i64s o.rr ∧ i64s o.cols ∧ i64s o.key
structure ROs (w : World) (a : Option Addr) (n : Nat) (os : List OpR) : Prop where
  len : os.length = n
  nil : a = none → n = 0
  at_ : ∀ q, a = some q → ∀ i o, os[i]? = some o → OpAt w (q.add (i * 7)) o
  big : n ≤ 1048576
  wt : ∀ o ∈ os, opWt o ≤ 1048576
theorem ROs.get {w : World} {a : Option Addr} {n : Nat} {os : List OpR} (h : ROs w a n os) {i : Nat} (hi : i < n) : ∃ q o, a = some q ∧ os[i]? = some o ∧ opWt o ≤ 1048576 ∧ OpAt w (q.add (i * 7)) o := by
  cases a with
  | none => have := h.nil rfl; omega
  | some q =>
    have hl : i < os.length := by rw [h.len]; exact hi
    exact ⟨q, os[i], rfl, List.getElem?_eq_getElem hl, h.wt _ (List.getElem_mem hl), h.at_ q rfl i _ (List.getElem?_eq_getElem hl)⟩


theorem OpAt.keeps {w w' : World} {p : Addr} {o : OpR} (h : OpAt w p o) (k : Keeps w w') : OpAt w' p o := by
  obtain ⟨ra, rc, a1, c1, a2, c2, h1, h2, h3, h4, h5⟩ := h
  exact ⟨ra, rc, a1, c1, a2, c2, fun j v hj => k _ _ (h1 j v hj), h2.keeps k, h3.keeps k, h4.keeps k, h5⟩
theorem ROs.keeps {w w' : World} {a : Option Addr} {n : Nat} {os : List OpR} (h : ROs w a n os) (k : Keeps w w') : ROs w' a n os :=
  ⟨h.len, h.nil, fun q hq i o ho => (h.at_ q hq i o ho).keeps k, h.big, h.wt⟩

set_option maxRecDepth 10000 in
set_option maxHeartbeats 1000000 in
theorem upTo_calls (one two lo hi : Int) (hone : -9223372036854775808 ≤ one ∧ one ≤ 9223372036854775807) (htwo : -9223372036854775808 ≤ two ∧ two ≤ 9223372036854775807) (os : List OpR) (a : Option Addr) (n c : Nat) (w : World) (hr : ROs w a n os) : Calls Tryz.prog 6 #[.int .i64 one, .int .i64 two, .slice a n c, .int .i64 lo, .int .i64 hi] w fun e w' => e = .returned (.bool true) ∧ Fr0 w w' := by
  refine enterS (args := [.int .i64 one, .int .i64 two, .slice a n c, .int .i64 lo, .int .i64 hi]) (fun _ => False) Tryz.func6 rfl Tryz.ntmps6 rfl rfl ?_
  refine WC.seq ?_
  refine WC.region ?_
  refine WL.val (OV.assign rfl) rfl ?_
  refine WL.nil ?_
  refine WX.next ?_
  refine WC.seq ?_
  refine WC.region ?_
  refine WL.val (OV.move rfl) rfl ?_
  refine WL.callTA (ι := BG) (vs := [.int .i64 one]) (vv := fun o => .tuple #[.agg (bothV o).toArray, .bool true]) (pp := fun o => OKb o 0) [] (AA := bothA) rfl (by kernel_rfl) rfl rfl (fun w' hw' _ => begin_any one hone w') ?_
  intro oa hoa
  refine WL.val (OV.move rfl) rfl ?_
  refine WL.val (OV.extract rfl rfl) rfl ?_
  refine WL.val (OV.extract rfl rfl) rfl ?_
  refine WL.alloc T.zr28 rfl ?_
  intro b11
  refine WL.storeAll (vs := bothV oa) rfl rfl rfl T.z28 rfl ?_
  refine WL.val (OV.assign rfl) rfl ?_
  refine WL.nil ?_
  refine WX.next ?_
  refine WC.seq ?_
  refine WC.region ?_
  refine WL.val (OV.move rfl) rfl ?_
  refine WL.callTA (ι := BG) (vs := [.int .i64 two]) (vv := fun o => .tuple #[.agg (bothV o).toArray, .bool true]) (pp := fun o => OKb o 0) [] (AA := bothA) rfl (by kernel_rfl) rfl rfl (fun w' hw' _ => begin_any two htwo w') ?_
  intro ob hob
  refine WL.val (OV.move rfl) rfl ?_
  refine WL.val (OV.extract rfl rfl) rfl ?_
  refine WL.val (OV.extract rfl rfl) rfl ?_
  refine WL.alloc T.zr28 rfl ?_
  intro b13
  refine WL.storeAll (vs := bothV ob) rfl rfl rfl T.z28 rfl ?_
  refine WL.val (OV.assign rfl) rfl ?_
  refine WL.nil ?_
  refine WX.next ?_
  refine WC.seq ?_
  refine WC.seq ?_
  refine WC.region ?_
  refine WL.val (OV.move rfl) rfl ?_
  refine WL.val (OV.not rfl) rfl ?_
  refine WL.val (OV.move rfl) rfl ?_
  refine WL.known (t := 30) (b := false) rfl (by rfl) ?_
  refine WL.go (b := false) rfl rfl rfl ?_
  refine WL.val (OV.move rfl) rfl ?_
  refine WL.go (b := false) rfl rfl rfl ?_
  refine WL.val (OV.not rfl) rfl ?_
  refine WL.val (OV.pickF rfl rfl) rfl ?_
  refine WL.val (OV.move rfl) rfl ?_
  refine WL.known (t := 34) (b := false) rfl (by rfl) ?_
  refine WL.go (b := false) rfl rfl rfl ?_
  refine WL.call0 (v := .bool true) (by kernel_rfl) rfl rfl (fun w' hw' => head_calls w') ?_
  refine WL.go (b := false) rfl rfl rfl ?_
  refine WL.val (OV.not rfl) rfl ?_
  refine WL.val (OV.pickF rfl rfl) rfl ?_
  refine WL.nil ?_
  refine WX.next ?_
  refine WC.condF (show _ = some (Value.bool false) from by rfl) ?_
  refine WC.skip ?_
  refine WX.next ?_
  refine WC.seq ?_
  refine WC.seq ?_
  refine WC.region ?_
  refine WL.val (OV.assign rfl) rfl ?_
  refine WL.nil ?_
  refine WX.next ?_
  refine WC.block ?_
  have hbig := hr.big
  refine WC.loop3 (fun (i : Nat) (oa ob : BG) => [(2, .slice a n c), (3, .int .i64 lo), (4, .int .i64 hi), (11, .pointer (some ⟨b11, 0, none⟩)), (13, .pointer (some ⟨b13, 0, none⟩)), (15, .int .i64 (i : Int))])
      (fun i oa ob w' => (i ≤ n ∧ OKb oa i ∧ OKb ob i) ∧ Sat w (fun _ => False) (fun b => b < w.heap.size) w ([own b11 (.cells (bothV oa).toArray 28 (0, 0)), own b13 (.cells (bothV ob).toArray 28 (0, 0))] ++ (bothA oa ++ bothA ob)) w')
      (fun i _ _ => n - i) 0 oa ob ⟨rfl, rfl, rfl, rfl, rfl, rfl, trivial⟩ (fun w' hw => ⟨⟨by omega, hoa, hob⟩, by
        have h2 := hw.pick [[own b13 (.cells (bothV ob).toArray 28 (0, 0))], bothA ob, [own b11 (.cells (bothV oa).toArray 28 (0, 0))], bothA oa, []] [2, 0, 3, 1] 5 rfl (by decide) (by decide)
        exact h2⟩) ?_
  clear hoa hob
  intro i oa ob
  refine WC.pure (fun hi => ?_)
  obtain ⟨hi, hoa, hob⟩ := hi
  refine WC.seq ?_
  refine WC.seq ?_
  refine WC.region ?_
  refine WL.val (OV.move rfl) rfl ?_
  refine WL.val (OV.move rfl) rfl ?_
  first
  | (refine WL.val (OV.lenSlice rfl T.u22) rfl ?_)
  | (refine WL.val (OV.lenStr rfl T.u22) rfl ?_)
  refine WL.val (OV.lss rfl rfl) rfl ?_
  refine WL.val (OV.move rfl) rfl ?_
  refine WL.split (t := 42) rfl (fun g42 => ?_) (fun g42 => ?_)
  · try simp only [decide_eq_true_eq, decide_eq_false_iff_not, Bool.not_eq_true', Bool.not_eq_false'] at g42
    refine WL.go (b := true) rfl rfl rfl ?_
    refine WL.val (OV.move rfl) rfl ?_
    refine WL.go (b := true) rfl rfl rfl ?_
    refine WL.val (OV.lss rfl rfl) rfl ?_
    refine WL.val (OV.pickT rfl rfl) rfl ?_
    refine WL.nil ?_
    refine WX.next ?_
    refine WC.condT (show _ = some (Value.bool true) from by exact congrArg (fun b => some (Value.bool b)) (decide_eq_true (show ((i : Nat) : Int) < 2147483648 by omega))) ?_
    refine WC.skip ?_
    refine WX.next ?_
    refine WC.seq ?_
    refine WC.block ?_
    refine WC.seq ?_
    refine WC.region ?_
    refine WL.val (OV.loadN (cs := bothV oa) rfl T.u28 rfl T.z28 (fun _ hw j v hj => by rw [add_off, Nat.zero_add]; exact own_cells hw (.head _) j v hj)) rfl ?_
    refine WL.alloc T.zr28 rfl ?_
    intro b16
    refine WL.storeAll (vs := bothV oa) rfl rfl rfl T.z28 rfl ?_
    refine WL.nil ?_
    refine WX.next ?_
    refine WC.seq ?_
    refine WC.seq ?_
    refine WC.region ?_
    refine WL.val (OV.move rfl) rfl ?_
    refine WL.val (OV.move rfl) rfl ?_
    obtain ⟨q0, o, rfl, ho, howt, hoat⟩ := hr.get (i := i) (by omega)
    obtain ⟨ra, rc, a1, c1, a2, c2, hcell, hr0, hr1, hr2, hi0, hi1, hi2⟩ := hoat
    have hw0 : o.rr.length + o.cols.length + o.key.length ≤ 1048576 := howt
    have hm0 : o.rr.length ≤ 1048576 := by omega
    have hm1 : o.cols.length ≤ 1048576 := by omega
    have hm2 : o.key.length ≤ 1048576 := by omega
    refine WL.val ((OV.indexSlice rfl rfl T.u22 T.z34 (by omega)).cast (u := .pointer (some (q0.add (i * 7)))) (by rw [Int.toNat_natCast])) rfl ?_
    refine WL.val (OV.fieldAddrA (off := 3) rfl T.u34 rfl) rfl ?_
    refine WL.val (OV.load1 (v := .bool o.two) rfl T.u4 rfl (fun _ hw => hw.keeps _ _ (hcell 3 _ rfl))) rfl ?_
    refine WL.nil ?_
    refine WX.next ?_
    refine WC.cond rfl (fun c53 => ?_) (fun c53 => ?_)
    · try simp only [decide_eq_true_eq, decide_eq_false_iff_not, Bool.not_eq_true', Bool.not_eq_false'] at c53
      refine WC.region ?_
      refine WL.val (OV.loadN (cs := bothV ob) rfl T.u28 rfl T.z28 (fun _ hw j v hj => by rw [add_off, Nat.zero_add]; exact own_cells hw (.tail _ (.tail _ (.head _))) j v hj)) rfl ?_
      refine WL.storeAll (vs := bothV ob) rfl rfl rfl T.z28 rfl ?_
      refine WL.nil ?_
      refine WX.next ?_
      refine WC.seq ?_
      refine WC.seq ?_
      refine WC.region ?_
      first
      | (refine WL.val (OV.fieldAddr0 (off := 0) rfl T.u28 rfl) rfl ?_)
      | (refine WL.val (OV.fieldAddr (off := 0) rfl T.u28 rfl) rfl ?_)
      refine WL.val (OV.load1 (v := pv1 ob) rfl T.u25 rfl (fun _ hw => (cell_at (hw.it _ (.head _)) (o := 0) rfl).1)) rfl ?_
      refine WL.val (OV.eqlPN (pa := ob.map fun z => ⟨z.1.r, 0, none⟩) T.u25 rfl rfl) rfl ?_
      refine WL.nil ?_
      refine WX.next ?_
      refine WC.cond rfl (fun c57 => ?_) (fun c57 => ?_)
      · try simp only [decide_eq_true_eq, decide_eq_false_iff_not, Bool.not_eq_true', Bool.not_eq_false'] at c57
        refine WC.exit ?_
        refine WX.then_exit ?_
        refine WX.block_hit ?_
        refine WX.next ?_
        refine WC.region ?_
        refine WL.val (OV.move rfl) rfl ?_
        refine WL.val (OV.addN (j := 1) rfl rfl (by omega)) rfl ?_
        refine WL.val (OV.assign rfl) rfl ?_
        refine WL.nil ?_
        exact WX.round3 (i + 1) oa ob ⟨rfl, rfl, rfl, rfl, rfl, rfl, trivial⟩ (fun w' hw => ⟨⟨by omega, hoa.up, hob.up⟩, hw.drop⟩) (by show n - (i + 1) < n - i; omega)
      · try simp only [decide_eq_true_eq, decide_eq_false_iff_not, Bool.not_eq_true', Bool.not_eq_false'] at c57
        refine WC.skip ?_
        refine WX.next ?_
        refine WC.seq ?_
        obtain ⟨⟨g, q⟩, rfl⟩ : ∃ z, ob = some z := by
          cases ob with
          | none => simp at c57
          | some z => exact ⟨z, rfl⟩
        refine WC.selfB [5] (by kernel_rfl) (by kernel_rfl) (m := 7) rfl ?_
        refine WH.take 0 rfl (by kernel_rfl) (by kernel_rfl) (by kernel_rfl) (by kernel_rfl) (fun _ h => h) (OV.loadN (cs := bothV (some (g, q))) rfl T.u28 rfl T.z28 (fun _ hw j v hj => by rw [add_off, Nat.zero_add]; exact own_cells hw (.head _) j v hj)) rfl (listed' := [true, false, false, false, false, false, false]) rfl ?_
        refine WH.free 1 rfl (by kernel_rfl) (by kernel_rfl) (by kernel_rfl) rfl (fun _ => (fun _ h => h)) (OV.move rfl) rfl (listed' := [true, true, false, false, false, false, false]) rfl ?_
        refine WH.free 2 rfl (by kernel_rfl) (by kernel_rfl) (by kernel_rfl) rfl (fun _ => (fun _ h => h)) (OV.move rfl) rfl (listed' := [true, true, true, false, false, false, false]) rfl ?_
        refine WH.free 3 rfl (by kernel_rfl) (by kernel_rfl) (by kernel_rfl) rfl (fun _ => (fun _ h => h)) ((OV.indexSlice rfl rfl T.u22 T.z34 (by omega)).cast (u := .pointer (some (q0.add (i * 7)))) (by rw [Int.toNat_natCast])) rfl (listed' := [true, true, true, true, false, false, false]) rfl ?_
        refine WH.take 4 rfl (by kernel_rfl) (by kernel_rfl) (by kernel_rfl) (by kernel_rfl) (fun _ h => h) (OV.loadN (cs := (opC o.kind o.parts o.stop o.two ra o.rr.length rc a1 o.cols.length c1 a2 o.key.length c2)) rfl T.u34 rfl T.z34 (fun _ hw j v hj => hw.keeps _ _ (hcell j v hj))) rfl (listed' := [true, true, true, true, true, false, false]) rfl ?_
        refine WH.only 5 rfl (by kernel_rfl) (listed' := [true, true, true, true, true, true, false]) rfl (fl' := true) rfl ?_
        obtain ⟨ht, hl1, hl2⟩ := hob _ rfl
        have hl1 : g.es.length ≤ i := hl1
        have hl2 : q.cols.length ≤ i := hl2
        refine WL.focus (ow' := (relA g ++ refA q) ++ ([own b16 (.cells (bothV (some (g, q))).toArray 28 (0, 0)), own b11 (.cells (bothV oa).toArray 28 (0, 0)), own b13 (.cells (bothV (some (g, q))).toArray 28 (0, 0))] ++ (bothA oa))) (perm_cat [[own b16 (.cells (bothV (some (g, q))).toArray 28 (0, 0)), own b11 (.cells (bothV oa).toArray 28 (0, 0)), own b13 (.cells (bothV (some (g, q))).toArray 28 (0, 0))], bothA oa, (relA g ++ refA q)] [2, 0, 1] (by decide) rfl) ?_
        refine WL.callTA (ι := RelG × RefG) (vs := [.agg (bothV (some (g, q))).toArray, .agg (opC o.kind o.parts o.stop o.two ra o.rr.length rc a1 o.cols.length c1 a2 o.key.length c2).toArray]) (vv := fun _ => .bool true) (pp := fun z => Tie z.1 z.2 ∧ z.1.r = g.r ∧ z.2.p = q.p ∧ z.1.es.length ≤ g.es.length + 1 ∧ z.2.cols.length ≤ q.cols.length + 1) (relA g ++ refA q) (AA := fun z => relA z.1 ++ refA z.2) rfl (by kernel_rfl) rfl rfl (fun w' hw' hH => (plays_calls g q ht o.kind o.parts o.stop o.two o.rr ra o.rr.length rc o.cols o.key a1 o.cols.length c1 a2 o.key.length c2 hi0 hi1 hi2 hm0 hm1 hm2 (by omega) (by omega) w' (hr0.keeps hw'.keeps) (hr1.keeps hw'.keeps) (hr2.keeps hw'.keeps) (fun b hb hm => Sat.sepI hw' (hr0.lt hb hm)) (fun b hb hm => Sat.sepI hw' (hr1.lt hb hm)) (fun b hb hm => Sat.sepI hw' (hr2.lt hb hm)) hH).mono (fun en w'' ⟨h1, g', q', h2, h3, h4, h5, h6, h7⟩ => ⟨(g', q'), h1, ⟨h2, h3, h4, h5, h6⟩, h7⟩)) ?_
        rintro ⟨g', q'⟩ hpp
        obtain ⟨ht', hgr, hqp, hgl, hql⟩ : Tie g' q' ∧ g'.r = g.r ∧ q'.p = q.p ∧ g'.es.length ≤ g.es.length + 1 ∧ q'.cols.length ≤ q.cols.length + 1 := hpp
        have hbv : bothV (some (g', q')) = bothV (some (g, q)) := by simp [bothV, pv1, pv2, hgr, hqp]
        refine WL.nil ?_
        refine WX.contD (by kernel_rfl) (fun h => by cases h) ?_
        refine WH.free 6 rfl (by kernel_rfl) (by kernel_rfl) (by kernel_rfl) rfl (fun h => by cases h) (OV.assign rfl) rfl (listed' := [true, true, true, true, true, true, true]) rfl ?_
        refine WH.done (by kernel_rfl) ?_
        refine WX.next ?_
        refine WC.seq ?_
        refine WC.region ?_
        refine WL.val (OV.move rfl) rfl ?_
        refine WL.val (OV.not rfl) rfl ?_
        refine WL.nil ?_
        refine WX.next ?_
        refine WC.condF (show _ = some (Value.bool false) from by rfl) ?_
        refine WC.skip ?_
        refine WX.block_normal ?_
        refine WX.next ?_
        refine WC.region ?_
        refine WL.val (OV.move rfl) rfl ?_
        refine WL.val (OV.addN (j := 1) rfl rfl (by omega)) rfl ?_
        refine WL.val (OV.assign rfl) rfl ?_
        refine WL.nil ?_
        exact WX.round3 (i + 1) oa (some (g', q')) ⟨rfl, rfl, rfl, rfl, rfl, rfl, trivial⟩ (fun w' hw => ⟨⟨by omega, hoa.up, fun z hz => by cases hz; exact ⟨ht', by show g'.es.length ≤ i + 1; omega, by show q'.cols.length ≤ i + 1; omega⟩⟩, by rw [hbv]; exact hw.pick [relA g' ++ refA q', [own b16 (.cells (bothV (some (g, q))).toArray 28 (0, 0))], [own b11 (.cells (bothV oa).toArray 28 (0, 0)), own b13 (.cells (bothV (some (g, q))).toArray 28 (0, 0))], bothA oa] [2, 3, 0] 4 rfl (by decide) (by decide)⟩) (by show n - (i + 1) < n - i; omega)
    · try simp only [decide_eq_true_eq, decide_eq_false_iff_not, Bool.not_eq_true', Bool.not_eq_false'] at c53
      refine WC.skip ?_
      refine WX.next ?_
      refine WC.seq ?_
      refine WC.seq ?_
      refine WC.region ?_
      first
      | (refine WL.val (OV.fieldAddr0 (off := 0) rfl T.u28 rfl) rfl ?_)
      | (refine WL.val (OV.fieldAddr (off := 0) rfl T.u28 rfl) rfl ?_)
      refine WL.val (OV.load1 (v := pv1 oa) rfl T.u25 rfl (fun _ hw => (cell_at (hw.it _ (.head _)) (o := 0) rfl).1)) rfl ?_
      refine WL.val (OV.eqlPN (pa := oa.map fun z => ⟨z.1.r, 0, none⟩) T.u25 rfl rfl) rfl ?_
      refine WL.nil ?_
      refine WX.next ?_
      refine WC.cond rfl (fun c57 => ?_) (fun c57 => ?_)
      · try simp only [decide_eq_true_eq, decide_eq_false_iff_not, Bool.not_eq_true', Bool.not_eq_false'] at c57
        refine WC.exit ?_
        refine WX.then_exit ?_
        refine WX.block_hit ?_
        refine WX.next ?_
        refine WC.region ?_
        refine WL.val (OV.move rfl) rfl ?_
        refine WL.val (OV.addN (j := 1) rfl rfl (by omega)) rfl ?_
        refine WL.val (OV.assign rfl) rfl ?_
        refine WL.nil ?_
        exact WX.round3 (i + 1) oa ob ⟨rfl, rfl, rfl, rfl, rfl, rfl, trivial⟩ (fun w' hw => ⟨⟨by omega, hoa.up, hob.up⟩, hw.drop⟩) (by show n - (i + 1) < n - i; omega)
      · try simp only [decide_eq_true_eq, decide_eq_false_iff_not, Bool.not_eq_true', Bool.not_eq_false'] at c57
        refine WC.skip ?_
        refine WX.next ?_
        refine WC.seq ?_
        obtain ⟨⟨g, q⟩, rfl⟩ : ∃ z, oa = some z := by
          cases oa with
          | none => simp at c57
          | some z => exact ⟨z, rfl⟩
        refine WC.selfB [5] (by kernel_rfl) (by kernel_rfl) (m := 7) rfl ?_
        refine WH.take 0 rfl (by kernel_rfl) (by kernel_rfl) (by kernel_rfl) (by kernel_rfl) (fun _ h => h) (OV.loadN (cs := bothV (some (g, q))) rfl T.u28 rfl T.z28 (fun _ hw j v hj => by rw [add_off, Nat.zero_add]; exact own_cells hw (.head _) j v hj)) rfl (listed' := [true, false, false, false, false, false, false]) rfl ?_
        refine WH.free 1 rfl (by kernel_rfl) (by kernel_rfl) (by kernel_rfl) rfl (fun _ => (fun _ h => h)) (OV.move rfl) rfl (listed' := [true, true, false, false, false, false, false]) rfl ?_
        refine WH.free 2 rfl (by kernel_rfl) (by kernel_rfl) (by kernel_rfl) rfl (fun _ => (fun _ h => h)) (OV.move rfl) rfl (listed' := [true, true, true, false, false, false, false]) rfl ?_
        refine WH.free 3 rfl (by kernel_rfl) (by kernel_rfl) (by kernel_rfl) rfl (fun _ => (fun _ h => h)) ((OV.indexSlice rfl rfl T.u22 T.z34 (by omega)).cast (u := .pointer (some (q0.add (i * 7)))) (by rw [Int.toNat_natCast])) rfl (listed' := [true, true, true, true, false, false, false]) rfl ?_
        refine WH.take 4 rfl (by kernel_rfl) (by kernel_rfl) (by kernel_rfl) (by kernel_rfl) (fun _ h => h) (OV.loadN (cs := (opC o.kind o.parts o.stop o.two ra o.rr.length rc a1 o.cols.length c1 a2 o.key.length c2)) rfl T.u34 rfl T.z34 (fun _ hw j v hj => hw.keeps _ _ (hcell j v hj))) rfl (listed' := [true, true, true, true, true, false, false]) rfl ?_
        refine WH.only 5 rfl (by kernel_rfl) (listed' := [true, true, true, true, true, true, false]) rfl (fl' := true) rfl ?_
        obtain ⟨ht, hl1, hl2⟩ := hoa _ rfl
        have hl1 : g.es.length ≤ i := hl1
        have hl2 : q.cols.length ≤ i := hl2
        refine WL.focus (ow' := (relA g ++ refA q) ++ ([own b16 (.cells (bothV (some (g, q))).toArray 28 (0, 0)), own b11 (.cells (bothV (some (g, q))).toArray 28 (0, 0)), own b13 (.cells (bothV ob).toArray 28 (0, 0))] ++ (bothA ob))) (perm_cat [[own b16 (.cells (bothV (some (g, q))).toArray 28 (0, 0)), own b11 (.cells (bothV (some (g, q))).toArray 28 (0, 0)), own b13 (.cells (bothV ob).toArray 28 (0, 0))], (relA g ++ refA q), bothA ob] [1, 0, 2] (by decide) rfl) ?_
        refine WL.callTA (ι := RelG × RefG) (vs := [.agg (bothV (some (g, q))).toArray, .agg (opC o.kind o.parts o.stop o.two ra o.rr.length rc a1 o.cols.length c1 a2 o.key.length c2).toArray]) (vv := fun _ => .bool true) (pp := fun z => Tie z.1 z.2 ∧ z.1.r = g.r ∧ z.2.p = q.p ∧ z.1.es.length ≤ g.es.length + 1 ∧ z.2.cols.length ≤ q.cols.length + 1) (relA g ++ refA q) (AA := fun z => relA z.1 ++ refA z.2) rfl (by kernel_rfl) rfl rfl (fun w' hw' hH => (plays_calls g q ht o.kind o.parts o.stop o.two o.rr ra o.rr.length rc o.cols o.key a1 o.cols.length c1 a2 o.key.length c2 hi0 hi1 hi2 hm0 hm1 hm2 (by omega) (by omega) w' (hr0.keeps hw'.keeps) (hr1.keeps hw'.keeps) (hr2.keeps hw'.keeps) (fun b hb hm => Sat.sepI hw' (hr0.lt hb hm)) (fun b hb hm => Sat.sepI hw' (hr1.lt hb hm)) (fun b hb hm => Sat.sepI hw' (hr2.lt hb hm)) hH).mono (fun en w'' ⟨h1, g', q', h2, h3, h4, h5, h6, h7⟩ => ⟨(g', q'), h1, ⟨h2, h3, h4, h5, h6⟩, h7⟩)) ?_
        rintro ⟨g', q'⟩ hpp
        obtain ⟨ht', hgr, hqp, hgl, hql⟩ : Tie g' q' ∧ g'.r = g.r ∧ q'.p = q.p ∧ g'.es.length ≤ g.es.length + 1 ∧ q'.cols.length ≤ q.cols.length + 1 := hpp
        have hbv : bothV (some (g', q')) = bothV (some (g, q)) := by simp [bothV, pv1, pv2, hgr, hqp]
        refine WL.nil ?_
        refine WX.contD (by kernel_rfl) (fun h => by cases h) ?_
        refine WH.free 6 rfl (by kernel_rfl) (by kernel_rfl) (by kernel_rfl) rfl (fun h => by cases h) (OV.assign rfl) rfl (listed' := [true, true, true, true, true, true, true]) rfl ?_
        refine WH.done (by kernel_rfl) ?_
        refine WX.next ?_
        refine WC.seq ?_
        refine WC.region ?_
        refine WL.val (OV.move rfl) rfl ?_
        refine WL.val (OV.not rfl) rfl ?_
        refine WL.nil ?_
        refine WX.next ?_
        refine WC.condF (show _ = some (Value.bool false) from by rfl) ?_
        refine WC.skip ?_
        refine WX.block_normal ?_
        refine WX.next ?_
        refine WC.region ?_
        refine WL.val (OV.move rfl) rfl ?_
        refine WL.val (OV.addN (j := 1) rfl rfl (by omega)) rfl ?_
        refine WL.val (OV.assign rfl) rfl ?_
        refine WL.nil ?_
        exact WX.round3 (i + 1) (some (g', q')) ob ⟨rfl, rfl, rfl, rfl, rfl, rfl, trivial⟩ (fun w' hw => ⟨⟨by omega, fun z hz => by cases hz; exact ⟨ht', by show g'.es.length ≤ i + 1; omega, by show q'.cols.length ≤ i + 1; omega⟩, hob.up⟩, by rw [hbv]; exact hw.pick [relA g' ++ refA q', [own b16 (.cells (bothV (some (g, q))).toArray 28 (0, 0))], [own b11 (.cells (bothV (some (g, q))).toArray 28 (0, 0)), own b13 (.cells (bothV ob).toArray 28 (0, 0))], bothA ob] [2, 0, 3] 4 rfl (by decide) (by decide)⟩) (by show n - (i + 1) < n - i; omega)
  · try simp only [decide_eq_true_eq, decide_eq_false_iff_not, Bool.not_eq_true', Bool.not_eq_false'] at g42
    refine WL.skip (b := false) rfl rfl rfl rfl ?_
    refine WL.skip (b := false) rfl rfl rfl rfl ?_
    refine WL.val (OV.pickF rfl rfl) rfl ?_
    refine WL.nil ?_
    refine WX.next ?_
    refine WC.condF rfl ?_
    refine WC.exit ?_
    refine WX.then_exit ?_
    refine WX.then_exit ?_
    refine WX.block_hit ?_
    refine WX.next ?_
    refine WC.seq ?_
    refine WC.region ?_
    first
    | (refine WL.val (OV.fieldAddr0 (off := 0) rfl T.u28 rfl) rfl ?_)
    | (refine WL.val (OV.fieldAddr (off := 0) rfl T.u28 rfl) rfl ?_)
    refine WL.val (OV.load1 (v := pv1 oa) rfl T.u25 rfl (fun _ hw => (cell_at (hw.it _ (.head _)) (o := 0) rfl).1)) rfl ?_
    refine WL.val (OV.eqlPN (pa := oa.map fun z => ⟨z.1.r, 0, none⟩) T.u25 rfl rfl) rfl ?_
    refine WL.val (OV.move rfl) rfl ?_
    refine WL.split (t := 85) rfl (fun g85 => ?_) (fun g85 => ?_)
    · try simp only [decide_eq_true_eq, decide_eq_false_iff_not, Bool.not_eq_true', Bool.not_eq_false'] at g85
      refine WL.skip (b := true) rfl rfl rfl rfl ?_
      refine WL.skip (b := true) rfl rfl rfl rfl ?_
      refine WL.val (OV.pickT rfl rfl) rfl ?_
      refine WL.val (OV.move rfl) rfl ?_
      refine WL.go (b := true) rfl rfl rfl ?_
      first
      | (refine WL.val (OV.fieldAddr0 (off := 0) rfl T.u28 rfl) rfl ?_)
      | (refine WL.val (OV.fieldAddr (off := 0) rfl T.u28 rfl) rfl ?_)
      refine WL.go (b := true) rfl rfl rfl ?_
      refine WL.val (OV.load1 (v := pv1 ob) rfl T.u25 rfl (fun _ hw => (cell_at (hw.it _ (.tail _ (.head _))) (o := 0) rfl).1)) rfl ?_
      refine WL.go (b := true) rfl rfl rfl ?_
      refine WL.val (OV.eqlPN (pa := ob.map fun z => ⟨z.1.r, 0, none⟩) T.u25 rfl rfl) rfl ?_
      refine WL.go (b := true) rfl rfl rfl ?_
      refine WL.val (OV.move rfl) rfl ?_
      refine WL.split (t := 93) rfl (fun g93 => ?_) (fun g93 => ?_)
      · try simp only [decide_eq_true_eq, decide_eq_false_iff_not, Bool.not_eq_true', Bool.not_eq_false'] at g93
        refine WL.skip (b := true) rfl rfl rfl rfl ?_
        refine WL.skip (b := true) rfl rfl rfl rfl ?_
        refine WL.go (b := true) rfl rfl rfl ?_
        refine WL.val (OV.pickT rfl rfl) rfl ?_
        refine WL.val (OV.pickT rfl rfl) rfl ?_
        refine WL.val (OV.assign rfl) rfl ?_
        refine WL.nil ?_
        refine WX.next ?_
        refine WC.ret ?_
        exact WX.ret1 rfl rfl rfl (fun w' hw => ⟨rfl, hw.fr⟩)
      · try simp only [decide_eq_true_eq, decide_eq_false_iff_not, Bool.not_eq_true', Bool.not_eq_false'] at g93
        refine WL.go (b := false) rfl rfl rfl ?_
        obtain ⟨⟨h, r⟩, rfl⟩ : ∃ z, ob = some z := by
          cases ob with
          | none => simp at g93
          | some z => exact ⟨z, rfl⟩
        refine WL.val (OV.loadN (cs := bothV (some (h, r))) rfl T.u28 rfl T.z28 (fun _ hw j v hj => by rw [add_off, Nat.zero_add]; exact own_cells hw (.tail _ (.head _)) j v hj)) rfl ?_
        refine WL.go (b := false) rfl rfl rfl ?_
        refine WL.focus (ow' := (relA h ++ refA r) ++ ([own b11 (.cells (bothV oa).toArray 28 (0, 0)), own b13 (.cells (bothV (some (h, r))).toArray 28 (0, 0))] ++ (bothA oa))) (perm_cat [[own b11 (.cells (bothV oa).toArray 28 (0, 0)), own b13 (.cells (bothV (some (h, r))).toArray 28 (0, 0))], bothA oa, (relA h ++ refA r)] [2, 0, 1] (by decide) rfl) ?_
        refine WL.callTA (ι := RelG) (vs := [.agg (bothV (some (h, r))).toArray]) (vv := fun _ => .bool true) (pp := fun z => True) (relA h ++ refA r) (AA := fun z => relA z ++ refA r) rfl (by kernel_rfl) rfl rfl (fun w' hw' hH => (looks_calls h r (hob _ rfl).1 w' hH).mono (fun en w'' ⟨h1, g', h2, h3, h4, h5⟩ => ⟨g', h1, trivial, h5⟩)) ?_
        rintro g95 _
        refine WL.focus (ow' := [own b11 (.cells (bothV oa).toArray 28 (0, 0)), own b13 (.cells (bothV (some (h, r))).toArray 28 (0, 0))] ++ (bothA oa ++ ((relA g95 ++ refA r)))) (perm_cat [(relA g95 ++ refA r), [own b11 (.cells (bothV oa).toArray 28 (0, 0)), own b13 (.cells (bothV (some (h, r))).toArray 28 (0, 0))], bothA oa] [1, 2, 0] (by decide) rfl) ?_
        refine WL.go (b := true) rfl rfl rfl ?_
        refine WL.val (OV.pickF rfl rfl) rfl ?_
        refine WL.val (OV.pickT rfl rfl) rfl ?_
        refine WL.val (OV.assign rfl) rfl ?_
        refine WL.nil ?_
        refine WX.next ?_
        refine WC.ret ?_
        exact WX.ret1 rfl rfl rfl (fun w' hw => ⟨rfl, hw.fr⟩)
    · try simp only [decide_eq_true_eq, decide_eq_false_iff_not, Bool.not_eq_true', Bool.not_eq_false'] at g85
      refine WL.go (b := false) rfl rfl rfl ?_
      obtain ⟨⟨g, q⟩, rfl⟩ : ∃ z, oa = some z := by
        cases oa with
        | none => simp at g85
        | some z => exact ⟨z, rfl⟩
      refine WL.val (OV.loadN (cs := bothV (some (g, q))) rfl T.u28 rfl T.z28 (fun _ hw j v hj => by rw [add_off, Nat.zero_add]; exact own_cells hw (.head _) j v hj)) rfl ?_
      refine WL.go (b := false) rfl rfl rfl ?_
      refine WL.focus (ow' := (relA g ++ refA q) ++ ([own b11 (.cells (bothV (some (g, q))).toArray 28 (0, 0)), own b13 (.cells (bothV ob).toArray 28 (0, 0))] ++ (bothA ob))) (perm_cat [[own b11 (.cells (bothV (some (g, q))).toArray 28 (0, 0)), own b13 (.cells (bothV ob).toArray 28 (0, 0))], (relA g ++ refA q), bothA ob] [1, 0, 2] (by decide) rfl) ?_
      refine WL.callTA (ι := RelG) (vs := [.agg (bothV (some (g, q))).toArray]) (vv := fun _ => .bool true) (pp := fun z => True) (relA g ++ refA q) (AA := fun z => relA z ++ refA q) rfl (by kernel_rfl) rfl rfl (fun w' hw' hH => (looks_calls g q (hoa _ rfl).1 w' hH).mono (fun en w'' ⟨h1, g', h2, h3, h4, h5⟩ => ⟨g', h1, trivial, h5⟩)) ?_
      rintro g87 _
      refine WL.focus (ow' := [own b11 (.cells (bothV (some (g, q))).toArray 28 (0, 0)), own b13 (.cells (bothV ob).toArray 28 (0, 0))] ++ ((relA g87 ++ refA q) ++ (bothA ob))) (perm_cat [(relA g87 ++ refA q), [own b11 (.cells (bothV (some (g, q))).toArray 28 (0, 0)), own b13 (.cells (bothV ob).toArray 28 (0, 0))], bothA ob] [1, 0, 2] (by decide) rfl) ?_
      refine WL.val (OV.pickF rfl rfl) rfl ?_
      refine WL.val (OV.move rfl) rfl ?_
      refine WL.known (t := 89) (b := true) rfl (by rfl) ?_
      refine WL.go (b := true) rfl rfl rfl ?_
      first
      | (refine WL.val (OV.fieldAddr0 (off := 0) rfl T.u28 rfl) rfl ?_)
      | (refine WL.val (OV.fieldAddr (off := 0) rfl T.u28 rfl) rfl ?_)
      refine WL.go (b := true) rfl rfl rfl ?_
      refine WL.val (OV.load1 (v := pv1 ob) rfl T.u25 rfl (fun _ hw => (cell_at (hw.it _ (.tail _ (.head _))) (o := 0) rfl).1)) rfl ?_
      refine WL.go (b := true) rfl rfl rfl ?_
      refine WL.val (OV.eqlPN (pa := ob.map fun z => ⟨z.1.r, 0, none⟩) T.u25 rfl rfl) rfl ?_
      refine WL.go (b := true) rfl rfl rfl ?_
      refine WL.val (OV.move rfl) rfl ?_
      refine WL.split (t := 93) rfl (fun g93 => ?_) (fun g93 => ?_)
      · try simp only [decide_eq_true_eq, decide_eq_false_iff_not, Bool.not_eq_true', Bool.not_eq_false'] at g93
        refine WL.skip (b := true) rfl rfl rfl rfl ?_
        refine WL.skip (b := true) rfl rfl rfl rfl ?_
        refine WL.go (b := true) rfl rfl rfl ?_
        refine WL.val (OV.pickT rfl rfl) rfl ?_
        refine WL.val (OV.pickT rfl rfl) rfl ?_
        refine WL.val (OV.assign rfl) rfl ?_
        refine WL.nil ?_
        refine WX.next ?_
        refine WC.ret ?_
        exact WX.ret1 rfl rfl rfl (fun w' hw => ⟨rfl, hw.fr⟩)
      · try simp only [decide_eq_true_eq, decide_eq_false_iff_not, Bool.not_eq_true', Bool.not_eq_false'] at g93
        refine WL.go (b := false) rfl rfl rfl ?_
        obtain ⟨⟨h, r⟩, rfl⟩ : ∃ z, ob = some z := by
          cases ob with
          | none => simp at g93
          | some z => exact ⟨z, rfl⟩
        refine WL.val (OV.loadN (cs := bothV (some (h, r))) rfl T.u28 rfl T.z28 (fun _ hw j v hj => by rw [add_off, Nat.zero_add]; exact own_cells hw (.tail _ (.head _)) j v hj)) rfl ?_
        refine WL.go (b := false) rfl rfl rfl ?_
        refine WL.focus (ow' := (relA h ++ refA r) ++ ([own b11 (.cells (bothV (some (g, q))).toArray 28 (0, 0)), own b13 (.cells (bothV (some (h, r))).toArray 28 (0, 0))] ++ ((relA g87 ++ refA q)))) (perm_cat [[own b11 (.cells (bothV (some (g, q))).toArray 28 (0, 0)), own b13 (.cells (bothV (some (h, r))).toArray 28 (0, 0))], (relA g87 ++ refA q), (relA h ++ refA r)] [2, 0, 1] (by decide) rfl) ?_
        refine WL.callTA (ι := RelG) (vs := [.agg (bothV (some (h, r))).toArray]) (vv := fun _ => .bool true) (pp := fun z => True) (relA h ++ refA r) (AA := fun z => relA z ++ refA r) rfl (by kernel_rfl) rfl rfl (fun w' hw' hH => (looks_calls h r (hob _ rfl).1 w' hH).mono (fun en w'' ⟨h1, g', h2, h3, h4, h5⟩ => ⟨g', h1, trivial, h5⟩)) ?_
        rintro g95 _
        refine WL.focus (ow' := [own b11 (.cells (bothV (some (g, q))).toArray 28 (0, 0)), own b13 (.cells (bothV (some (h, r))).toArray 28 (0, 0))] ++ ((relA g87 ++ refA q) ++ ((relA g95 ++ refA r)))) (perm_cat [(relA g95 ++ refA r), [own b11 (.cells (bothV (some (g, q))).toArray 28 (0, 0)), own b13 (.cells (bothV (some (h, r))).toArray 28 (0, 0))], (relA g87 ++ refA q)] [1, 2, 0] (by decide) rfl) ?_
        refine WL.go (b := true) rfl rfl rfl ?_
        refine WL.val (OV.pickF rfl rfl) rfl ?_
        refine WL.val (OV.pickT rfl rfl) rfl ?_
        refine WL.val (OV.assign rfl) rfl ?_
        refine WL.nil ?_
        refine WX.next ?_
        refine WC.ret ?_
        exact WX.ret1 rfl rfl rfl (fun w' hw => ⟨rfl, hw.fr⟩)

set_option maxRecDepth 10000 in
theorem relAdds_calls (one two : Int) (hone : -9223372036854775808 ≤ one ∧ one ≤ 9223372036854775807) (htwo : -9223372036854775808 ≤ two ∧ two ≤ 9223372036854775807) (os : List OpR) (a : Option Addr) (n c : Nat) (w : World) (hr : ROs w a n os) : Calls Tryz.prog 3 #[.int .i64 one, .int .i64 two, .slice a n c] w fun e w' => e = .returned (.bool true) ∧ Fr0 w w' := by
  refine enterS (args := [.int .i64 one, .int .i64 two, .slice a n c]) (fun _ => False) Tryz.func3 rfl Tryz.ntmps3 rfl rfl ?_
  refine WC.seq ?_
  refine WC.region ?_
  refine WL.val (OV.assign rfl) rfl ?_
  refine WL.nil ?_
  refine WX.next ?_
  refine WC.seq ?_
  refine WC.region ?_
  refine WL.val (OV.move rfl) rfl ?_
  refine WL.val (OV.move rfl) rfl ?_
  refine WL.val (OV.move rfl) rfl ?_
  refine WL.call0 (v := .bool true) (vs := [.int .i64 one, .int .i64 two, .slice a n c, .int .i64 1, .int .i64 3]) (by kernel_rfl) rfl rfl (fun w' hw' => upTo_calls one two 1 3 hone htwo os a n c w' (hr.keeps hw'.keeps)) ?_
  refine WL.val (OV.assign rfl) rfl ?_
  refine WL.nil ?_
  refine WX.next ?_
  refine WC.ret ?_
  exact WX.ret1 rfl rfl rfl (fun w' hw => ⟨rfl, hw.fr⟩)

set_option maxRecDepth 10000 in
theorem relFinds_calls (one two : Int) (hone : -9223372036854775808 ≤ one ∧ one ≤ 9223372036854775807) (htwo : -9223372036854775808 ≤ two ∧ two ≤ 9223372036854775807) (os : List OpR) (a : Option Addr) (n c : Nat) (w : World) (hr : ROs w a n os) : Calls Tryz.prog 4 #[.int .i64 one, .int .i64 two, .slice a n c] w fun e w' => e = .returned (.bool true) ∧ Fr0 w w' := by
  refine enterS (args := [.int .i64 one, .int .i64 two, .slice a n c]) (fun _ => False) Tryz.func4 rfl Tryz.ntmps4 rfl rfl ?_
  refine WC.seq ?_
  refine WC.region ?_
  refine WL.val (OV.assign rfl) rfl ?_
  refine WL.nil ?_
  refine WX.next ?_
  refine WC.seq ?_
  refine WC.region ?_
  refine WL.val (OV.move rfl) rfl ?_
  refine WL.val (OV.move rfl) rfl ?_
  refine WL.val (OV.move rfl) rfl ?_
  refine WL.call0 (v := .bool true) (vs := [.int .i64 one, .int .i64 two, .slice a n c, .int .i64 6, .int .i64 6]) (by kernel_rfl) rfl rfl (fun w' hw' => upTo_calls one two 6 6 hone htwo os a n c w' (hr.keeps hw'.keeps)) ?_
  refine WL.val (OV.assign rfl) rfl ?_
  refine WL.nil ?_
  refine WX.next ?_
  refine WC.ret ?_
  exact WX.ret1 rfl rfl rfl (fun w' hw => ⟨rfl, hw.fr⟩)

set_option maxRecDepth 10000 in
theorem relAll_calls (one two : Int) (hone : -9223372036854775808 ≤ one ∧ one ≤ 9223372036854775807) (htwo : -9223372036854775808 ≤ two ∧ two ≤ 9223372036854775807) (os : List OpR) (a : Option Addr) (n c : Nat) (w : World) (hr : ROs w a n os) : Calls Tryz.prog 5 #[.int .i64 one, .int .i64 two, .slice a n c] w fun e w' => e = .returned (.bool true) ∧ Fr0 w w' := by
  refine enterS (args := [.int .i64 one, .int .i64 two, .slice a n c]) (fun _ => False) Tryz.func5 rfl Tryz.ntmps5 rfl rfl ?_
  refine WC.seq ?_
  refine WC.region ?_
  refine WL.val (OV.assign rfl) rfl ?_
  refine WL.nil ?_
  refine WX.next ?_
  refine WC.seq ?_
  refine WC.region ?_
  refine WL.val (OV.move rfl) rfl ?_
  refine WL.val (OV.move rfl) rfl ?_
  refine WL.val (OV.move rfl) rfl ?_
  refine WL.call0 (v := .bool true) (vs := [.int .i64 one, .int .i64 two, .slice a n c, .int .i64 1, .int .i64 6]) (by kernel_rfl) rfl rfl (fun w' hw' => upTo_calls one two 1 6 hone htwo os a n c w' (hr.keeps hw'.keeps)) ?_
  refine WL.val (OV.assign rfl) rfl ?_
  refine WL.nil ?_
  refine WX.next ?_
  refine WC.ret ?_
  exact WX.ret1 rfl rfl rfl (fun w' hw => ⟨rfl, hw.fr⟩)

end Go.Proofs.YtijplknkpkmblaaGreatDoor
