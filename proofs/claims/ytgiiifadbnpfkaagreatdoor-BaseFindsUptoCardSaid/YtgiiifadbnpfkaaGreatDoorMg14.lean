/- Contracts of functions of the program: what each returns and leaves in memory. Printed by gen.py and walk.py. -/
import Derived.Test.YtgiiifadbnpfkaaGreatDoorMg13
import Derived.Lib.Bytealg
namespace Go.Proofs.YtgiiifadbnpfkaaGreatDoor
open Go Go.Hw
set_option linter.unusedSimpArgs false
set_option linter.unusedVariables false
theorem _root_.Go.Hw.Holds.fr0 {A : List Hw.Item} {w w' : World} (h : Holds A w) (k : Fr0 w w') : Holds A w' :=
  ⟨fun i hi => i.loc w w' (fun b hb => k.keep b (h.lt i hi b hb) (fun f => f)) (h.φ i hi), fun i hi b hb => Nat.lt_of_lt_of_le (h.lt i hi b hb) k.size, h.disj⟩
/-! ### Terms, atoms -/
structure Tm where
  kind : Int
  n : Int
  s : ByteArray
  deriving DecidableEq
instance : Inhabited Tm := ⟨⟨0, 0, ⟨#[]⟩⟩⟩
structure At where
  b : Tm
  name : ByteArray
  args : List Tm
  deriving DecidableEq
instance : Inhabited At := ⟨⟨default, ⟨#[]⟩, []⟩⟩
structure Pd where
  name : ByteArray
  ar : Nat
  deriving DecidableEq
def tmC (t : Tm) : List Value := [.int .i64 t.kind, .int .i64 t.n, .string t.s]
abbrev tmV (t : Tm) : Value := .agg (tmC t).toArray
def atC (x : At) (a : Option Addr) (c : Nat) : List Value := [.int .i64 x.b.kind, .int .i64 x.b.n, .string x.b.s, .string x.name, .slice a x.args.length c]
abbrev atV (x : At) (a : Option Addr) (c : Nat) : Value := .agg (atC x a c).toArray
def pdC (p : Pd) : List Value := [.string p.name, .int .i64 (p.ar : Int)]
abbrev pdV (p : Pd) : Value := .agg (pdC p).toArray
theorem tmC_len (t : Tm) : (tmC t).length = 3 := rfl
theorem tmC_one (t : Tm) : ∀ v ∈ tmC t, v.oneCell' = true := by simp [tmC, Value.oneCell']
theorem tms_one (ts : List Tm) : ∀ u ∈ ts.flatMap tmC, u.oneCell' = true := by
  intro u hu
  obtain ⟨t, _, h⟩ := List.mem_flatMap.1 hu
  exact tmC_one t u h
/-- Terms that lie one behind the other. -/
structure RT (w : World) (a : Option Addr) (ts : List Tm) : Prop where
  nil : a = none → ts.length = 0
  at_ : ∀ q, a = some q → ∀ i t, ts[i]? = some t → ∀ j v, (tmC t)[j]? = some v → w.cell? ((q.add (i * 3)).add j) = some v
theorem RT.keeps {w w' : World} {a : Option Addr} {ts : List Tm} (h : RT w a ts) (k : Keeps w w') : RT w' a ts := ⟨h.nil, fun q hq i t ht j v hv => k _ _ (h.at_ q hq i t ht j v hv)⟩
theorem RT.get {w : World} {a : Option Addr} {ts : List Tm} (h : RT w a ts) {i : Nat} (hi : i < ts.length) : ∃ q t, a = some q ∧ ts[i]? = some t ∧ t ∈ ts ∧ ts.getD i default = t ∧ ∀ j v, (tmC t)[j]? = some v → w.cell? ((q.add (i * 3)).add j) = some v := by
  cases a with
  | none => have := h.nil rfl; omega
  | some q => exact ⟨q, ts[i], rfl, List.getElem?_eq_getElem hi, List.getElem_mem hi, by simp [hi], h.at_ q rfl i _ (List.getElem?_eq_getElem hi)⟩
theorem add_add (q : Addr) (i j : Nat) : q.add (i + j) = (q.add i).add j := by
  unfold Addr.add
  by_cases hi : i = 0
  · simp [hi]
  · by_cases hj : j = 0
    · simp [hj]
    · simp [hi, hj, Nat.add_assoc]
theorem RT.of_row {w0 ws w : World} {M I : Nat → Prop} {ow : List Hw.Item} {a : Option Addr} {m c : Nat} {ts : List Tm} (hl : ts.length = m) (hw : Sat w0 M I ws ow w) (hm : row 31 3 a m c (ts.flatMap tmC) ∈ ow) : RT w a ts := by
  subst hl
  refine ⟨fun ha => ?_, fun q hq i t ht j v hv => ?_⟩
  · rcases (row_base hw hm).2 with ⟨_, h, _⟩ | ⟨b, hb, _⟩
    · exact h
    · rw [ha] at hb; cases hb
  · subst hq
    have hj : j < 3 := (List.getElem?_eq_some_iff.1 hv).1
    have h1 := row_cells hw hm (i * 3 + j) v (by rw [flat_get tmC_len ts i j t ht hj]; exact hv)
    rwa [add_add] at h1
theorem Src.of_rt {a : Option Addr} {ts : List Tm} {S : World → Prop} (h2 : a = none → ts.length = 0) (h : ∀ w, S w → RT w a ts) : Src S a ts.length 3 (ts.flatMap tmC) := by
  refine ⟨flat_len tmC_len ts, h2, fun w hw b hb j u hj => ?_⟩
  have hj3 : j < ts.length * 3 := by rw [← flat_len tmC_len ts]; exact (List.getElem?_eq_some_iff.1 hj).1
  have hi : j / 3 < ts.length := Nat.div_lt_of_lt_mul (by omega)
  have h0 : j = j / 3 * 3 + j % 3 := by omega
  rw [h0] at hj
  rw [flat_get tmC_len ts (j / 3) (j % 3) _ (List.getElem?_eq_getElem hi) (by omega)] at hj
  have h1 := (h w hw).at_ b hb (j / 3) _ (List.getElem?_eq_getElem hi) (j % 3) u hj
  rwa [← add_add, ← h0] at h1
theorem heap_part {w : World} {b : Nat} {cs cs' : List Value} {T : TypeId} (h : w.heap[b]? = some (.cells cs.toArray T (0, 0))) {o : Nat} (hc : (cs.drop o).take cs'.length = cs') : ∀ j v, cs'[j]? = some v → w.cell? ⟨b, o + j, none⟩ = some v := by
  intro j v hj
  have hl := (List.getElem?_eq_some_iff.1 hj).1
  rw [← hc, List.getElem?_take_of_lt hl, List.getElem?_drop] at hj
  exact (cell_at h (by simpa using hj)).1
/-- A part of a struct that lies in a block of its own. -/
theorem own_part {w0 ws w : World} {M I : Nat → Prop} {ow : List Hw.Item} (h : Sat w0 M I ws ow w) {b : Nat} {cs cs' : List Value} {T : TypeId} {f : Nat × Nat} (hm : own b (.cells cs.toArray T f) ∈ ow) {o : Nat} (hc : (cs.drop o).take cs'.length = cs') : ∀ j v, cs'[j]? = some v → w.cell? ⟨b, o + j, none⟩ = some v := by
  intro j v hj
  refine own_cells h hm (o + j) v ?_
  have hl := (List.getElem?_eq_some_iff.1 hj).1
  rw [← hc, List.getElem?_take_of_lt hl, List.getElem?_drop] at hj
  exact hj

/-! ### Equality of structs; keys -/
theorem s_beq (s u : ByteArray) : (s.toList == u.toList) = decide (s = u) := beq_toList s u
set_option maxRecDepth 100000 in
theorem tm_equal (d : Nat) (a b : Tm) (w : World) : (Op.equalIn (d + 2) 31 (tmV a) (tmV b)).run Tryz.prog w = .ok (decide (a = b)) w := by
  rw [run_equalIn_struct w (d + 1) 31 _ _ (by simp only [Program.fieldsOf, T.u31]) (by kernel_rfl)]
  obtain ⟨k, n, s⟩ := a
  obtain ⟨k', n', s'⟩ := b
  simp only [Program.fieldsOf, T.u31]
  simp [Op.eqFields, part, tmC, run_isAgg T.u3, run_isAgg T.u9, aggD, run_equalIn_int w _ _ _ _ _ _ T.u3, run_equalIn_string w _ _ _ _ T.u9, s_beq]
  by_cases h1 : k = k' <;> by_cases h2 : n = n' <;> by_cases h3 : s = s' <;> simp [h1, h2, h3]
set_option maxRecDepth 100000 in
theorem pd_equal (d : Nat) (a b : Pd) (w : World) : (Op.equalIn (d + 2) 43 (pdV a) (pdV b)).run Tryz.prog w = .ok (decide (a = b)) w := by
  rw [run_equalIn_struct w (d + 1) 43 _ _ (by simp only [Program.fieldsOf, T.u43]) (by kernel_rfl)]
  obtain ⟨s, n⟩ := a
  obtain ⟨s', n'⟩ := b
  simp only [Program.fieldsOf, T.u43]
  simp [Op.eqFields, part, pdC, run_isAgg T.u3, run_isAgg T.u9, aggD, run_equalIn_int w _ _ _ _ _ _ T.u3, run_equalIn_string w _ _ _ _ T.u9, s_beq]
  by_cases h1 : s = s' <;> by_cases h2 : n = n' <;> simp [h1, h2] <;> omega
theorem findAsking_spot {κ : Type} [DecidableEq κ] {P : Program} {kt : TypeId} {enc : κ → Value} (he : ∀ a b w, (Op.equal kt (enc a) (enc b)).run P w = .ok (decide (a = b)) w) (a : κ) (w : World) : ∀ (l : List (κ × Value)) (i : Nat), (Instr.findAsking kt (enc a) (mapEs enc i l) i).run P w = .ok (spot l a i) w
  | [], i => by simp [mapEs, Instr.findAsking, spot]
  | q :: l, i => by
    rw [mapEs_cons]
    have hh := he a q.1 w
    have hh2 := he q.1 a w
    unfold Instr.findAsking spot
    by_cases h : a = q.1
    · simp [Sem.run_bind, hh, hh2, h, he]
    · have h' : ¬ q.1 = a := fun e => h e.symm
      simp [Sem.run_bind, hh, hh2, h, h', he, findAsking_spot he a w l (i + 1)]
theorem KeyLaw.wide {κ : Type} [DecidableEq κ] {P : Program} {kt : TypeId} {cs : κ → List Value} (hw : (match P.underlying kt with | some (.array _ _) | some (.struct _) => true | _ => false) = true) (he : ∀ a b w, (Op.equal kt (.agg (cs a).toArray) (.agg (cs b).toArray)).run P w = .ok (decide (a = b)) w)
    (hc : ∀ b a w, (Instr.checkKey b 10000 kt (.agg (cs a).toArray)).run P w = .ok () w) (hs : ∀ a, Instr.sameBits 10000 (.agg (cs a).toArray) (.agg (cs a).toArray) = true) : KeyLaw P kt (fun a => .agg (cs a).toArray) where
  check := hc
  find a l w := by
    cases hu : P.underlying kt with
    | none => rw [hu] at hw; cases hw
    | some kd =>
      unfold Instr.findKey
      simp only [Sem.run_bind, run_underlying hu, Result.andThen_ok]
      cases l with
      | nil => simp [mapEs, Instr.findNow, spot]
      | cons q l =>
        have hn : Instr.findNow kd (.agg (cs a).toArray) (mapEs (fun a => .agg (cs a).toArray) 0 (q :: l)) 0 = none := by
          rw [mapEs_cons]
          unfold Instr.findNow
          rw [hu] at hw
          cases kd <;> simp at hw <;> simp [Instr.sameNow]
        rw [hn]
        exact findAsking_spot (enc := fun a => .agg (cs a).toArray) he a w (q :: l) 0
  stays := hs
set_option maxRecDepth 100000 in
theorem chk_int (b : Bool) (d : Nat) (k : Int) (w : World) : (Instr.checkKey b (d + 1) 3 (.int .i64 k)).run Tryz.prog w = .ok () w := by
  unfold Instr.checkKey
  simp [Sem.run_bind, run_underlying T.u3]
theorem chk_str (b : Bool) (d : Nat) (k : ByteArray) (w : World) : (Instr.checkKey b (d + 1) 9 (.string k)).run Tryz.prog w = .ok () w := by
  unfold Instr.checkKey
  simp [Sem.run_bind, run_underlying T.u9]
set_option maxRecDepth 100000 in
theorem tm_check (b : Bool) (a : Tm) (w : World) : (Instr.checkKey b 10000 31 (tmV a)).run Tryz.prog w = .ok () w := by
  rw [show (10000 : Nat) = 9998 + 1 + 1 from rfl]
  unfold Instr.checkKey
  simp [Sem.run_bind, run_underlying T.u31, part, tmC, run_isAgg T.u3, run_isAgg T.u9, aggD, chk_int, chk_str]
set_option maxRecDepth 100000 in
theorem pd_check (b : Bool) (a : Pd) (w : World) : (Instr.checkKey b 10000 43 (pdV a)).run Tryz.prog w = .ok () w := by
  rw [show (10000 : Nat) = 9998 + 1 + 1 from rfl]
  unfold Instr.checkKey
  simp [Sem.run_bind, run_underlying T.u43, part, pdC, run_isAgg T.u3, run_isAgg T.u9, aggD, chk_int, chk_str]
theorem sb_int (d : Nat) (k : IntKind) (a : Int) : Instr.sameBits d (.int k a) (.int k a) = true := by
  cases d <;> simp [Instr.sameBits]
theorem sb_str (d : Nat) (a : ByteArray) : Instr.sameBits d (.string a) (.string a) = true := by
  cases d <;> simp [Instr.sameBits, ba_beq]
theorem tmKey : KeyLaw Tryz.prog 31 tmV := KeyLaw.wide (cs := tmC) (by rw [T.u31]) (fun a b w => tm_equal 9998 a b w) tm_check (fun a => by
  rw [show (10000 : Nat) = 9999 + 1 from rfl]
  unfold Instr.sameBits
  simp [tmC, sb_int, sb_str])
theorem pdKey : KeyLaw Tryz.prog 43 pdV := KeyLaw.wide (cs := pdC) (by rw [T.u43]) (fun a b w => pd_equal 9998 a b w) pd_check (fun a => by
  rw [show (10000 : Nat) = 9999 + 1 from rfl]
  unfold Instr.sameBits
  simp [pdC, sb_int, sb_str])
/-- Two terms held against each other. -/
theorem OV.eqlTm {n : Nat} {ds : DS} {e : Env} {S : World → Prop} {dst : Option Tmp} {t : TypeId} {p : String} {af : Array Edge} {g : Option (Nat × Bool)} {x y : Operand} {a b : Tm} (hx : ev e x = some (tmV a)) (hy : ev e y = some (tmV b)) : OV Tryz.prog n ds e S ⟨dst, .binOp .eql 31 x y 31, t, p, af, g⟩ (.bool (decide (a = b))) := fun _ w ha _ => by
  simp [execOp, ha.eval hx, ha.eval hy, run_eqGuard_agg _ _ _ _ _ _ _ (show Program.eqGuardType Tryz.prog (Program.depth Tryz.prog) 31 = false by kernel_rfl), run_eql_struct, tm_equal 9998]
theorem OV.neqTm {n : Nat} {ds : DS} {e : Env} {S : World → Prop} {dst : Option Tmp} {t : TypeId} {p : String} {af : Array Edge} {g : Option (Nat × Bool)} {x y : Operand} {a b : Tm} (hx : ev e x = some (tmV a)) (hy : ev e y = some (tmV b)) : OV Tryz.prog n ds e S ⟨dst, .binOp .neq 31 x y 31, t, p, af, g⟩ (.bool (!decide (a = b))) := fun _ w ha _ => by
  simp [execOp, ha.eval hx, ha.eval hy, run_eqGuard_agg _ _ _ _ _ _ _ (show Program.eqGuardType Tryz.prog (Program.depth Tryz.prog) 31 = false by kernel_rfl), run_neq_struct, tm_equal 9998]
end Go.Proofs.YtgiiifadbnpfkaaGreatDoor

namespace Go.Proofs.YtgiiifadbnpfkaaGreatDoor
open Go Go.Hw
set_option linter.unusedSimpArgs false
set_option linter.unusedVariables false
abbrev E0 : ByteArray := ⟨#[]⟩
def constB (t : Tm) : Bool := if t.kind = 1 then decide (t.s = E0) else if t.kind = 2 then decide (t.n = 0) && decide (t.s.size ≤ 64) else false
def prinB (t : Tm) : Bool := constB t && decide (t.kind = 2) && !decide (t.s = E0)
def varB (t : Tm) : Bool := decide (t.kind = 3) && decide (0 ≤ t.n) && decide (t.s = E0)
def cmpN (a b : Int) : Int := if a < b then -1 else if b < a then 1 else 0
def cmpS (a b : ByteArray) : Int := Lib.compareBytes a.data.toList b.data.toList
/-- The first that is not zero. -/
def orL : List Int → Int
  | [] => 0
  | a :: l => if a ≠ 0 then a else orL l
def cmpT (a b : Tm) : Int := orL [cmpN a.kind b.kind, cmpN a.n b.n, cmpS a.s b.s]
theorem cmpstring_run (a b : ByteArray) (w : World) : (callFunc 118 #[.string a, .string b]).run Tryz.prog w = .ok (.value (.int .i64 (cmpS a b))) w := by
  rw [run_callFunc_extern Tryz.func118 (by kernel_rfl) (by kernel_rfl) (by kernel_rfl) (e := Extern.BytealgCompare.compare) (by kernel_rfl), Lib.run_compareString]
  rfl

set_option maxRecDepth 10000 in
theorem const_calls (t : Tm) (w : World) : Calls Tryz.prog 91 #[tmV t] w fun e w' => e = .returned (.bool (constB t)) ∧ Fr0 w w' := by
  refine enterS (args := [tmV t]) (fun _ => False) Tryz.func91 rfl Tryz.ntmps91 rfl rfl ?_
  refine WC.seq ?_
  refine WC.region ?_
  refine WL.box rfl rfl rfl ?_
  intro b1
  refine WL.val (OV.assign rfl) rfl ?_
  refine WL.nil ?_
  refine WX.next ?_
  refine WC.seq ?_
  refine WC.seq ?_
  refine WC.region ?_
  first
  | (refine WL.val (OV.fieldAddr0 (off := 0) rfl T.u31 rfl) rfl ?_)
  | (refine WL.val (OV.fieldAddr (off := 0) rfl T.u31 rfl) rfl ?_)
  first
  | (refine WL.val (OV.load1 rfl T.u3 rfl (fun _ hw => cell_own hw (.head _) rfl)) rfl ?_)
  | (refine WL.val (OV.load1 rfl T.u3 rfl (fun _ hw => cell_own hw (.tail _ (.head _)) rfl)) rfl ?_)
  | (refine WL.val (OV.load1 rfl T.u3 rfl (fun _ hw => cell_own hw (.tail _ (.tail _ (.head _))) rfl)) rfl ?_)
  | (refine WL.val (OV.load1 rfl T.u3 rfl (fun _ hw => cell_own hw (.tail _ (.tail _ (.tail _ (.head _)))) rfl)) rfl ?_)
  refine WL.nil ?_
  refine WX.next ?_
  refine WC.block ?_
  refine WC.seq ?_
  refine WC.region ?_
  refine WL.val (OV.eql rfl rfl) rfl ?_
  refine WL.val (OV.assign rfl) rfl ?_
  refine WL.nil ?_
  refine WX.next ?_
  refine WC.cond rfl (fun c5 => ?_) (fun c5 => ?_)
  · try simp only [decide_eq_true_eq, decide_eq_false_iff_not, Bool.not_eq_true', Bool.not_eq_false'] at c5
    refine WC.seq ?_
    refine WC.region ?_
    first
    | (refine WL.val (OV.fieldAddr0 (off := 2) rfl T.u31 rfl) rfl ?_)
    | (refine WL.val (OV.fieldAddr (off := 2) rfl T.u31 rfl) rfl ?_)
    first
    | (refine WL.val (OV.load1 rfl T.u9 rfl (fun _ hw => cell_own hw (.head _) rfl)) rfl ?_)
    | (refine WL.val (OV.load1 rfl T.u9 rfl (fun _ hw => cell_own hw (.tail _ (.head _)) rfl)) rfl ?_)
    | (refine WL.val (OV.load1 rfl T.u9 rfl (fun _ hw => cell_own hw (.tail _ (.tail _ (.head _))) rfl)) rfl ?_)
    | (refine WL.val (OV.load1 rfl T.u9 rfl (fun _ hw => cell_own hw (.tail _ (.tail _ (.tail _ (.head _)))) rfl)) rfl ?_)
    refine WL.val (OV.eqlS rfl rfl) rfl ?_
    refine WL.val (OV.assign rfl) rfl ?_
    refine WL.nil ?_
    refine WX.next ?_
    refine WC.ret ?_
    refine WX.block_ret ?_
    refine WX.then_ret ?_
    exact WX.ret1 rfl rfl rfl (fun w' hw => ⟨by clear hw; simp_all [constB] <;> omega, hw.fr⟩)
  · try simp only [decide_eq_true_eq, decide_eq_false_iff_not, Bool.not_eq_true', Bool.not_eq_false'] at c5
    refine WC.seq ?_
    refine WC.region ?_
    refine WL.val (OV.eql rfl rfl) rfl ?_
    refine WL.val (OV.assign rfl) rfl ?_
    refine WL.nil ?_
    refine WX.next ?_
    refine WC.cond rfl (fun c10 => ?_) (fun c10 => ?_)
    · try simp only [decide_eq_true_eq, decide_eq_false_iff_not, Bool.not_eq_true', Bool.not_eq_false'] at c10
      refine WC.seq ?_
      refine WC.region ?_
      first
      | (refine WL.val (OV.fieldAddr0 (off := 1) rfl T.u31 rfl) rfl ?_)
      | (refine WL.val (OV.fieldAddr (off := 1) rfl T.u31 rfl) rfl ?_)
      first
      | (refine WL.val (OV.load1 rfl T.u3 rfl (fun _ hw => cell_own hw (.head _) rfl)) rfl ?_)
      | (refine WL.val (OV.load1 rfl T.u3 rfl (fun _ hw => cell_own hw (.tail _ (.head _)) rfl)) rfl ?_)
      | (refine WL.val (OV.load1 rfl T.u3 rfl (fun _ hw => cell_own hw (.tail _ (.tail _ (.head _))) rfl)) rfl ?_)
      | (refine WL.val (OV.load1 rfl T.u3 rfl (fun _ hw => cell_own hw (.tail _ (.tail _ (.tail _ (.head _)))) rfl)) rfl ?_)
      refine WL.val (OV.eql rfl rfl) rfl ?_
      refine WL.val (OV.move rfl) rfl ?_
      refine WL.split (t := 15) rfl (fun g15 => ?_) (fun g15 => ?_)
      · try simp only [decide_eq_true_eq, decide_eq_false_iff_not, Bool.not_eq_true', Bool.not_eq_false'] at g15
        refine WL.go (b := true) rfl rfl rfl ?_
        first
        | (refine WL.val (OV.fieldAddr0 (off := 2) rfl T.u31 rfl) rfl ?_)
        | (refine WL.val (OV.fieldAddr (off := 2) rfl T.u31 rfl) rfl ?_)
        refine WL.go (b := true) rfl rfl rfl ?_
        first
        | (refine WL.val (OV.load1 rfl T.u9 rfl (fun _ hw => cell_own hw (.head _) rfl)) rfl ?_)
        | (refine WL.val (OV.load1 rfl T.u9 rfl (fun _ hw => cell_own hw (.tail _ (.head _)) rfl)) rfl ?_)
        | (refine WL.val (OV.load1 rfl T.u9 rfl (fun _ hw => cell_own hw (.tail _ (.tail _ (.head _))) rfl)) rfl ?_)
        | (refine WL.val (OV.load1 rfl T.u9 rfl (fun _ hw => cell_own hw (.tail _ (.tail _ (.tail _ (.head _)))) rfl)) rfl ?_)
        refine WL.go (b := true) rfl rfl rfl ?_
        first
        | (refine WL.val (OV.lenSlice rfl T.u9) rfl ?_)
        | (refine WL.val (OV.lenStr rfl T.u9) rfl ?_)
        refine WL.go (b := true) rfl rfl rfl ?_
        refine WL.val (OV.leq rfl rfl) rfl ?_
        refine WL.val (OV.pickT rfl rfl) rfl ?_
        refine WL.val (OV.assign rfl) rfl ?_
        refine WL.nil ?_
        refine WX.next ?_
        refine WC.ret ?_
        refine WX.block_ret ?_
        refine WX.then_ret ?_
        exact WX.ret1 rfl rfl rfl (fun w' hw => ⟨by clear hw; simp_all [constB] <;> omega, hw.fr⟩)
      · try simp only [decide_eq_true_eq, decide_eq_false_iff_not, Bool.not_eq_true', Bool.not_eq_false'] at g15
        refine WL.skip (b := false) rfl rfl rfl rfl ?_
        refine WL.skip (b := false) rfl rfl rfl rfl ?_
        refine WL.skip (b := false) rfl rfl rfl rfl ?_
        refine WL.skip (b := false) rfl rfl rfl rfl ?_
        refine WL.val (OV.pickF rfl rfl) rfl ?_
        refine WL.val (OV.assign rfl) rfl ?_
        refine WL.nil ?_
        refine WX.next ?_
        refine WC.ret ?_
        refine WX.block_ret ?_
        refine WX.then_ret ?_
        exact WX.ret1 rfl rfl rfl (fun w' hw => ⟨by clear hw; simp_all [constB] <;> omega, hw.fr⟩)
    · try simp only [decide_eq_true_eq, decide_eq_false_iff_not, Bool.not_eq_true', Bool.not_eq_false'] at c10
      refine WC.skip ?_
      refine WX.block_normal ?_
      refine WX.next ?_
      refine WC.seq ?_
      refine WC.region ?_
      refine WL.val (OV.assign rfl) rfl ?_
      refine WL.nil ?_
      refine WX.next ?_
      refine WC.ret ?_
      exact WX.ret1 rfl rfl rfl (fun w' hw => ⟨by clear hw; simp_all [constB] <;> omega, hw.fr⟩)

set_option maxRecDepth 10000 in
theorem prin_calls (t : Tm) (w : World) : Calls Tryz.prog 89 #[tmV t] w fun e w' => e = .returned (.bool (prinB t)) ∧ Fr0 w w' := by
  refine enterS (args := [tmV t]) (fun _ => False) Tryz.func89 rfl Tryz.ntmps89 rfl rfl ?_
  refine WC.seq ?_
  refine WC.region ?_
  refine WL.box rfl rfl rfl ?_
  intro b1
  refine WL.val (OV.assign rfl) rfl ?_
  refine WL.nil ?_
  refine WX.next ?_
  refine WC.seq ?_
  refine WC.region ?_
  refine WL.val (OV.loadN (cs := tmC t) rfl T.u31 rfl T.z31 (fun _ hw j v hj => by rw [add_off, Nat.zero_add]; exact own_cells hw (.head _) j v hj)) rfl ?_
  refine WL.call0 (v := .bool (constB t)) (by kernel_rfl) rfl rfl (fun w' hw' => const_calls t w') ?_
  refine WL.val (OV.move rfl) rfl ?_
  refine WL.split (t := 5) rfl (fun g5 => ?_) (fun g5 => ?_)
  · try simp only [decide_eq_true_eq, decide_eq_false_iff_not, Bool.not_eq_true', Bool.not_eq_false'] at g5
    refine WL.go (b := true) rfl rfl rfl ?_
    first
    | (refine WL.val (OV.fieldAddr0 (off := 0) rfl T.u31 rfl) rfl ?_)
    | (refine WL.val (OV.fieldAddr (off := 0) rfl T.u31 rfl) rfl ?_)
    refine WL.go (b := true) rfl rfl rfl ?_
    first
    | (refine WL.val (OV.load1 rfl T.u3 rfl (fun _ hw => cell_own hw (.head _) rfl)) rfl ?_)
    | (refine WL.val (OV.load1 rfl T.u3 rfl (fun _ hw => cell_own hw (.tail _ (.head _)) rfl)) rfl ?_)
    | (refine WL.val (OV.load1 rfl T.u3 rfl (fun _ hw => cell_own hw (.tail _ (.tail _ (.head _))) rfl)) rfl ?_)
    | (refine WL.val (OV.load1 rfl T.u3 rfl (fun _ hw => cell_own hw (.tail _ (.tail _ (.tail _ (.head _)))) rfl)) rfl ?_)
    refine WL.go (b := true) rfl rfl rfl ?_
    refine WL.val (OV.eql rfl rfl) rfl ?_
    refine WL.val (OV.pickT rfl rfl) rfl ?_
    refine WL.val (OV.move rfl) rfl ?_
    refine WL.split (t := 10) rfl (fun g10 => ?_) (fun g10 => ?_)
    · try simp only [decide_eq_true_eq, decide_eq_false_iff_not, Bool.not_eq_true', Bool.not_eq_false'] at g10
      refine WL.go (b := true) rfl rfl rfl ?_
      first
      | (refine WL.val (OV.fieldAddr0 (off := 2) rfl T.u31 rfl) rfl ?_)
      | (refine WL.val (OV.fieldAddr (off := 2) rfl T.u31 rfl) rfl ?_)
      refine WL.go (b := true) rfl rfl rfl ?_
      first
      | (refine WL.val (OV.load1 rfl T.u9 rfl (fun _ hw => cell_own hw (.head _) rfl)) rfl ?_)
      | (refine WL.val (OV.load1 rfl T.u9 rfl (fun _ hw => cell_own hw (.tail _ (.head _)) rfl)) rfl ?_)
      | (refine WL.val (OV.load1 rfl T.u9 rfl (fun _ hw => cell_own hw (.tail _ (.tail _ (.head _))) rfl)) rfl ?_)
      | (refine WL.val (OV.load1 rfl T.u9 rfl (fun _ hw => cell_own hw (.tail _ (.tail _ (.tail _ (.head _)))) rfl)) rfl ?_)
      refine WL.go (b := true) rfl rfl rfl ?_
      refine WL.val (OV.neqS rfl rfl) rfl ?_
      refine WL.val (OV.pickT rfl rfl) rfl ?_
      refine WL.val (OV.assign rfl) rfl ?_
      refine WL.nil ?_
      refine WX.next ?_
      refine WC.ret ?_
      exact WX.ret1 rfl rfl rfl (fun w' hw => ⟨by clear hw; simp_all [prinB] <;> omega, hw.fr⟩)
    · try simp only [decide_eq_true_eq, decide_eq_false_iff_not, Bool.not_eq_true', Bool.not_eq_false'] at g10
      refine WL.skip (b := false) rfl rfl rfl rfl ?_
      refine WL.skip (b := false) rfl rfl rfl rfl ?_
      refine WL.skip (b := false) rfl rfl rfl rfl ?_
      refine WL.val (OV.pickF rfl rfl) rfl ?_
      refine WL.val (OV.assign rfl) rfl ?_
      refine WL.nil ?_
      refine WX.next ?_
      refine WC.ret ?_
      exact WX.ret1 rfl rfl rfl (fun w' hw => ⟨by clear hw; simp_all [prinB] <;> omega, hw.fr⟩)
  · try simp only [decide_eq_true_eq, decide_eq_false_iff_not, Bool.not_eq_true', Bool.not_eq_false'] at g5
    refine WL.skip (b := false) rfl rfl rfl rfl ?_
    refine WL.skip (b := false) rfl rfl rfl rfl ?_
    refine WL.skip (b := false) rfl rfl rfl rfl ?_
    refine WL.val (OV.pickF rfl rfl) rfl ?_
    refine WL.val (OV.move rfl) rfl ?_
    refine WL.skip (b := false) rfl rfl rfl rfl ?_
    refine WL.skip (b := false) rfl rfl rfl rfl ?_
    refine WL.skip (b := false) rfl rfl rfl rfl ?_
    refine WL.val (OV.pickF rfl rfl) rfl ?_
    refine WL.val (OV.assign rfl) rfl ?_
    refine WL.nil ?_
    refine WX.next ?_
    refine WC.ret ?_
    exact WX.ret1 rfl rfl rfl (fun w' hw => ⟨by clear hw; simp_all [prinB] <;> omega, hw.fr⟩)

set_option maxRecDepth 10000 in
theorem var_calls (t : Tm) (w : World) : Calls Tryz.prog 48 #[tmV t] w fun e w' => e = .returned (.bool (varB t)) ∧ Fr0 w w' := by
  refine enterS (args := [tmV t]) (fun _ => False) Tryz.func48 rfl Tryz.ntmps48 rfl rfl ?_
  refine WC.seq ?_
  refine WC.region ?_
  refine WL.box rfl rfl rfl ?_
  intro b1
  refine WL.val (OV.assign rfl) rfl ?_
  refine WL.nil ?_
  refine WX.next ?_
  refine WC.seq ?_
  refine WC.region ?_
  first
  | (refine WL.val (OV.fieldAddr0 (off := 0) rfl T.u31 rfl) rfl ?_)
  | (refine WL.val (OV.fieldAddr (off := 0) rfl T.u31 rfl) rfl ?_)
  first
  | (refine WL.val (OV.load1 rfl T.u3 rfl (fun _ hw => cell_own hw (.head _) rfl)) rfl ?_)
  | (refine WL.val (OV.load1 rfl T.u3 rfl (fun _ hw => cell_own hw (.tail _ (.head _)) rfl)) rfl ?_)
  | (refine WL.val (OV.load1 rfl T.u3 rfl (fun _ hw => cell_own hw (.tail _ (.tail _ (.head _))) rfl)) rfl ?_)
  | (refine WL.val (OV.load1 rfl T.u3 rfl (fun _ hw => cell_own hw (.tail _ (.tail _ (.tail _ (.head _)))) rfl)) rfl ?_)
  refine WL.val (OV.eql rfl rfl) rfl ?_
  refine WL.val (OV.move rfl) rfl ?_
  refine WL.split (t := 6) rfl (fun g6 => ?_) (fun g6 => ?_)
  · try simp only [decide_eq_true_eq, decide_eq_false_iff_not, Bool.not_eq_true', Bool.not_eq_false'] at g6
    refine WL.go (b := true) rfl rfl rfl ?_
    first
    | (refine WL.val (OV.fieldAddr0 (off := 1) rfl T.u31 rfl) rfl ?_)
    | (refine WL.val (OV.fieldAddr (off := 1) rfl T.u31 rfl) rfl ?_)
    refine WL.go (b := true) rfl rfl rfl ?_
    first
    | (refine WL.val (OV.load1 rfl T.u3 rfl (fun _ hw => cell_own hw (.head _) rfl)) rfl ?_)
    | (refine WL.val (OV.load1 rfl T.u3 rfl (fun _ hw => cell_own hw (.tail _ (.head _)) rfl)) rfl ?_)
    | (refine WL.val (OV.load1 rfl T.u3 rfl (fun _ hw => cell_own hw (.tail _ (.tail _ (.head _))) rfl)) rfl ?_)
    | (refine WL.val (OV.load1 rfl T.u3 rfl (fun _ hw => cell_own hw (.tail _ (.tail _ (.tail _ (.head _)))) rfl)) rfl ?_)
    refine WL.go (b := true) rfl rfl rfl ?_
    refine WL.val (OV.geq rfl rfl) rfl ?_
    refine WL.val (OV.pickT rfl rfl) rfl ?_
    refine WL.val (OV.move rfl) rfl ?_
    refine WL.split (t := 11) rfl (fun g11 => ?_) (fun g11 => ?_)
    · try simp only [decide_eq_true_eq, decide_eq_false_iff_not, Bool.not_eq_true', Bool.not_eq_false'] at g11
      refine WL.go (b := true) rfl rfl rfl ?_
      first
      | (refine WL.val (OV.fieldAddr0 (off := 2) rfl T.u31 rfl) rfl ?_)
      | (refine WL.val (OV.fieldAddr (off := 2) rfl T.u31 rfl) rfl ?_)
      refine WL.go (b := true) rfl rfl rfl ?_
      first
      | (refine WL.val (OV.load1 rfl T.u9 rfl (fun _ hw => cell_own hw (.head _) rfl)) rfl ?_)
      | (refine WL.val (OV.load1 rfl T.u9 rfl (fun _ hw => cell_own hw (.tail _ (.head _)) rfl)) rfl ?_)
      | (refine WL.val (OV.load1 rfl T.u9 rfl (fun _ hw => cell_own hw (.tail _ (.tail _ (.head _))) rfl)) rfl ?_)
      | (refine WL.val (OV.load1 rfl T.u9 rfl (fun _ hw => cell_own hw (.tail _ (.tail _ (.tail _ (.head _)))) rfl)) rfl ?_)
      refine WL.go (b := true) rfl rfl rfl ?_
      refine WL.val (OV.eqlS rfl rfl) rfl ?_
      refine WL.val (OV.pickT rfl rfl) rfl ?_
      refine WL.val (OV.assign rfl) rfl ?_
      refine WL.nil ?_
      refine WX.next ?_
      refine WC.ret ?_
      exact WX.ret1 rfl rfl rfl (fun w' hw => ⟨by clear hw; simp_all [varB] <;> omega, hw.fr⟩)
    · try simp only [decide_eq_true_eq, decide_eq_false_iff_not, Bool.not_eq_true', Bool.not_eq_false'] at g11
      refine WL.skip (b := false) rfl rfl rfl rfl ?_
      refine WL.skip (b := false) rfl rfl rfl rfl ?_
      refine WL.skip (b := false) rfl rfl rfl rfl ?_
      refine WL.val (OV.pickF rfl rfl) rfl ?_
      refine WL.val (OV.assign rfl) rfl ?_
      refine WL.nil ?_
      refine WX.next ?_
      refine WC.ret ?_
      exact WX.ret1 rfl rfl rfl (fun w' hw => ⟨by clear hw; simp_all [varB] <;> omega, hw.fr⟩)
  · try simp only [decide_eq_true_eq, decide_eq_false_iff_not, Bool.not_eq_true', Bool.not_eq_false'] at g6
    refine WL.skip (b := false) rfl rfl rfl rfl ?_
    refine WL.skip (b := false) rfl rfl rfl rfl ?_
    refine WL.skip (b := false) rfl rfl rfl rfl ?_
    refine WL.val (OV.pickF rfl rfl) rfl ?_
    refine WL.val (OV.move rfl) rfl ?_
    refine WL.skip (b := false) rfl rfl rfl rfl ?_
    refine WL.skip (b := false) rfl rfl rfl rfl ?_
    refine WL.skip (b := false) rfl rfl rfl rfl ?_
    refine WL.val (OV.pickF rfl rfl) rfl ?_
    refine WL.val (OV.assign rfl) rfl ?_
    refine WL.nil ?_
    refine WX.next ?_
    refine WC.ret ?_
    exact WX.ret1 rfl rfl rfl (fun w' hw => ⟨by clear hw; simp_all [varB] <;> omega, hw.fr⟩)

set_option maxRecDepth 10000 in
theorem isNaN_calls (a : Int) (w : World) : Calls Tryz.prog 75 #[.int .i64 a] w fun e w' => e = .returned (.bool false) ∧ Fr0 w w' := by
  refine enterS (args := [.int .i64 a]) (fun _ => False) Tryz.func75 rfl Tryz.ntmps75 rfl rfl ?_
  refine WC.seq ?_
  refine WC.region ?_
  refine WL.val (OV.assign rfl) rfl ?_
  refine WL.nil ?_
  refine WX.next ?_
  refine WC.seq ?_
  refine WC.region ?_
  refine WL.val (OV.move rfl) rfl ?_
  refine WL.val (OV.move rfl) rfl ?_
  refine WL.val (OV.neq rfl rfl) rfl ?_
  refine WL.val (OV.assign rfl) rfl ?_
  refine WL.nil ?_
  refine WX.next ?_
  refine WC.ret ?_
  exact WX.ret1 rfl rfl rfl (fun w' hw => ⟨by clear hw; simp_all [] <;> omega, hw.fr⟩)

set_option maxRecDepth 10000 in
theorem cmpN_calls (a b : Int) (w : World) : Calls Tryz.prog 47 #[.int .i64 a, .int .i64 b] w fun e w' => e = .returned (.int .i64 (cmpN a b)) ∧ Fr0 w w' := by
  refine enterS (args := [.int .i64 a, .int .i64 b]) (fun _ => False) Tryz.func47 rfl Tryz.ntmps47 rfl rfl ?_
  refine WC.seq ?_
  refine WC.region ?_
  refine WL.val (OV.assign rfl) rfl ?_
  refine WL.nil ?_
  refine WX.next ?_
  refine WC.seq ?_
  refine WC.region ?_
  refine WL.val (OV.move rfl) rfl ?_
  refine WL.call0 (v := .bool false) (by kernel_rfl) rfl rfl (fun w' hw' => isNaN_calls _ w') ?_
  refine WL.val (OV.assign rfl) rfl ?_
  refine WL.nil ?_
  refine WX.next ?_
  refine WC.seq ?_
  refine WC.region ?_
  refine WL.val (OV.move rfl) rfl ?_
  refine WL.call0 (v := .bool false) (by kernel_rfl) rfl rfl (fun w' hw' => isNaN_calls _ w') ?_
  refine WL.val (OV.assign rfl) rfl ?_
  refine WL.nil ?_
  refine WX.next ?_
  refine WC.seq ?_
  refine WC.seq ?_
  refine WC.region ?_
  refine WL.val (OV.move rfl) rfl ?_
  refine WL.nil ?_
  refine WX.next ?_
  refine WC.condF rfl ?_
  refine WC.skip ?_
  refine WX.next ?_
  refine WC.seq ?_
  refine WC.seq ?_
  refine WC.region ?_
  refine WL.val (OV.move rfl) rfl ?_
  refine WL.nil ?_
  refine WX.next ?_
  refine WC.condF rfl ?_
  refine WC.skip ?_
  refine WX.next ?_
  refine WC.seq ?_
  refine WC.seq ?_
  refine WC.region ?_
  refine WL.val (OV.move rfl) rfl ?_
  refine WL.val (OV.move rfl) rfl ?_
  refine WL.val (OV.lss rfl rfl) rfl ?_
  refine WL.nil ?_
  refine WX.next ?_
  refine WC.cond rfl (fun c16 => ?_) (fun c16 => ?_)
  · try simp only [decide_eq_true_eq, decide_eq_false_iff_not, Bool.not_eq_true', Bool.not_eq_false'] at c16
    refine WC.seq ?_
    refine WC.region ?_
    refine WL.val (OV.assign rfl) rfl ?_
    refine WL.nil ?_
    refine WX.next ?_
    refine WC.ret ?_
    refine WX.then_ret ?_
    exact WX.ret1 rfl rfl rfl (fun w' hw => ⟨by clear hw; congr 2; unfold cmpN; split <;> (try split) <;> omega, hw.fr⟩)
  · try simp only [decide_eq_true_eq, decide_eq_false_iff_not, Bool.not_eq_true', Bool.not_eq_false'] at c16
    refine WC.skip ?_
    refine WX.next ?_
    refine WC.seq ?_
    refine WC.seq ?_
    refine WC.region ?_
    refine WL.val (OV.move rfl) rfl ?_
    refine WL.val (OV.move rfl) rfl ?_
    refine WL.val (OV.gtr rfl rfl) rfl ?_
    refine WL.nil ?_
    refine WX.next ?_
    refine WC.cond rfl (fun c19 => ?_) (fun c19 => ?_)
    · try simp only [decide_eq_true_eq, decide_eq_false_iff_not, Bool.not_eq_true', Bool.not_eq_false'] at c19
      refine WC.seq ?_
      refine WC.region ?_
      refine WL.val (OV.assign rfl) rfl ?_
      refine WL.nil ?_
      refine WX.next ?_
      refine WC.ret ?_
      refine WX.then_ret ?_
      exact WX.ret1 rfl rfl rfl (fun w' hw => ⟨by clear hw; congr 2; unfold cmpN; split <;> (try split) <;> omega, hw.fr⟩)
    · try simp only [decide_eq_true_eq, decide_eq_false_iff_not, Bool.not_eq_true', Bool.not_eq_false'] at c19
      refine WC.skip ?_
      refine WX.next ?_
      refine WC.seq ?_
      refine WC.region ?_
      refine WL.val (OV.assign rfl) rfl ?_
      refine WL.nil ?_
      refine WX.next ?_
      refine WC.ret ?_
      exact WX.ret1 rfl rfl rfl (fun w' hw => ⟨by clear hw; congr 2; unfold cmpN; split <;> (try split) <;> omega, hw.fr⟩)

set_option maxRecDepth 10000 in
theorem bcmp_calls (a b : ByteArray) (w : World) : Calls Tryz.prog 74 #[.string a, .string b] w fun e w' => e = .returned (.int .i64 (cmpS a b)) ∧ Fr0 w w' := by
  refine enterS (args := [.string a, .string b]) (fun _ => False) Tryz.func74 rfl Tryz.ntmps74 rfl rfl ?_
  refine WC.seq ?_
  refine WC.region ?_
  refine WL.val (OV.assign rfl) rfl ?_
  refine WL.nil ?_
  refine WX.next ?_
  refine WC.seq ?_
  refine WC.region ?_
  refine WL.val (OV.move rfl) rfl ?_
  refine WL.val (OV.move rfl) rfl ?_
  refine WL.extern0 rfl rfl (fun w' _ => cmpstring_run a b w') ?_
  refine WL.val (OV.assign rfl) rfl ?_
  refine WL.nil ?_
  refine WX.next ?_
  refine WC.ret ?_
  exact WX.ret1 rfl rfl rfl (fun w' hw => ⟨rfl, hw.fr⟩)

set_option maxRecDepth 10000 in
theorem scmp_calls (a b : ByteArray) (w : World) : Calls Tryz.prog 46 #[.string a, .string b] w fun e w' => e = .returned (.int .i64 (cmpS a b)) ∧ Fr0 w w' := by
  refine enterS (args := [.string a, .string b]) (fun _ => False) Tryz.func46 rfl Tryz.ntmps46 rfl rfl ?_
  refine WC.seq ?_
  refine WC.region ?_
  refine WL.val (OV.assign rfl) rfl ?_
  refine WL.nil ?_
  refine WX.next ?_
  refine WC.seq ?_
  refine WC.region ?_
  refine WL.val (OV.move rfl) rfl ?_
  refine WL.val (OV.move rfl) rfl ?_
  refine WL.call0 (v := .int .i64 (cmpS a b)) (by kernel_rfl) rfl rfl (fun w' hw' => bcmp_calls a b w') ?_
  refine WL.val (OV.assign rfl) rfl ?_
  refine WL.nil ?_
  refine WX.next ?_
  refine WC.ret ?_
  exact WX.ret1 rfl rfl rfl (fun w' hw => ⟨rfl, hw.fr⟩)

theorem orL_at {l : List Int} {i : Nat} (h : ∀ j, j < i → l.getD j 0 = 0) (hi : i < l.length) (hv : l.getD i 0 ≠ 0) : orL l = l.getD i 0 := by
  induction l generalizing i with
  | nil => simp at hi
  | cons a l ih =>
    cases i with
    | zero => simp only [List.getD_cons_zero] at hv ⊢; simp [orL, hv]
    | succ i =>
      have h0 : a = 0 := by simpa using h 0 (by omega)
      rw [orL, if_neg (by simpa using h0)]
      simp only [List.getD_cons_succ] at hv ⊢
      exact ih (fun j hj => by simpa using h (j + 1) (by omega)) (by simpa using hi) hv
theorem orL_zero {l : List Int} (h : ∀ j, j < l.length → l.getD j 0 = 0) : orL l = 0 := by
  induction l with
  | nil => rfl
  | cons a l ih =>
    have h0 : a = 0 := by simpa using h 0 (by simp)
    rw [orL, if_neg (by simpa using h0)]
    exact ih (fun j hj => by simpa using h (j + 1) (by simpa using hj))

theorem ints_get' {l : List Int} {i : Nat} (h : i < l.length) : (ints l)[i]? = some (.int .i64 (l.getD i 0)) := ints_get (by rw [List.getD_eq_getElem?_getD, List.getElem?_eq_getElem h]; rfl)

set_option maxRecDepth 10000 in
theorem or_calls (l : List Int) (b : Nat) (hl : l.length ≤ 1048576) (w : World) (hb : w.heap[b]? = some (.cells (ints l).toArray 3 (0, 0))) : Calls Tryz.prog 45 #[.slice (some ⟨b, 0, none⟩) l.length l.length] w fun e w' => e = .returned (.int .i64 (orL l)) ∧ Fr0 w w' := by
  refine enterS (args := [.slice (some ⟨b, 0, none⟩) l.length l.length]) (fun _ => False) Tryz.func45 rfl Tryz.ntmps45 rfl rfl ?_
  refine WC.seq ?_
  refine WC.region ?_
  refine WL.val (OV.assign rfl) rfl ?_
  refine WL.nil ?_
  refine WX.next ?_
  refine WC.seq ?_
  refine WC.region ?_
  refine WL.val (OV.assign rfl) rfl ?_
  refine WL.nil ?_
  refine WX.next ?_
  refine WC.seq ?_
  refine WC.seq ?_
  refine WC.region ?_
  refine WL.val (OV.move rfl) rfl ?_
  first
  | (refine WL.val (OV.lenSlice rfl T.u74) rfl ?_)
  | (refine WL.val (OV.lenStr rfl T.u74) rfl ?_)
  refine WL.val (OV.move rfl) rfl ?_
  refine WL.nil ?_
  refine WX.next ?_
  refine WC.block ?_
  refine WC.loop1 (fun (i : Nat) => [(3, .int .i64 0), (6, .slice (some ⟨b, 0, none⟩) l.length l.length), (7, .int .i64 (l.length : Int)), (8, .int .i64 (i : Int))])
      (fun i w' => (i ≤ l.length ∧ ∀ j, j < i → l.getD j 0 = 0) ∧ Sat w (fun _ => False) (fun b => b < w.heap.size) w ([]) w')
      (fun i => l.length - i) 0 ⟨rfl, rfl, rfl, rfl, trivial⟩ (fun w' hw => ⟨⟨by omega, by intro j hj; omega⟩, hw⟩) ?_
  intro i
  refine WC.pure (fun hi => ?_)
  obtain ⟨hi, hz⟩ := hi
  refine WC.seq ?_
  refine WC.region ?_
  refine WL.val (OV.lss rfl rfl) rfl ?_
  refine WL.nil ?_
  refine WX.next ?_
  refine WC.seq ?_
  refine WC.cond rfl (fun c9 => ?_) (fun c9 => ?_)
  · try simp only [decide_eq_true_eq, decide_eq_false_iff_not, Bool.not_eq_true', Bool.not_eq_false'] at c9
    refine WC.skip ?_
    refine WX.next ?_
    refine WC.seq ?_
    refine WC.block ?_
    refine WC.seq ?_
    refine WC.region ?_
    have hil : i < l.length := by omega
    refine WL.val (OV.indexSliceN (i := i) rfl rfl T.u74 T.z3 (by omega)) rfl ?_
    refine WL.val (OV.load1 (v := .int .i64 (l.getD i 0)) rfl T.u3 rfl (fun _ hw => snapL hw ((cell_at hb (o := i) (by rw [ints_get' hil])).1))) rfl ?_
    refine WL.val (OV.assign rfl) rfl ?_
    refine WL.nil ?_
    refine WX.next ?_
    refine WC.seq ?_
    refine WC.region ?_
    refine WL.val (OV.move rfl) rfl ?_
    refine WL.val (OV.move rfl) rfl ?_
    refine WL.val (OV.neq rfl rfl) rfl ?_
    refine WL.nil ?_
    refine WX.next ?_
    refine WC.cond rfl (fun c14 => ?_) (fun c14 => ?_)
    · try simp only [decide_eq_true_eq, decide_eq_false_iff_not, Bool.not_eq_true', Bool.not_eq_false'] at c14
      refine WC.seq ?_
      refine WC.region ?_
      refine WL.val (OV.move rfl) rfl ?_
      refine WL.val (OV.assign rfl) rfl ?_
      refine WL.nil ?_
      refine WX.next ?_
      refine WC.ret ?_
      refine WX.block_ret ?_
      refine WX.then_ret ?_
      refine WX.then_ret ?_
      refine WX.block_ret ?_
      refine WX.then_ret ?_
      exact WX.ret1 rfl rfl rfl (fun w' hw => ⟨by rw [orL_at hz (by omega) (by simpa using c14)], hw.fr⟩)
    · try simp only [decide_eq_true_eq, decide_eq_false_iff_not, Bool.not_eq_true', Bool.not_eq_false'] at c14
      refine WC.skip ?_
      refine WX.block_normal ?_
      refine WX.next ?_
      refine WC.region ?_
      refine WL.val (OV.addN (j := 1) rfl rfl (by omega)) rfl ?_
      refine WL.val (OV.move rfl) rfl ?_
      refine WL.nil ?_
      have h0 : l.getD i 0 = 0 := by simpa using c14
      exact WX.round1 (i + 1) ⟨rfl, rfl, rfl, rfl, trivial⟩ (fun w' hw => ⟨⟨by omega, fun j hj => by rcases Nat.lt_or_ge j i with h | h; exact hz j h; rw [show j = i by omega]; exact h0⟩, hw⟩) (by show l.length - (i + 1) < l.length - i; omega)
  · try simp only [decide_eq_true_eq, decide_eq_false_iff_not, Bool.not_eq_true', Bool.not_eq_false'] at c9
    refine WC.exit ?_
    refine WX.then_exit ?_
    refine WX.then_exit ?_
    refine WX.block_hit ?_
    refine WX.next ?_
    refine WC.seq ?_
    refine WC.region ?_
    refine WL.val (OV.move rfl) rfl ?_
    refine WL.val (OV.assign rfl) rfl ?_
    refine WL.nil ?_
    refine WX.next ?_
    refine WC.ret ?_
    exact WX.ret1 rfl rfl rfl (fun w' hw => ⟨by rw [orL_zero (fun j hj => hz j (by omega))], hw.fr⟩)

set_option maxRecDepth 10000 in
theorem cmpT_calls (t u : Tm) (w : World) : Calls Tryz.prog 69 #[tmV t, tmV u] w fun e w' => e = .returned (.int .i64 (cmpT t u)) ∧ Fr0 w w' := by
  refine enterS (args := [tmV t, tmV u]) (fun _ => False) Tryz.func69 rfl Tryz.ntmps69 rfl rfl ?_
  refine WC.seq ?_
  refine WC.region ?_
  refine WL.box rfl rfl rfl ?_
  intro b2
  refine WL.box rfl rfl rfl ?_
  intro b3
  refine WL.val (OV.assign rfl) rfl ?_
  refine WL.nil ?_
  refine WX.next ?_
  refine WC.seq ?_
  refine WC.drawn (fun w' => w'.heap[b2]? = some (.cells (tmC t).toArray 31 (0, 0)) ∧ w'.heap[b3]? = some (.cells (tmC u).toArray 31 (0, 0))) [] (by kernel_rfl) (by kernel_rfl) (m := 18) rfl ?_
  first
  | (refine WH.free 0 rfl (by kernel_rfl) (by kernel_rfl) (by kernel_rfl) rfl (fun _ => (fun _ hw => ⟨hw.it (own b2 (.cells (tmC t).toArray 31 (0, 0))) (by simp), hw.it (own b3 (.cells (tmC u).toArray 31 (0, 0))) (by simp)⟩)) (OV.fieldAddr0 (off := 0) rfl T.u31 rfl) rfl (listed' := [true, false, false, false, false, false, false, false, false, false, false, false, false, false, false, false, false, false]) rfl ?_)
  | (refine WH.free 0 rfl (by kernel_rfl) (by kernel_rfl) (by kernel_rfl) rfl (fun _ => (fun _ hw => ⟨hw.it (own b2 (.cells (tmC t).toArray 31 (0, 0))) (by simp), hw.it (own b3 (.cells (tmC u).toArray 31 (0, 0))) (by simp)⟩)) (OV.fieldAddr (off := 0) rfl T.u31 rfl) rfl (listed' := [true, false, false, false, false, false, false, false, false, false, false, false, false, false, false, false, false, false]) rfl ?_)
  refine WH.take 1 rfl (by kernel_rfl) (by kernel_rfl) (by kernel_rfl) (by kernel_rfl) (fun _ hw => ⟨hw.it (own b2 (.cells (tmC t).toArray 31 (0, 0))) (by simp), hw.it (own b3 (.cells (tmC u).toArray 31 (0, 0))) (by simp)⟩) (OV.load1 (v := .int .i64 t.kind) rfl T.u3 rfl (fun _ hw => (cell_at hw.1 (o := 0) rfl).1)) rfl (listed' := [true, true, false, false, false, false, false, false, false, false, false, false, false, false, false, false, false, false]) rfl ?_
  first
  | (refine WH.free 2 rfl (by kernel_rfl) (by kernel_rfl) (by kernel_rfl) rfl (fun _ => (fun _ hw => ⟨hw.it (own b2 (.cells (tmC t).toArray 31 (0, 0))) (by simp), hw.it (own b3 (.cells (tmC u).toArray 31 (0, 0))) (by simp)⟩)) (OV.fieldAddr0 (off := 0) rfl T.u31 rfl) rfl (listed' := [true, true, true, false, false, false, false, false, false, false, false, false, false, false, false, false, false, false]) rfl ?_)
  | (refine WH.free 2 rfl (by kernel_rfl) (by kernel_rfl) (by kernel_rfl) rfl (fun _ => (fun _ hw => ⟨hw.it (own b2 (.cells (tmC t).toArray 31 (0, 0))) (by simp), hw.it (own b3 (.cells (tmC u).toArray 31 (0, 0))) (by simp)⟩)) (OV.fieldAddr (off := 0) rfl T.u31 rfl) rfl (listed' := [true, true, true, false, false, false, false, false, false, false, false, false, false, false, false, false, false, false]) rfl ?_)
  refine WH.take 3 rfl (by kernel_rfl) (by kernel_rfl) (by kernel_rfl) (by kernel_rfl) (fun _ hw => ⟨hw.it (own b2 (.cells (tmC t).toArray 31 (0, 0))) (by simp), hw.it (own b3 (.cells (tmC u).toArray 31 (0, 0))) (by simp)⟩) (OV.load1 (v := .int .i64 u.kind) rfl T.u3 rfl (fun _ hw => (cell_at hw.2 (o := 0) rfl).1)) rfl (listed' := [true, true, true, true, false, false, false, false, false, false, false, false, false, false, false, false, false, false]) rfl ?_
  first
  | (refine WH.free 5 rfl (by kernel_rfl) (by kernel_rfl) (by kernel_rfl) rfl (fun _ => (fun _ hw => ⟨hw.it (own b2 (.cells (tmC t).toArray 31 (0, 0))) (by simp), hw.it (own b3 (.cells (tmC u).toArray 31 (0, 0))) (by simp)⟩)) (OV.fieldAddr0 (off := 1) rfl T.u31 rfl) rfl (listed' := [true, true, true, true, false, true, false, false, false, false, false, false, false, false, false, false, false, false]) rfl ?_)
  | (refine WH.free 5 rfl (by kernel_rfl) (by kernel_rfl) (by kernel_rfl) rfl (fun _ => (fun _ hw => ⟨hw.it (own b2 (.cells (tmC t).toArray 31 (0, 0))) (by simp), hw.it (own b3 (.cells (tmC u).toArray 31 (0, 0))) (by simp)⟩)) (OV.fieldAddr (off := 1) rfl T.u31 rfl) rfl (listed' := [true, true, true, true, false, true, false, false, false, false, false, false, false, false, false, false, false, false]) rfl ?_)
  refine WH.take 6 rfl (by kernel_rfl) (by kernel_rfl) (by kernel_rfl) (by kernel_rfl) (fun _ hw => ⟨hw.it (own b2 (.cells (tmC t).toArray 31 (0, 0))) (by simp), hw.it (own b3 (.cells (tmC u).toArray 31 (0, 0))) (by simp)⟩) (OV.load1 (v := .int .i64 t.n) rfl T.u3 rfl (fun _ hw => (cell_at hw.1 (o := 1) rfl).1)) rfl (listed' := [true, true, true, true, false, true, true, false, false, false, false, false, false, false, false, false, false, false]) rfl ?_
  first
  | (refine WH.free 7 rfl (by kernel_rfl) (by kernel_rfl) (by kernel_rfl) rfl (fun _ => (fun _ hw => ⟨hw.it (own b2 (.cells (tmC t).toArray 31 (0, 0))) (by simp), hw.it (own b3 (.cells (tmC u).toArray 31 (0, 0))) (by simp)⟩)) (OV.fieldAddr0 (off := 1) rfl T.u31 rfl) rfl (listed' := [true, true, true, true, false, true, true, true, false, false, false, false, false, false, false, false, false, false]) rfl ?_)
  | (refine WH.free 7 rfl (by kernel_rfl) (by kernel_rfl) (by kernel_rfl) rfl (fun _ => (fun _ hw => ⟨hw.it (own b2 (.cells (tmC t).toArray 31 (0, 0))) (by simp), hw.it (own b3 (.cells (tmC u).toArray 31 (0, 0))) (by simp)⟩)) (OV.fieldAddr (off := 1) rfl T.u31 rfl) rfl (listed' := [true, true, true, true, false, true, true, true, false, false, false, false, false, false, false, false, false, false]) rfl ?_)
  refine WH.take 8 rfl (by kernel_rfl) (by kernel_rfl) (by kernel_rfl) (by kernel_rfl) (fun _ hw => ⟨hw.it (own b2 (.cells (tmC t).toArray 31 (0, 0))) (by simp), hw.it (own b3 (.cells (tmC u).toArray 31 (0, 0))) (by simp)⟩) (OV.load1 (v := .int .i64 u.n) rfl T.u3 rfl (fun _ hw => (cell_at hw.2 (o := 1) rfl).1)) rfl (listed' := [true, true, true, true, false, true, true, true, true, false, false, false, false, false, false, false, false, false]) rfl ?_
  first
  | (refine WH.free 10 rfl (by kernel_rfl) (by kernel_rfl) (by kernel_rfl) rfl (fun _ => (fun _ hw => ⟨hw.it (own b2 (.cells (tmC t).toArray 31 (0, 0))) (by simp), hw.it (own b3 (.cells (tmC u).toArray 31 (0, 0))) (by simp)⟩)) (OV.fieldAddr0 (off := 2) rfl T.u31 rfl) rfl (listed' := [true, true, true, true, false, true, true, true, true, false, true, false, false, false, false, false, false, false]) rfl ?_)
  | (refine WH.free 10 rfl (by kernel_rfl) (by kernel_rfl) (by kernel_rfl) rfl (fun _ => (fun _ hw => ⟨hw.it (own b2 (.cells (tmC t).toArray 31 (0, 0))) (by simp), hw.it (own b3 (.cells (tmC u).toArray 31 (0, 0))) (by simp)⟩)) (OV.fieldAddr (off := 2) rfl T.u31 rfl) rfl (listed' := [true, true, true, true, false, true, true, true, true, false, true, false, false, false, false, false, false, false]) rfl ?_)
  refine WH.take 11 rfl (by kernel_rfl) (by kernel_rfl) (by kernel_rfl) (by kernel_rfl) (fun _ hw => ⟨hw.it (own b2 (.cells (tmC t).toArray 31 (0, 0))) (by simp), hw.it (own b3 (.cells (tmC u).toArray 31 (0, 0))) (by simp)⟩) (OV.load1 (v := .string t.s) rfl T.u9 rfl (fun _ hw => (cell_at hw.1 (o := 2) rfl).1)) rfl (listed' := [true, true, true, true, false, true, true, true, true, false, true, true, false, false, false, false, false, false]) rfl ?_
  first
  | (refine WH.free 12 rfl (by kernel_rfl) (by kernel_rfl) (by kernel_rfl) rfl (fun _ => (fun _ hw => ⟨hw.it (own b2 (.cells (tmC t).toArray 31 (0, 0))) (by simp), hw.it (own b3 (.cells (tmC u).toArray 31 (0, 0))) (by simp)⟩)) (OV.fieldAddr0 (off := 2) rfl T.u31 rfl) rfl (listed' := [true, true, true, true, false, true, true, true, true, false, true, true, true, false, false, false, false, false]) rfl ?_)
  | (refine WH.free 12 rfl (by kernel_rfl) (by kernel_rfl) (by kernel_rfl) rfl (fun _ => (fun _ hw => ⟨hw.it (own b2 (.cells (tmC t).toArray 31 (0, 0))) (by simp), hw.it (own b3 (.cells (tmC u).toArray 31 (0, 0))) (by simp)⟩)) (OV.fieldAddr (off := 2) rfl T.u31 rfl) rfl (listed' := [true, true, true, true, false, true, true, true, true, false, true, true, true, false, false, false, false, false]) rfl ?_)
  refine WH.take 13 rfl (by kernel_rfl) (by kernel_rfl) (by kernel_rfl) (by kernel_rfl) (fun _ hw => ⟨hw.it (own b2 (.cells (tmC t).toArray 31 (0, 0))) (by simp), hw.it (own b3 (.cells (tmC u).toArray 31 (0, 0))) (by simp)⟩) (OV.load1 (v := .string u.s) rfl T.u9 rfl (fun _ hw => (cell_at hw.2 (o := 2) rfl).1)) rfl (listed' := [true, true, true, true, false, true, true, true, true, false, true, true, true, true, false, false, false, false]) rfl ?_
  refine WH.only 4 rfl (by kernel_rfl) (listed' := [true, true, true, true, true, true, true, true, true, false, true, true, true, true, false, false, false, false]) rfl (fl' := false) rfl ?_
  refine WL.call0 (v := .int .i64 (cmpN t.kind u.kind)) (by kernel_rfl) rfl rfl (fun w' hw' => cmpN_calls _ _ w') ?_
  refine WL.nil ?_
  refine WX.contD (by kernel_rfl) (fun _ => (fun _ hw => ⟨hw.it (own b2 (.cells (tmC t).toArray 31 (0, 0))) (by simp), hw.it (own b3 (.cells (tmC u).toArray 31 (0, 0))) (by simp)⟩)) ?_
  refine WH.only 9 rfl (by kernel_rfl) (listed' := [true, true, true, true, true, true, true, true, true, true, true, true, true, true, false, false, false, false]) rfl (fl' := false) rfl ?_
  refine WL.call0 (v := .int .i64 (cmpN t.n u.n)) (by kernel_rfl) rfl rfl (fun w' hw' => cmpN_calls _ _ w') ?_
  refine WL.nil ?_
  refine WX.contD (by kernel_rfl) (fun _ => (fun _ hw => ⟨hw.it (own b2 (.cells (tmC t).toArray 31 (0, 0))) (by simp), hw.it (own b3 (.cells (tmC u).toArray 31 (0, 0))) (by simp)⟩)) ?_
  refine WH.only 14 rfl (by kernel_rfl) (listed' := [true, true, true, true, true, true, true, true, true, true, true, true, true, true, true, false, false, false]) rfl (fl' := false) rfl ?_
  refine WL.call0 (v := .int .i64 (cmpS t.s u.s)) (by kernel_rfl) rfl rfl (fun w' hw' => scmp_calls _ _ w') ?_
  refine WL.nil ?_
  refine WX.contD (by kernel_rfl) (fun _ => (fun _ hw => ⟨hw.it (own b2 (.cells (tmC t).toArray 31 (0, 0))) (by simp), hw.it (own b3 (.cells (tmC u).toArray 31 (0, 0))) (by simp)⟩)) ?_
  refine WH.only 15 rfl (by kernel_rfl) (listed' := [true, true, true, true, true, true, true, true, true, true, true, true, true, true, true, true, false, false]) rfl (fl' := false) rfl ?_
  refine WL.buildSliceN (xs := [.tmp 9, .tmp 14, .tmp 19]) (vs := ints [cmpN t.kind u.kind, cmpN t.n u.n, cmpS t.s u.s]) rfl T.u74 T.z3 T.zr3 rfl rfl rfl (by decide) rfl ?_
  intro b20
  refine WL.nil ?_
  refine WX.contD (by kernel_rfl) (fun _ => (fun _ hw => ⟨hw.it (own b2 (.cells (tmC t).toArray 31 (0, 0))) (by simp), hw.it (own b3 (.cells (tmC u).toArray 31 (0, 0))) (by simp)⟩)) ?_
  refine WH.only 16 rfl (by kernel_rfl) (listed' := [true, true, true, true, true, true, true, true, true, true, true, true, true, true, true, true, true, false]) rfl (fl' := false) rfl ?_
  refine WL.call0 (v := .int .i64 (cmpT t u)) (by kernel_rfl) rfl rfl (fun w' hw' => or_calls [cmpN t.kind u.kind, cmpN t.n u.n, cmpS t.s u.s] b20 (by simp) w' (hw'.it _ (.head _))) ?_
  refine WL.nil ?_
  refine WX.contD (by kernel_rfl) (fun _ => (fun _ hw => ⟨hw.it (own b2 (.cells (tmC t).toArray 31 (0, 0))) (by simp), hw.it (own b3 (.cells (tmC u).toArray 31 (0, 0))) (by simp)⟩)) ?_
  refine WH.free 17 rfl (by kernel_rfl) (by kernel_rfl) (by kernel_rfl) rfl (fun _ => (fun _ hw => ⟨hw.it (own b2 (.cells (tmC t).toArray 31 (0, 0))) (by simp), hw.it (own b3 (.cells (tmC u).toArray 31 (0, 0))) (by simp)⟩)) (OV.assign rfl) rfl (listed' := [true, true, true, true, true, true, true, true, true, true, true, true, true, true, true, true, true, true]) rfl ?_
  refine WH.done (by kernel_rfl) ?_
  refine WX.next ?_
  refine WC.ret ?_
  exact WX.ret1 rfl rfl rfl (fun w' hw => ⟨rfl, hw.fr⟩)

end Go.Proofs.YtgiiifadbnpfkaaGreatDoor
