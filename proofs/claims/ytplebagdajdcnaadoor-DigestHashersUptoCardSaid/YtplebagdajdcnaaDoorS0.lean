/- SHA-256 on lists; how a hasher and a slice of bytes lie in memory. -/
import Derived.Test.YtplebagdajdcnaaDoorA0
import Derived.Test.YtplebagdajdcnaaDoorHwBytes
namespace Go.Proofs.YtplebagdajdcnaaDoor
open Go Go.Hw
set_option linter.unusedSimpArgs false
set_option linter.unusedVariables false
/-! ### SHA-256 on lists -/
def rotr (x : UInt32) (n : Nat) : UInt32 := (x <<< UInt32.ofNat (32 - n)) ||| (x >>> UInt32.ofNat n)
def sg0 (x : UInt32) : UInt32 := rotr x 7 ^^^ rotr x 18 ^^^ (x >>> UInt32.ofNat 3)
def sg1 (x : UInt32) : UInt32 := rotr x 17 ^^^ rotr x 19 ^^^ (x >>> UInt32.ofNat 10)
def bg0 (x : UInt32) : UInt32 := rotr x 2 ^^^ rotr x 13 ^^^ rotr x 22
def bg1 (x : UInt32) : UInt32 := rotr x 6 ^^^ rotr x 11 ^^^ rotr x 25
def beW (b : List UInt8) (i : Nat) : UInt32 :=
  ((b.getD i 0).toUInt32 <<< UInt32.ofNat 24) ||| ((b.getD (i + 1) 0).toUInt32 <<< UInt32.ofNat 16) ||| ((b.getD (i + 2) 0).toUInt32 <<< UInt32.ofNat 8) ||| (b.getD (i + 3) 0).toUInt32
def nextW (l : List UInt32) (t : Nat) : UInt32 := l.getD (t - 16) 0 + sg0 (l.getD (t - 15) 0) + l.getD (t - 7) 0 + sg1 (l.getD (t - 2) 0)
def schW (b : List UInt8) : Nat → List UInt32
  | 0 => []
  | t + 1 => schW b t ++ [if t < 16 then beW b (4 * t) else nextW (schW b t) t]
theorem schW_length (b : List UInt8) : ∀ t, (schW b t).length = t
  | 0 => rfl
  | t + 1 => by simp [schW, schW_length b t]
structure S8 where
  a : UInt32
  b : UInt32
  c : UInt32
  d : UInt32
  e : UInt32
  f : UInt32
  g : UInt32
  h : UInt32
def S8.toL (s : S8) : List UInt32 := [s.a, s.b, s.c, s.d, s.e, s.f, s.g, s.h]
def S8.ofL (l : List UInt32) : S8 := ⟨l.getD 0 0, l.getD 1 0, l.getD 2 0, l.getD 3 0, l.getD 4 0, l.getD 5 0, l.getD 6 0, l.getD 7 0⟩
def S8.u (s : S8) (k w : UInt32) : UInt32 := s.h + bg1 s.e + ((s.e &&& s.f) ^^^ (~~~s.e &&& s.g)) + k + w
def S8.v (s : S8) : UInt32 := bg0 s.a + ((s.a &&& s.b) ^^^ (s.a &&& s.c) ^^^ (s.b &&& s.c))
def rndS (s : S8) (k w : UInt32) : S8 := ⟨s.u k w + s.v, s.a, s.b, s.c, s.d + s.u k w, s.e, s.f, s.g⟩
def kW : List UInt32 := [1116352408, 1899447441, 3049323471, 3921009573, 961987163, 1508970993, 2453635748, 2870763221, 3624381080, 310598401, 607225278, 1426881987, 1925078388, 2162078206, 2614888103, 3248222580, 3835390401, 4022224774, 264347078, 604807628, 770255983, 1249150122, 1555081692, 1996064986, 2554220882, 2821834349, 2952996808, 3210313671, 3336571891, 3584528711, 113926993, 338241895, 666307205, 773529912, 1294757372, 1396182291, 1695183700, 1986661051, 2177026350, 2456956037, 2730485921, 2820302411, 3259730800, 3345764771, 3516065817, 3600352804, 4094571909, 275423344, 430227734, 506948616, 659060556, 883997877, 958139571, 1322822218, 1537002063, 1747873779, 1955562222, 2024104815, 2227730452, 2361852424, 2428436474, 2756734187, 3204031479, 3329325298]
def h0W : List UInt32 := [1779033703, 3144134277, 1013904242, 2773480762, 1359893119, 2600822924, 528734635, 1541459225]
def cmpS (s : S8) (W : List UInt32) : Nat → S8
  | 0 => s
  | t + 1 => rndS (cmpS s W t) (kW.getD t 0) (W.getD t 0)
/-- The old words and the new ones, added up one after the other. -/
def addP (H N : List UInt32) : Nat → List UInt32
  | 0 => H
  | i + 1 => (addP H N i).set i ((addP H N i).getD i 0 + N.getD i 0)
theorem addP_length (H N : List UInt32) : ∀ i, (addP H N i).length = H.length
  | 0 => rfl
  | i + 1 => by simp [addP, addP_length H N i]
def turnL (H : List UInt32) (b : List UInt8) : List UInt32 := addP H (cmpS (S8.ofL H) (schW b 64) 64).toL 8
theorem turnL_length (H : List UInt32) (b : List UInt8) : (turnL H b).length = H.length := addP_length _ _ _
theorem list8 {l : List UInt32} (h : l.length = 8) : l = [l.getD 0 0, l.getD 1 0, l.getD 2 0, l.getD 3 0, l.getD 4 0, l.getD 5 0, l.getD 6 0, l.getD 7 0] := by
  match l, h with
  | [_, _, _, _, _, _, _, _], _ => rfl
theorem ofL_toL {l : List UInt32} (h : l.length = 8) : (S8.ofL l).toL = l := (list8 h).symm
theorem addP_comm (H N : List UInt32) (hH : H.length = 8) (hN : N.length = 8) : addP H N 8 = addP N H 8 := by
  rw [list8 hH, list8 hN]
  simp only [addP, List.set, List.getD_cons_zero, List.getD_cons_succ]
  simp [UInt32.add_comm]
def foldB (H : List UInt32) (l : List UInt8) : Nat → List UInt32
  | 0 => H
  | n + 1 => turnL (foldB H l n) ((l.drop (64 * n)).take 64)
theorem foldB_length (H : List UInt32) (l : List UInt8) : ∀ n, (foldB H l n).length = H.length
  | 0 => rfl
  | n + 1 => by rw [foldB, turnL_length, foldB_length H l n]
/-- What stands behind does not matter. -/
theorem foldB_append (H : List UInt32) (l m : List UInt8) : ∀ n, 64 * n ≤ l.length → foldB H (l ++ m) n = foldB H l n
  | 0, _ => rfl
  | n + 1, h => by
    rw [foldB, foldB, foldB_append H l m n (by omega)]
    congr 1
    rw [List.drop_append_of_le_length (by omega), List.take_append_of_le_length (by simp; omega)]
def be8 (n : Nat) : List UInt8 := (List.range 8).map fun i => UInt8.ofNat (n / 2 ^ (56 - 8 * i))
theorem be8_length (n : Nat) : (be8 n).length = 8 := by simp [be8]
def padK (n : Nat) : Nat := (119 - n % 64) % 64
def padL (l : List UInt8) : List UInt8 := l ++ (128 :: List.replicate (padK l.length) 0) ++ be8 (8 * l.length)
theorem padL_length (l : List UInt8) : (padL l).length = l.length + 1 + padK l.length + 8 ∧ (padL l).length % 64 = 0 := by
  have h : (padL l).length = l.length + 1 + padK l.length + 8 := by simp [padL, be8_length]; omega
  refine ⟨h, ?_⟩
  rw [h]; unfold padK; omega
def be4 (x : UInt32) : List UInt8 := [(x >>> UInt32.ofNat 24).toUInt8, (x >>> UInt32.ofNat 16).toUInt8, (x >>> UInt32.ofNat 8).toUInt8, x.toUInt8]
def shaH (l : List UInt8) : List UInt32 := foldB h0W (padL l) ((padL l).length / 64)
def shaD (l : List UInt8) : List UInt8 := (shaH l).flatMap be4
theorem shaH_length (l : List UInt8) : (shaH l).length = 8 := foldB_length _ _ _
theorem be4s_length (l : List UInt32) : (l.flatMap be4).length = 4 * l.length := by
  induction l with
  | nil => rfl
  | cons x l ih => simp [be4, ih]; omega
theorem shaD_length (l : List UInt8) : (shaD l).length = 32 := by rw [shaD, be4s_length, shaH_length]
/-! ### A hasher: what stands in its block -/
def HP (all part : List UInt8) : Prop := part.length = 64 ∧ part.take (all.length % 64) = all.drop (64 * (all.length / 64))
def HC (all part : List UInt8) : List Value := w32s (foldB h0W all (all.length / 64)) ++ (u8s part ++ [.int .i64 (all.length : Int)])
def HS (all : List UInt8) (cs : List Value) : Prop := ∃ part, HP all part ∧ cs = HC all part
def putP (part l : List UInt8) (k : Nat) : List UInt8 := part.take k ++ l ++ part.drop (k + l.length)
theorem putP_length {part l : List UInt8} {k : Nat} (h : part.length = 64) (hk : k + l.length ≤ 64) : (putP part l k).length = 64 := by
  simp [putP]; omega
theorem HP.more {all part l : List UInt8} (h : HP all part) (hl : all.length % 64 + l.length < 64) :
    HP (all ++ l) (putP part l (all.length % 64)) ∧ foldB h0W (all ++ l) ((all ++ l).length / 64) = foldB h0W all (all.length / 64) := by
  obtain ⟨h1, h2⟩ := h
  have e1 : (all ++ l).length / 64 = all.length / 64 := by rw [List.length_append]; omega
  have e2 : (all ++ l).length % 64 = all.length % 64 + l.length := by rw [List.length_append]; omega
  refine ⟨⟨putP_length h1 (by omega), ?_⟩, ?_⟩
  · rw [e1, e2, putP, List.take_append_of_le_length (by simp; omega), List.take_of_length_le (by simp; omega), h2, List.drop_append_of_le_length (by omega)]
  · rw [e1, foldB_append _ _ _ _ (by omega)]
theorem HP.full {all part l : List UInt8} (h : HP all part) (hl : all.length % 64 + l.length = 64) :
    HP (all ++ l) (putP part l (all.length % 64)) ∧ foldB h0W (all ++ l) ((all ++ l).length / 64) = turnL (foldB h0W all (all.length / 64)) (putP part l (all.length % 64)) := by
  obtain ⟨h1, h2⟩ := h
  have e1 : (all ++ l).length / 64 = all.length / 64 + 1 := by rw [List.length_append]; omega
  have e2 : (all ++ l).length % 64 = 0 := by rw [List.length_append]; omega
  have e3 : putP part l (all.length % 64) = all.drop (64 * (all.length / 64)) ++ l := by
    have e4 : part.drop 64 = [] := List.drop_eq_nil_of_le (by omega)
    rw [putP, h2, hl, e4, List.append_nil]
  refine ⟨⟨putP_length h1 (by omega), ?_⟩, ?_⟩
  · rw [e2, e1, List.take_zero, List.drop_eq_nil_of_le (by rw [List.length_append]; omega)]
  · rw [e1, foldB, foldB_append _ _ _ _ (by omega)]
    congr 1
    rw [e3, List.drop_append_of_le_length (by omega), List.take_of_length_le (by simp; omega)]
theorem hc_copy {H : List UInt32} {part l : List UInt8} {x : Value} {k : Nat} (hH : H.length = 8) (hp : part.length = 64) (hk : k + l.length ≤ 64) :
    (w32s H ++ (u8s part ++ [x])).take (8 + k) ++ u8s l ++ (w32s H ++ (u8s part ++ [x])).drop (8 + k + l.length) = w32s H ++ (u8s (putP part l k) ++ [x]) := by
  have h1 : (w32s H).length = 8 := by rw [w32s_length, hH]
  have h2 : (u8s part).length = 64 := by rw [u8s_length, hp]
  have e1 : 8 + k - 8 = k := by omega
  have e2 : 8 + k + l.length - 8 = k + l.length := by omega
  rw [List.take_append, List.drop_append, h1, List.take_of_length_le (by omega), List.drop_eq_nil_of_le (by omega), e1, e2, List.take_append_of_le_length (by omega), List.drop_append_of_le_length (by omega)]
  simp [putP, u8s, List.map_take, List.map_drop]
theorem hc_set {H : List UInt32} {part : List UInt8} {x y : Value} (hH : H.length = 8) (hp : part.length = 64) : (w32s H ++ (u8s part ++ [x])).set 72 y = w32s H ++ (u8s part ++ [y]) := by
  have h1 : (w32s H).length = 8 := by rw [w32s_length, hH]
  have h2 : (u8s part).length = 64 := by rw [u8s_length, hp]
  rw [List.set_append_right _ _ (by omega), h1, List.set_append_right _ _ (by omega), h2]
  rfl
theorem hc_n {H : List UInt32} {part : List UInt8} {x : Value} (hH : H.length = 8) (hp : part.length = 64) : (w32s H ++ (u8s part ++ [x])).toArray[72]? = some x := by
  have h1 : (w32s H).length = 8 := by rw [w32s_length, hH]
  have h2 : (u8s part).length = 64 := by rw [u8s_length, hp]
  rw [List.getElem?_toArray, List.getElem?_append_right (by omega), h1, List.getElem?_append_right (by omega), h2]
  rfl
theorem hc_length {H : List UInt32} {part : List UInt8} {x : Value} (hH : H.length = 8) (hp : part.length = 64) : (w32s H ++ (u8s part ++ [x])).length = 73 := by
  simp [w32s_length, u8s_length, hH, hp]
theorem hc_one {H : List UInt32} {part : List UInt8} {n : Int} (hH : H.length = 8) (hp : part.length = 64) : (w32s H ++ (u8s part ++ [Value.int .i64 n])).all (·.oneCell') = true := by
  rw [List.all_eq_true]
  intro v hv
  simp only [List.mem_append, List.mem_singleton] at hv
  rcases hv with h | h | h
  · exact w32s_one _ v h
  · exact u8s_one _ v h
  · subst h; rfl
theorem hc_part {H : List UInt32} {part : List UInt8} {x : Value} {j : Nat} (hH : H.length = 8) (hp : part.length = 64) (hj : j < 64) : (w32s H ++ (u8s part ++ [x]))[8 + j]? = some (b8 (part.getD j 0)) := by
  have h1 : (w32s H).length = 8 := by rw [w32s_length, hH]
  have e : 8 + j - 8 = j := by omega
  rw [List.getElem?_append_right (by omega), h1, e, List.getElem?_append_left (by rw [u8s_length]; omega), u8s_getD _ (by omega)]

end Go.Proofs.YtplebagdajdcnaaDoor
