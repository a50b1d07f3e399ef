/- What the laws' proofs stand on, part A1. -/
import Derived.Test.YtdlcleecjeipnaaGreatDoorPkA0
import Derived.Deep.RegionWith
import Derived.Shelf.Spec.TrailingZeros
import Derived.Shelf.Strings.OnBuilder
import Derived.Shelf.Strings.Trim
import Derived.Shelf.Small.Wraps
import Derived.Shelf.Strconv.Clone
import Derived.Shelf.Strconv.ParseUint10Empty
import Derived.Shelf.Pu.ParseUintPublic10
import Derived.Shelf.Strings.Prefix
import Derived.Shelf.Strings.Repeat
import Derived.Ground.Names2Prog
import Derived.Lib.ItoaNum
import Derived.Lib.Walk
import Derived.Lib.AppendIntMem
import Derived.BigCall
import Derived.BigGuard
import Derived.Lib.OwnBridge
import Derived.Deep.AppendLies
/- nat.long: the plain law of the long division (Knuth's D). -/
namespace Go.Proofs.YtdlcleecjeipnaaGreatDoor
open Go.RowKit Go.Proofs.YtdlcleecjeipnaaGreatDoorW.PrintWords Limbs
set_option linter.unusedVariables false

theorem val_take_of_lt {xs : List Int} (hx : Dig B64 xs) (k : Nat) (hk : k ≤ xs.length) (h : Limbs.val B64 xs < B64 ^ k) : Limbs.val B64 (xs.drop k) = 0 ∧ Limbs.val B64 (xs.take k) = Limbs.val B64 xs := by
  have h1 := val_take_drop B64 xs k hk
  have h2 := val_nonneg B64_pos (hx.take k)
  have h3 := val_nonneg B64_pos (hx.drop k)
  have hp := pow_pos B64_pos k
  have h4 : Limbs.val B64 (xs.drop k) = 0 := by
    rcases Int.lt_or_le 0 (Limbs.val B64 (xs.drop k)) with h5 | h5
    · have : B64 ^ k * 1 ≤ B64 ^ k * Limbs.val B64 (xs.drop k) := Int.mul_le_mul_of_nonneg_left (by omega) (Int.le_of_lt hp)
      omega
    · omega
  rw [h4] at h1
  exact ⟨h4, by omega⟩

theorem val_zero_getD {xs : List Int} (hx : Dig B64 xs) (h : Limbs.val B64 xs = 0) (i : Nat) : xs.getD i 0 = 0 := by
  induction xs generalizing i with
  | nil => rfl
  | cons x xs ih =>
    have h1 := hx.head
    have h2 := val_nonneg B64_pos hx.tail
    simp only [Limbs.val] at h
    have h3 : 0 ≤ B64 * Limbs.val B64 xs := Int.mul_nonneg (Int.le_of_lt B64_pos) h2
    have h4 : B64 * Limbs.val B64 xs = 0 := by omega
    have h5 : Limbs.val B64 xs = 0 := by
      rcases Int.mul_eq_zero.1 h4 with h6 | h6
      · have := B64_pos; omega
      · exact h6
    cases i with
    | zero => simp; omega
    | succ i => simpa using ih hx.tail h5 i

theorem val_of_zeros {xs : List Int} (h : ∀ i, xs.getD i 0 = 0) : Limbs.val B64 xs = 0 := by
  induction xs with
  | nil => rfl
  | cons x xs ih =>
    have h0 := h 0
    simp at h0
    have h1 := ih (fun i => by simpa using h (i + 1))
    simp [Limbs.val, h0, h1]

theorem val_congr {xs ys : List Int} (hl : xs.length = ys.length) (h : ∀ i, xs.getD i 0 = ys.getD i 0) : xs = ys := by
  apply List.ext_getElem hl
  intro i h1 h2
  have := h i
  rw [List.getD_eq_getElem?_getD, List.getD_eq_getElem?_getD, List.getElem?_eq_getElem h1, List.getElem?_eq_getElem h2] at this
  exact this

theorem getD_drop (xs : List Int) (k i : Nat) : (xs.drop k).getD i 0 = xs.getD (k + i) 0 := by
  simp [List.getD_eq_getElem?_getD, List.getElem?_drop]
theorem getD_take (xs : List Int) (k i : Nat) (h : i < k) : (xs.take k).getD i 0 = xs.getD i 0 := by
  simp [List.getD_eq_getElem?_getD, h]
theorem getD_take_ge (xs : List Int) (k i : Nat) (h : k ≤ i) : (xs.take k).getD i 0 = 0 := by
  simp only [List.getD_eq_getElem?_getD, List.getElem?_take]; rw [if_neg (by omega)]; rfl

/-- What the divisor is, shifted. -/
structure Divisor (vz : List Int) (m : Nat) (V : Int) : Prop where
  dig : Dig B64 vz
  len : vz.length = m + 1
  m2 : 2 ≤ m
  val : Limbs.val B64 (vz.take m) = V
  top : B64 ≤ 2 * vz.getD (m - 1) 0
  lt : V < B64 ^ m
  pos : 0 < V

theorem Divisor.of_left {ys vz : List Int} {s : Nat} {b : Nat} (hy : Lim ys b) (hm : 2 ≤ ys.length) (hI : LeftInv ys vz s ys.length) (hs1 : B64 ≤ 2 * (ys.getD (ys.length - 1) 0 * 2 ^ s)) (hs2 : ys.getD (ys.length - 1) 0 * 2 ^ s < B64) :
    Divisor vz ys.length (b * 2 ^ s) := by
  obtain ⟨k, hk⟩ : ∃ k, ys.length = k + 1 := ⟨ys.length - 1, by omega⟩
  have hlen := hI.len
  have p0 : (0 : Int) < 2 ^ s := pow_pos (by decide) s
  have hv := hI.eqn
  rw [List.take_length, hy.val, val_take_succ B64 vz _ (by omega)] at hv
  -- b = low + top B^k
  have hb : Limbs.val B64 ys = Limbs.val B64 (ys.take k) + B64 ^ k * ys.getD k 0 := by
    have := val_take_succ B64 ys k (by omega)
    rwa [← hk, List.take_length] at this
  rw [hy.val] at hb
  have l0 := val_nonneg B64_pos (hy.dig.take k)
  have l1 := val_lt B64_pos (hy.dig.take k)
  rw [List.length_take, Nat.min_eq_left (by omega)] at l1
  rw [hk] at hs1 hs2 hlen
  simp only [Nat.add_sub_cancel] at hs1 hs2
  generalize ys.getD k 0 = y at *
  generalize Limbs.val B64 (ys.take k) = low at *
  have hpk := pow_pos B64_pos k
  -- the shifted one lies below B^(k+1)
  have hmul : (b : Int) * 2 ^ s < B64 ^ (k + 1) := by
    have h1 : (low + B64 ^ k * y) * 2 ^ s < (B64 ^ k * (y + 1)) * 2 ^ s := Int.mul_lt_mul_of_pos_right (by
      have e : B64 ^ k * (y + 1) = B64 ^ k * y + B64 ^ k := by grind
      omega) p0
    have h2 : (y + 1) * 2 ^ s ≤ B64 := by
      -- y 2^s < B and both are multiples of 2^s
      have hs : s ≤ 63 := by
        rcases Nat.lt_or_ge 63 s with h | h
        · exfalso
          have h3 : (2 : Int) ^ 64 ≤ 2 ^ s := pow_le_pow (by decide) (by omega)
          have hy1 : 1 ≤ y := by
            rcases Int.lt_or_le 0 y with h4 | h4
            · exact h4
            · have := Int.mul_le_mul_of_nonneg_right h4 (Int.le_of_lt p0); have := B64_pos; omega
          have h5 : 1 * 2 ^ s ≤ y * 2 ^ s := Int.mul_le_mul_of_nonneg_right hy1 (Int.le_of_lt p0)
          have h6 : (2 : Int) ^ 64 = B64 := rfl
          omega
        · exact h
      have pp := pow_split hs
      have h3 : y < 2 ^ (64 - s) := by
        apply Knuth.mul_lt_of p0
        rw [Int.mul_comm (2 ^ (64 - s)), pp]; exact hs2
      have h4 : (y + 1) * 2 ^ s ≤ 2 ^ (64 - s) * 2 ^ s := Int.mul_le_mul_of_nonneg_right (by omega) (Int.le_of_lt p0)
      rw [Int.mul_comm (2 ^ (64 - s)), pp] at h4
      exact h4
    have h3 : B64 ^ k * ((y + 1) * 2 ^ s) ≤ B64 ^ k * B64 := Int.mul_le_mul_of_nonneg_left h2 (Int.le_of_lt hpk)
    rw [← hb] at h1
    rw [Int.pow_succ]
    have e : (B64 ^ k * (y + 1)) * 2 ^ s = B64 ^ k * ((y + 1) * 2 ^ s) := by grind
    omega
  have h5 := val_nonneg B64_pos (hI.dig.take ys.length)
  have h6 := hI.dig.get ys.length B64_pos
  rw [hk] at hv h5 h6 ⊢
  have hpk1 := pow_pos B64_pos (k + 1)
  -- the highest limb is nought
  have h7 : vz.getD (k + 1) 0 = 0 := by
    rcases Int.lt_or_le 0 (vz.getD (k + 1) 0) with h8 | h8
    · exfalso
      have : B64 ^ (k + 1) * 1 ≤ B64 ^ (k + 1) * vz.getD (k + 1) 0 := Int.mul_le_mul_of_nonneg_left (by omega) (Int.le_of_lt hpk1)
      omega
    · omega
  rw [h7] at hv
  have hval : Limbs.val B64 (vz.take (k + 1)) = b * 2 ^ s := by omega
  have ht : Limbs.val B64 (vz.take (k + 1)) = Limbs.val B64 (vz.take k) + B64 ^ k * vz.getD k 0 := val_take_succ B64 vz k (by omega)
  have l2 := val_lt B64_pos (hI.dig.take k)
  rw [List.length_take, Nat.min_eq_left (by omega)] at l2
  have hge : B64 ^ k * (y * 2 ^ s) ≤ (b : Int) * 2 ^ s := by
    have h1 : (B64 ^ k * y) * 2 ^ s ≤ (b : Int) * 2 ^ s := Int.mul_le_mul_of_nonneg_right (by omega) (Int.le_of_lt p0)
    have e : (B64 ^ k * y) * 2 ^ s = B64 ^ k * (y * 2 ^ s) := by grind
    omega
  refine ⟨hI.dig, by omega, by omega, hval, ?_, hmul, ?_⟩
  · simp only [Nat.add_sub_cancel]
    -- vz_k + 1 > y 2^s
    have h8 : y * 2 ^ s < vz.getD k 0 + 1 := by
      apply Knuth.mul_lt_of hpk
      have e1 : y * 2 ^ s * B64 ^ k = B64 ^ k * (y * 2 ^ s) := Int.mul_comm _ _
      have e2 : (vz.getD k 0 + 1) * B64 ^ k = B64 ^ k * vz.getD k 0 + B64 ^ k := by grind
      omega
    omega
  · have h8 : 0 < y * 2 ^ s := by have := B64_pos; omega
    have := Int.mul_pos hpk h8
    omega

/-- The division behind the rounds down to the k-th limb of the quotient. -/
structure LongInv (N V : Int) (us zs : List Int) (ul zl k : Nat) : Prop where
  ulen : us.length = ul
  zlen : zs.length = zl
  udig : Dig B64 us
  zdig : Dig B64 zs
  eqn : N = Limbs.val B64 (zs.drop k) * B64 ^ k * V + Limbs.val B64 us
  lt : Limbs.val B64 us < V * B64 ^ k

/-- A part that is to be divided. -/
structure Part (us vz : List Int) (V : Int) (j m : Nat) : Prop where
  hj : j + m < us.length
  udig : Dig B64 us
  dv : Divisor vz m V
  lt : Limbs.val B64 (us.drop j) < B64 * V
  same : Limbs.val B64 (seg us j (m + 1)) = Limbs.val B64 (us.drop j)
  above : Limbs.val B64 (us.drop (j + (m + 1))) = 0

theorem LongInv.part {N V : Int} {us zs vz : List Int} {ul zl j m : Nat} (h : LongInv N V us zs ul zl (j + 1)) (hD : Divisor vz m V) (hj : j + m < ul) : Part us vz V j m := by
  have hl := h.ulen
  have h1 := val_take_drop B64 us j (by omega)
  have h2 := val_nonneg B64_pos (h.udig.take j)
  have hp := pow_pos B64_pos j
  have hlt : Limbs.val B64 (us.drop j) < B64 * V := by
    apply Knuth.mul_lt_of hp
    have h3 := h.lt
    rw [Int.pow_succ] at h3
    have e1 : Limbs.val B64 (us.drop j) * B64 ^ j = B64 ^ j * Limbs.val B64 (us.drop j) := Int.mul_comm _ _
    have e2 : B64 * V * B64 ^ j = V * (B64 ^ j * B64) := by grind
    omega
  have hlt2 : Limbs.val B64 (us.drop j) < B64 ^ (m + 1) := by
    have h3 : B64 * (V + 1) ≤ B64 * B64 ^ m := Int.mul_le_mul_of_nonneg_left (by have := hD.lt; omega) (Int.le_of_lt B64_pos)
    have e1 : B64 * (V + 1) = B64 * V + B64 := by grind
    have e2 : B64 ^ (m + 1) = B64 * B64 ^ m := by rw [Int.pow_succ, Int.mul_comm]
    have := B64_pos
    omega
  obtain ⟨h3, h4⟩ := val_take_of_lt (h.udig.drop j) (m + 1) (by simp; omega) hlt2
  rw [List.drop_drop] at h3
  exact ⟨by omega, h.udig, hD, hlt, h4, h3⟩

/-- While the guess is corrected: the part that is left, and whether it was too much. -/
structure Corr (us zs : List Int) (V : Int) (j m : Nat) (q : Int) (over : Bool) : Prop where
  len : zs.length = us.length
  dig : Dig B64 zs
  same : ∀ i, i < j ∨ j + m + 1 ≤ i → zs.getD i 0 = us.getD i 0
  q0 : 0 ≤ q
  q1 : q < B64
  ge : Limbs.val B64 (us.drop j) / V ≤ q
  le : q ≤ Limbs.val B64 (us.drop j) / V + 2
  yes : over = true → Limbs.val B64 (us.drop j) / V < q ∧ Limbs.val B64 (seg zs j (m + 1)) = Limbs.val B64 (us.drop j) - q * V + B64 ^ (m + 1)
  no : over = false → q = Limbs.val B64 (us.drop j) / V ∧ Limbs.val B64 (seg zs j (m + 1)) = Limbs.val B64 (us.drop j) - q * V

theorem Part.rest {us vz : List Int} {V : Int} {j m : Nat} (h : Part us vz V j m) : 0 ≤ Limbs.val B64 (us.drop j) - Limbs.val B64 (us.drop j) / V * V ∧ Limbs.val B64 (us.drop j) - Limbs.val B64 (us.drop j) / V * V < V := by
  have hp := h.dv.pos
  have h1 := Int.ediv_mul_le (Limbs.val B64 (us.drop j)) (show V ≠ 0 by omega)
  have h2 := Int.lt_ediv_add_one_mul_self (Limbs.val B64 (us.drop j)) hp
  have e : (Limbs.val B64 (us.drop j) / V + 1) * V = Limbs.val B64 (us.drop j) / V * V + V := by grind
  omega

theorem Part.seg_bound {us vz zs : List Int} {V : Int} {j m : Nat} (h : Part us vz V j m) (hl : zs.length = us.length) (hd : Dig B64 zs) : 0 ≤ Limbs.val B64 (seg zs j (m + 1)) ∧ Limbs.val B64 (seg zs j (m + 1)) < B64 ^ (m + 1) := by
  have h1 := val_lt B64_pos (seg_dig hd j (m + 1))
  rw [seg_length zs j (m + 1) (by have := h.hj; omega)] at h1
  exact ⟨val_nonneg B64_pos (seg_dig hd j _), h1⟩

theorem Part.vpow {us vz : List Int} {V : Int} {j m : Nat} (h : Part us vz V j m) : 2 * V < B64 ^ (m + 1) := by
  have h1 := h.dv.lt
  have h2 := pow_pos B64_pos m
  rw [Int.pow_succ]
  have h3 : B64 ^ m * 2 ≤ B64 ^ m * B64 := Int.mul_le_mul_of_nonneg_left (by unfold B64; omega) (Int.le_of_lt h2)
  omega

/-- Behind takes. -/
theorem Part.taken {us vz zs : List Int} {V q b : Int} {j m : Nat} (h : Part us vz V j m) (hg : GuessOut us vz j m q) (ht : TakesOut us zs j m (q * V) b) : Corr us zs V j m q (b != 0) := by
  have hQ : quot us vz j m = Limbs.val B64 (us.drop j) / V := by unfold quot; rw [h.same, h.dv.val]
  have e := ht.eqn
  rw [h.same] at e
  have g1 := hg.ge
  have g2 := hg.le
  rw [hQ] at g1 g2
  have hr := h.rest
  have hsb := h.seg_bound ht.len ht.dig
  have hv := h.vpow
  have hvp := h.dv.pos
  have hb : b = 0 ∨ b = 1 := by have := ht.b0; have := ht.b1; omega
  -- how much too great
  generalize hQv : Limbs.val B64 (us.drop j) / V = Q at *
  generalize hUv : Limbs.val B64 (us.drop j) = X at *
  obtain ⟨d, rfl⟩ : ∃ d, q = Q + d := ⟨q - Q, by omega⟩
  have ed : (Q + d) * V = Q * V + d * V := by grind
  have hd : d = 0 ∨ d = 1 ∨ d = 2 := by omega
  refine ⟨ht.len, ht.dig, ht.same, hg.q0, hg.q1, by rw [hUv, hQv]; omega, by rw [hUv, hQv]; omega, fun ho => ?_, fun ho => ?_⟩
  · have hb1 : b = 1 := by rcases hb with rfl | rfl
                           · simp at ho
                           · rfl
    subst hb1
    rw [hUv, hQv]
    refine ⟨?_, by omega⟩
    rcases hd with rfl | rfl | rfl
    · rw [Int.zero_mul] at ed; omega
    · omega
    · omega
  · have hb0 : b = 0 := by rcases hb with rfl | rfl
                           · rfl
                           · simp at ho
    subst hb0
    rw [hUv, hQv]
    refine ⟨?_, by omega⟩
    rcases hd with rfl | rfl | rfl
    · omega
    · rw [Int.one_mul] at ed; omega
    · omega

theorem seg_top_zero {us vz zs : List Int} {V : Int} {j m : Nat} (h : Part us vz V j m) (hl : zs.length = us.length) (hd : Dig B64 zs) : zs.getD (j + m) 0 = 0 ↔ Limbs.val B64 (seg zs j (m + 1)) < B64 ^ m := by
  have hj := h.hj
  have hs := seg_succ zs j m (by omega)
  have h1 := val_nonneg B64_pos (seg_dig hd j m)
  have h2 := val_lt B64_pos (seg_dig hd j m)
  rw [seg_length zs j m (by omega)] at h2
  have h3 := hd.get (j + m) B64_pos
  have hp := pow_pos B64_pos m
  constructor
  · intro h0
    rw [hs, h0]; omega
  · intro hlt
    rcases Int.lt_or_le 0 (zs.getD (j + m) 0) with h4 | h4
    · exfalso
      have : B64 ^ m * 1 ≤ B64 ^ m * zs.getD (j + m) 0 := Int.mul_le_mul_of_nonneg_left (by omega) (Int.le_of_lt hp)
      omega
    · omega

/-- One correction. -/
theorem Corr.back {us vz zs zs' : List Int} {V q b : Int} {j m : Nat} (h : Part us vz V j m) (hc : Corr us zs V j m q true) (hb0 : 0 ≤ b) (hb1 : b ≤ 1) (ht : TakesOut zs zs' j m (B64 ^ (m + 1) * b - V) 0) :
    1 ≤ q ∧ Corr us zs' V j m (q - 1) (zs'.getD (j + m) 0 != 0) := by
  obtain ⟨y1, y2⟩ := hc.yes rfl
  have e := ht.eqn
  rw [y2] at e
  have hlen : zs'.length = us.length := ht.len.trans hc.len
  have hr := h.rest
  have hsb := h.seg_bound hlen ht.dig
  have hv := h.vpow
  have hvp := h.dv.pos
  have hvl := h.dv.lt
  have htop := seg_top_zero h hlen ht.dig
  have hpm := pow_pos B64_pos m
  have hpm1 : B64 ^ (m + 1) = B64 ^ m * B64 := Int.pow_succ ..
  have hbig : B64 ^ m * 2 ≤ B64 ^ m * B64 := Int.mul_le_mul_of_nonneg_left (by unfold B64; omega) (Int.le_of_lt hpm)
  have hge := hc.ge
  have hle := hc.le
  have hx0 : 0 ≤ Limbs.val B64 (us.drop j) / V := Int.ediv_nonneg (val_nonneg B64_pos (h.udig.drop j)) (Int.le_of_lt hvp)
  have hbb : b = 0 ∨ b = 1 := by omega
  have hq0 := hc.q0
  have hq1 := hc.q1
  have hsame := hc.same
  generalize hQv : Limbs.val B64 (us.drop j) / V = Q at *
  generalize hUv : Limbs.val B64 (us.drop j) = X at *
  obtain ⟨d, rfl⟩ : ∃ d, q = Q + 1 + d := ⟨q - Q - 1, by omega⟩
  have ed : (Q + 1 + d) * V = Q * V + V + d * V := by grind
  have ed2 : (Q + 1 + d - 1) * V = Q * V + d * V := by grind
  have hd : d = 0 ∨ d = 1 := by omega
  refine ⟨by omega, hlen, ht.dig, fun i hi => (ht.same i hi).trans (hsame i hi), by omega, by omega, by rw [hUv, hQv]; omega, by rw [hUv, hQv]; omega, fun ho => ?_, fun ho => ?_⟩
  · have hnz : zs'.getD (j + m) 0 ≠ 0 := by intro h0; rw [h0] at ho; simp at ho
    have hge' : B64 ^ m ≤ Limbs.val B64 (seg zs' j (m + 1)) := by
      rcases Int.lt_or_le (Limbs.val B64 (seg zs' j (m + 1))) (B64 ^ m) with h1 | h1
      · exact absurd (htop.2 h1) hnz
      · exact h1
    rw [hUv, hQv]
    rcases hd with rfl | rfl <;> rcases hbb with rfl | rfl <;> simp only [Int.mul_zero, Int.mul_one, Int.zero_mul, Int.one_mul, Int.add_zero] at * <;> constructor <;> omega
  · have hz : zs'.getD (j + m) 0 = 0 := by simpa using ho
    have hlt' := htop.1 hz
    rw [hUv, hQv]
    rcases hd with rfl | rfl <;> rcases hbb with rfl | rfl <;> simp only [Int.mul_zero, Int.mul_one, Int.zero_mul, Int.one_mul, Int.add_zero] at * <;> constructor <;> omega

theorem Corr.one {us vz zs : List Int} {V q : Int} {j m : Nat} (hc : Corr us zs V j m q true) (h : Part us vz V j m) : 1 ≤ q := by
  have h1 := (hc.yes rfl).1
  have h2 : 0 ≤ Limbs.val B64 (us.drop j) / V := Int.ediv_nonneg (val_nonneg B64_pos (h.udig.drop j)) (Int.le_of_lt h.dv.pos)
  omega

/-- The quotient's limb is right: the next one. -/
theorem LongInv.step {N V q : Int} {us zs vz us' : List Int} {ul zl j m : Nat} (h : LongInv N V us zs ul zl (j + 1)) (hP : Part us vz V j m) (hc : Corr us us' V j m q false) (hz : j < zl) : LongInv N V us' (zs.set j q) ul zl j := by
  obtain ⟨n1, n2⟩ := hc.no rfl
  have hl := h.ulen
  have hj := hP.hj
  have hlen := hc.len
  -- the limbs above the part are nought as they were
  have habove : Limbs.val B64 (us'.drop (j + (m + 1))) = 0 := by
    apply val_of_zeros
    intro i
    rw [getD_drop, hc.same _ (by omega)]
    have h1 := val_zero_getD (h.udig.drop (j + (m + 1))) hP.above i
    rwa [getD_drop] at h1
  have hdrop : Limbs.val B64 (us'.drop j) = Limbs.val B64 (seg us' j (m + 1)) := by
    have h1 := val_take_drop B64 (us'.drop j) (m + 1) (by simp; omega)
    rw [List.drop_drop, habove] at h1
    unfold seg; omega
  have htake : us'.take j = us.take j := by
    apply val_congr (by simp; omega)
    intro i
    rcases Nat.lt_or_ge i j with hi | hi
    · rw [getD_take _ _ _ hi, getD_take _ _ _ hi]; exact hc.same i (.inl hi)
    · rw [getD_take_ge _ _ _ hi, getD_take_ge _ _ _ hi]
  have hu := val_take_drop B64 us j (by omega)
  have hu' := val_take_drop B64 us' j (by omega)
  rw [hdrop, n2, htake] at hu'
  have hr := hP.rest
  rw [← n1] at hr
  have hzl := h.zlen
  have hp := pow_pos B64_pos j
  have l1 := val_lt B64_pos (h.udig.take j)
  rw [List.length_take, Nat.min_eq_left (by omega)] at l1
  refine ⟨by omega, by simpa using hzl, hc.dig, h.zdig.set _ hc.q0 hc.q1, ?_, ?_⟩
  · rw [val_drop B64 (zs.set j q) j (by simp; omega), Limbs.getD_set_eq _ _ _ (by omega), drop_set_lt _ _ _ _ (by omega), hu', h.eqn, hu, Int.pow_succ]
    grind
  · rw [hu']
    have h1 : B64 ^ j * (Limbs.val B64 (us.drop j) - q * V + 1) ≤ B64 ^ j * V := Int.mul_le_mul_of_nonneg_left (by omega) (Int.le_of_lt hp)
    have e : B64 ^ j * (Limbs.val B64 (us.drop j) - q * V + 1) = B64 ^ j * (Limbs.val B64 (us.drop j) - q * V) + B64 ^ j := by grind
    have e2 : V * B64 ^ j = B64 ^ j * V := Int.mul_comm _ _
    omega
end Go.Proofs.YtdlcleecjeipnaaGreatDoor

/- nat.long: what is left, shifted back; the walk. -/
namespace Go.Proofs.YtdlcleecjeipnaaGreatDoor
open Go.RowKit Go.Proofs.YtdlcleecjeipnaaGreatDoorW.PrintWords Limbs
set_option linter.unusedVariables false

theorem LongInv.fin {us zs : List Int} {ul zl s a b : Nat} (h : LongInv (a * 2 ^ s) (b * 2 ^ s) us zs ul zl 0) (hb : 0 < b) : Limbs.val B64 zs = ((a / b : Nat) : Int) ∧ Limbs.val B64 us = ((a % b : Nat) : Int) * 2 ^ s := by
  have p0 : (0 : Int) < 2 ^ s := pow_pos (by decide) s
  have e := h.eqn
  have hlt := h.lt
  have hu := val_nonneg B64_pos h.udig
  simp only [List.drop_zero, Int.pow_zero, Int.mul_one] at e hlt
  generalize Limbs.val B64 zs = q at *
  generalize Limbs.val B64 us = u at *
  have e1 : u = (a - q * b) * 2 ^ s := by
    have : ((a : Int) - q * b) * 2 ^ s = a * 2 ^ s - q * (b * 2 ^ s) := by grind
    omega
  have m0 : 0 ≤ (a : Int) - q * b := by
    rcases Int.lt_or_le ((a : Int) - q * b) 0 with h1 | h1
    · have := Int.mul_neg_of_neg_of_pos h1 p0; omega
    · exact h1
  have m1 : (a : Int) - q * b < b := by
    apply Knuth.mul_lt_of p0
    rw [← e1]; exact hlt
  have hq : q = (a : Int) / b := by
    have e2 : (a : Int) = (a - q * b) + q * b := by omega
    rw [e2, Int.add_mul_ediv_right _ _ (by omega), Int.ediv_eq_zero_of_lt m0 m1]; omega
  refine ⟨by rw [hq]; rfl, ?_⟩
  rw [e1]
  congr 1
  have := Int.mul_ediv_add_emod (a : Int) b
  rw [← hq] at this
  have e3 : (b : Int) * q = q * b := Int.mul_comm _ _
  have e4 : ((a % b : Nat) : Int) = (a : Int) % b := rfl
  omega

/-- Two limbs shifted to the right, together. -/
theorem right_words {x y : Int} {s : Nat} (hs : s ≤ 63) (x0 : 0 ≤ x) (x1 : x < B64) (y0 : 0 ≤ y) (y1 : y < B64) :
    ∃ v : Int, bits .or .u64 (x / 2 ^ s) (IntKind.u64.wrap (IntKind.u64.wrap (y * 2) * 2 ^ (63 - s))) = v ∧ 0 ≤ v ∧ v < B64 ∧ v * 2 ^ s = x - x % 2 ^ s + (y % 2 ^ s) * B64 := by
  have pp := pow_split hs
  have p0 : (0 : Int) < 2 ^ s := pow_pos (by decide) s
  have q0 : (0 : Int) < 2 ^ (64 - s) := pow_pos (by decide) _
  have hy := Int.mul_ediv_add_emod y (2 ^ s)
  have r0 := Int.emod_nonneg y (show (2 : Int) ^ s ≠ 0 by omega)
  have r1 := Int.emod_lt_of_pos y p0
  have hx := Int.mul_ediv_add_emod x (2 ^ s)
  have t0 : 0 ≤ x / 2 ^ s := Int.ediv_nonneg x0 (Int.le_of_lt p0)
  have t1 : x / 2 ^ s < 2 ^ (64 - s) := by
    apply Int.ediv_lt_of_lt_mul p0
    rw [Int.mul_comm, pp]; exact x1
  have hlim : (y % 2 ^ s) * 2 ^ (64 - s) + 2 ^ (64 - s) ≤ B64 := by
    have h3 : (y % 2 ^ s + 1) * 2 ^ (64 - s) ≤ 2 ^ s * 2 ^ (64 - s) := Int.mul_le_mul_of_nonneg_right (by omega) (Int.le_of_lt q0)
    rw [pp] at h3
    have e : (y % 2 ^ s + 1) * 2 ^ (64 - s) = y % 2 ^ s * 2 ^ (64 - s) + 2 ^ (64 - s) := by grind
    omega
  have hn := Int.mul_nonneg r0 (Int.le_of_lt q0)
  have eL : IntKind.u64.wrap (IntKind.u64.wrap (y * 2) * 2 ^ (63 - s)) = (y % 2 ^ s) * 2 ^ (64 - s) := by
    obtain ⟨k, hk⟩ := wrap_back (y * 2)
    refine wrap_eq (y / 2 ^ s + k * 2 ^ (63 - s)) hn (by omega) ?_
    have e63 : (2 : Int) * 2 ^ (63 - s) = 2 ^ (64 - s) := by rw [← Int.pow_succ', show 63 - s + 1 = 64 - s from by omega]
    rw [hk]
    have e1 : (y * 2 + B64 * k) * 2 ^ (63 - s) = y * (2 * 2 ^ (63 - s)) + B64 * k * 2 ^ (63 - s) := by grind
    rw [e1, e63]
    have e2 : y * 2 ^ (64 - s) = (2 ^ s * (y / 2 ^ s) + y % 2 ^ s) * 2 ^ (64 - s) := by rw [hy]
    rw [e2]
    have e3 : (2 ^ s * (y / 2 ^ s) + y % 2 ^ s) * 2 ^ (64 - s) = (2 ^ s * 2 ^ (64 - s)) * (y / 2 ^ s) + y % 2 ^ s * 2 ^ (64 - s) := by grind
    rw [e3, pp]
    grind
  have eO : bits .or .u64 (x / 2 ^ s) ((y % 2 ^ s) * 2 ^ (64 - s)) = (y % 2 ^ s) * 2 ^ (64 - s) + x / 2 ^ s := by
    rcases Nat.eq_zero_or_pos s with h0 | h0
    · subst h0
      have : y % 2 ^ 0 = 0 := by simp [Int.emod_one]
      rw [this, Int.zero_mul, Int.zero_add]
      have e5 : x / 2 ^ 0 = x := by simp
      rw [e5]
      obtain ⟨x, rfl⟩ := Int.eq_ofNat_of_zero_le x0
      unfold B64 at x1
      have := u64_or_nat x 0 (by omega) (by omega)
      simpa using this
    · have h := or_add (s := 64 - s) (by omega) r0 (by omega) t0 t1
      rw [← h]
      obtain ⟨t, ht⟩ := Int.eq_ofNat_of_zero_le t0
      obtain ⟨m, hm⟩ := Int.eq_ofNat_of_zero_le hn
      rw [ht] at t1 ⊢
      rw [hm] at hlim ⊢
      have hz : (t : Int) < B64 := by omega
      have hm2 : (m : Int) < B64 := by omega
      unfold B64 at hz hm2
      rw [u64_or_nat _ _ (by omega) (by omega), u64_or_nat _ _ (by omega) (by omega), Nat.or_comm]
  refine ⟨(y % 2 ^ s) * 2 ^ (64 - s) + x / 2 ^ s, by rw [eL]; exact eO, by omega, by omega, ?_⟩
  have e1 : ((y % 2 ^ s) * 2 ^ (64 - s) + x / 2 ^ s) * 2 ^ s = y % 2 ^ s * (2 ^ s * 2 ^ (64 - s)) + 2 ^ s * (x / 2 ^ s) := by grind
  rw [e1, pp]
  omega

/-- What is left, behind k limbs of it. -/
structure RestInv (us rs : List Int) (s m k : Nat) : Prop where
  len : rs.length = m
  dig : Dig B64 rs
  eqn : Limbs.val B64 (rs.take k) * 2 ^ s = Limbs.val B64 (us.take k) + us.getD k 0 % 2 ^ s * B64 ^ k

theorem RestInv.start {us : List Int} {s r : Nat} (m : Nat) (hu : Dig B64 us) (hs : s ≤ 63) (h : Limbs.val B64 us = (r : Int) * 2 ^ s) : RestInv us (List.replicate m 0) s m 0 := by
  refine ⟨by simp, Dig.replicate B64_pos _, ?_⟩
  have h0 : us.getD 0 0 % 2 ^ s = 0 := by
    cases us with
    | nil => simp
    | cons x us =>
      simp only [List.getD_cons_zero]
      simp only [Limbs.val] at h
      have pp := pow_split hs
      rw [← pp] at h
      have e : x = 2 ^ s * (r - 2 ^ (64 - s) * Limbs.val (2 ^ s * 2 ^ (64 - s)) us) := by grind
      rw [e]
      exact Int.mul_emod_right _ _
  rw [h0]; simp [Limbs.val]

theorem RestInv.step {us rs : List Int} {s m k : Nat} {v : Int} (h : RestInv us rs s m k) (hk : k < m) (hku : k + 1 < us.length) (v0 : 0 ≤ v) (v1 : v < B64) (he : v * 2 ^ s = us.getD k 0 - us.getD k 0 % 2 ^ s + us.getD (k + 1) 0 % 2 ^ s * B64) : RestInv us (rs.set k v) s m (k + 1) := by
  have hl := h.len
  refine ⟨by simpa using hl, h.dig.set _ v0 v1, ?_⟩
  rw [val_take_set B64 v rs k (by omega), val_take_succ B64 us k (by omega), Int.pow_succ]
  have e := h.eqn
  have h3 : B64 ^ k * (v * 2 ^ s) = B64 ^ k * (us.getD k 0 - us.getD k 0 % 2 ^ s + us.getD (k + 1) 0 % 2 ^ s * B64) := by rw [he]
  grind

theorem RestInv.fin {us rs : List Int} {s m r : Nat} (h : RestInv us rs s m m) (hu : Dig B64 us) (hl : m < us.length) (hr : Limbs.val B64 us = (r : Int) * 2 ^ s) (hlt : Limbs.val B64 us < B64 ^ m) : Limbs.val B64 rs = r := by
  have hlen := h.len
  have p0 : (0 : Int) < 2 ^ s := pow_pos (by decide) s
  obtain ⟨h1, h2⟩ := val_take_of_lt hu m (by omega) hlt
  have h3 : us.getD m 0 = 0 := by
    have := val_zero_getD (hu.drop m) h1 0
    rwa [getD_drop] at this
  have e := h.eqn
  rw [List.take_of_length_le (by omega), h2, h3, hr] at e
  simp only [Int.zero_emod, Int.zero_mul, Int.add_zero] at e
  exact Int.eq_of_mul_eq_mul_right (by omega) e

theorem LongInv.begin {xs us vz : List Int} {s a b m L : Nat} (hU : LeftInv xs us s xs.length) (hD : Divisor vz m (b * 2 ^ s)) (hx : Lim xs a) (hs : s ≤ 63) (hm : m ≤ xs.length) (hL : L = xs.length - m + 1) :
    LongInv (a * 2 ^ s) (b * 2 ^ s) us (List.replicate L 0) (xs.length + 1) L L := by
  have hl := hU.len
  have e := hU.eqn
  rw [List.take_length, hx.val, List.take_of_length_le (by omega)] at e
  refine ⟨hl, by simp, hU.dig, Dig.replicate B64_pos _, ?_, ?_⟩
  · rw [List.drop_eq_nil_of_le (by simp)]; simp only [Limbs.val]; omega
  · rw [e]
    have p0 : (0 : Int) < 2 ^ s := pow_pos (by decide) s
    have h1 := val_lt B64_pos hx.dig
    rw [hx.val] at h1
    -- a 2^s < B^n 2^63, and the divisor is at least B^m / 2
    have h2 : (a : Int) * 2 ^ s < B64 ^ xs.length * 2 ^ s := Int.mul_lt_mul_of_pos_right h1 p0
    have h3 : (2 : Int) ^ s ≤ 2 ^ 63 := pow_le_pow (by decide) hs
    have h4 : B64 ^ xs.length * 2 ^ s ≤ B64 ^ xs.length * 2 ^ 63 := Int.mul_le_mul_of_nonneg_left h3 (Int.le_of_lt (pow_pos B64_pos _))
    obtain ⟨k, rfl⟩ : ∃ k, m = k + 1 := ⟨m - 1, by have := hD.m2; omega⟩
    have hdl := hD.len
    have hv := hD.val
    rw [val_take_succ B64 vz k (by omega)] at hv
    have ht := hD.top
    simp only [Nat.add_sub_cancel] at ht
    have h5 := val_nonneg B64_pos (hD.dig.take k)
    have h6 : B64 ^ k * 2 ^ 63 ≤ b * 2 ^ s := by
      have h7 : (2 : Int) ^ 63 ≤ vz.getD k 0 := by
        have : (2 : Int) * 2 ^ 63 = B64 := rfl
        omega
      have h8 : B64 ^ k * 2 ^ 63 ≤ B64 ^ k * vz.getD k 0 := Int.mul_le_mul_of_nonneg_left h7 (Int.le_of_lt (pow_pos B64_pos _))
      omega
    have h9 : B64 ^ k * 2 ^ 63 * B64 ^ L ≤ b * 2 ^ s * B64 ^ L := Int.mul_le_mul_of_nonneg_right h6 (Int.le_of_lt (pow_pos B64_pos _))
    have h10 : B64 ^ k * 2 ^ 63 * B64 ^ L = B64 ^ xs.length * 2 ^ 63 := by
      have : B64 ^ k * 2 ^ 63 * B64 ^ L = (B64 ^ k * B64 ^ L) * 2 ^ 63 := by grind
      rw [this, ← Int.pow_add, show k + L = xs.length from by omega]
    omega

theorem Ext.only {a w w' : World} {g : Nat} (h : Ext a w) (hg : w.grownBy w' (some g)) (hge : a.heap.size ≤ g) : Ext a w' :=
  Below.grown h hg h.size (fun k hk => by injection hk with hk; omega)

/-- What long answers. -/
def LongPost (a b L m : Nat) (w : World) (e : Ending) (w' : World) : Prop :=
  ∃ (gq gr : Nat) (zq zr : List Int), e = .returned (.tuple #[.slice (some ⟨gq, 0, none⟩) L L, .slice (some ⟨gr, 0, none⟩) m m]) ∧ Arr w' gq zq ∧ Arr w' gr zr ∧ zq.length = L ∧ zr.length = m ∧ Dig B64 zq ∧ Dig B64 zr ∧
    Limbs.val B64 zq = ((a / b : Nat) : Int) ∧ Limbs.val B64 zr = ((a % b : Nat) : Int) ∧ Ext w w'
end Go.Proofs.YtdlcleecjeipnaaGreatDoor

/- nat.long: the walk. -/
namespace Go.Proofs.YtdlcleecjeipnaaGreatDoor
open Go.RowKit Go.Proofs.YtdlcleecjeipnaaGreatDoorW.PrintWords Limbs
set_option linter.unusedVariables false

set_option maxHeartbeats 4000000 in
set_option maxRecDepth 100000 in
theorem long_any {w : World} {A A' : Option Addr} {c c' : Nat} {xs ys : List Int} {a b L : Nat} (h1 : xs.length ≤ c) (h2 : U.C w A xs.length xs) (h3 : Lim xs a) (k1 : ys.length ≤ c') (k2 : U.C w A' ys.length ys) (k3 : Lim ys b)
    (hm : 2 ≤ ys.length) (hl : ys.length ≤ xs.length) (hx : xs.length + 2 ≤ 35184372088832) (hL : L + ys.length = xs.length + 1) :
    Calls Tryz.prog 154 #[.slice A xs.length c, .slice A' ys.length c'] w (LongPost a b L ys.length w) := by
  have hLi : ((xs.length : Int) - ys.length + 1) = L := by omega
  have HLn := Lib.hid hL
  have lL1 : 1 ≤ L := by omega
  have lL2 : L ≤ xs.length := by omega
  clear hL
  -- the divisor's highest limb
  obtain ⟨ad', rfl, hcell⟩ := Kd.at_int k2 ((ys.length - 1 : Nat) : Int) (by omega) (by omega)
  have hct : w.cell? (ad'.add (ys.length - 1)) = some (.int .u64 (ys.getD (ys.length - 1) 0)) := hcell
  clear hcell
  have hyt : 0 < ys.getD (ys.length - 1) 0 := by
    have h0 := (k3.dig.get (ys.length - 1) B64_pos).1
    have hne : ys.getD (ys.length - 1) 0 ≠ 0 := by
      apply k3.nrm
      rw [List.getLast?_eq_getElem?, List.getD_eq_getElem?_getD, List.getElem?_eq_getElem (show ys.length - 1 < ys.length by omega)]; rfl
    omega
  obtain ⟨s, ⟨hs, hs1, hs2⟩, hlz⟩ := lz64 _ hyt (k3.dig.get (ys.length - 1) B64_pos).2
  obtain ⟨yt, hytn⟩ : ∃ y, Hid (y = ys.getD (ys.length - 1) 0) := ⟨_, Lib.hid rfl⟩
  rw [← hytn.out] at hct hlz
  have HLz := Lib.hid hlz
  have Hs1 := Lib.hid hs1
  have Hs2 := Lib.hid hs2
  clear hlz hs1 hs2 hyt hytn
  go_enter Tryz.func154, Tryz.ntmps154
  go_upto_region 2 with (go_at_call 195; refine (HLz.out _).mono ?_; rintro e w' ⟨rfl, rfl⟩)
  go_cut [7, 8] (fun u v wc => ∃ (gu gv : Nat) (us vz : List Int), u = .slice (some ⟨gu, 0, none⟩) (xs.length + 1) (xs.length + 1) ∧ v = .slice (some ⟨gv, 0, none⟩) ys.length (ys.length + 1) ∧ Arr wc gu us ∧ Arr wc gv vz ∧ w.heap.size ≤ gu ∧ gu < gv ∧ LeftInv xs us s xs.length ∧ LeftInv ys vz s ys.length ∧ Ext w wc)
  case first =>
    have CL : ∀ W, Ext w W → Calls Tryz.prog 196 #[.slice A xs.length c, .int .i64 s] W (LeftPost xs s W) := fun W hW => left_any h1 (Kd.C_below h2 hW) h3.dig (by omega) hs
    have CR : ∀ W, Ext w W → Calls Tryz.prog 196 #[.slice (some ad') ys.length c', .int .i64 s] W (LeftPost ys s W) := fun W hW => left_any k1 (Kd.C_below k2 hW) k3.dig (by omega) hs
    have HL := Lib.hid CL
    have HR := Lib.hid CR
    clear HLz hct CL CR h2 k2 h3 k3 Hs1 Hs2
    go_region_with (first
      | (go_at_call_of 196 (Value.slice A xs.length c); refine (HL.out _ ?_).mono ?_; exact Ext.drew w; rintro e w1 ⟨gu, us, rfl, hAu, hgu, hIu, hEu⟩)
      | (go_at_call_of 196 (Value.slice (some ad') ys.length c'); refine (HR.out _ ?_).mono ?_; exact (Ext.drew w).trans hEu; rintro e w2 ⟨gv, vz, rfl, hAv, hgv, hIv, hEv⟩))
    all_goals
      go_wp2_with fail
      go_meet
      exact ⟨gu, gv, us, vz, rfl, rfl, hAu.ext hEv, hAv, hgu, Nat.lt_of_lt_of_le hAu.lt hgv, hIu, hIv, (Ext.drew w).trans (hEu.trans hEv)⟩
  case rest =>
    obtain ⟨gu, gv, us, vz, rfl, rfl, hAu, hAv, hgu, hguv, hIu, hIv, hE⟩ := hcut
    clear HLz hct
    have hD := Divisor.of_left k3 hm hIv Hs1.out Hs2.out
    have hvl := hD.len
    have hul := hIu.len
    have hI0 : LongInv (a * 2 ^ s) (b * 2 ^ s) us (List.replicate L 0) (xs.length + 1) L L := LongInv.begin hIu hD h3 hs hl (by have := HLn.out; omega)
    obtain ⟨O, HO, hmk⟩ := make_words L (by omega)
    have hA0 : Arr (wc.alloc O) wc.heap.size (List.replicate L 0) := by rw [HO.out]; exact Arr.new wc _
    have hAu0 := hAu.ext (Ext.alloc wc O)
    have hAv0 := hAv.ext (Ext.alloc wc O)
    have hE0 : Ext w (wc.alloc O) := hE.trans (Ext.alloc wc O)
    have hgq : gv < wc.heap.size := hAv.lt
    obtain ⟨gq, hgqn⟩ : ∃ g, Hid (wc.heap.size = g) := ⟨_, Lib.hid rfl⟩
    have hmk2 := hmk wc
    rw [hgqn.out] at hmk2 hA0 hgq
    clear hmk
    obtain ⟨wd, hwd⟩ : ∃ wd, Hid (wc.alloc O = wd) := ⟨_, Lib.hid rfl⟩
    rw [hwd.out] at hmk2 hA0 hAu0 hAv0 hE0
    clear hAu hAv hE HO hwd hgqn hIu hIv Hs1 Hs2
    go_wp2_with fail
    go_loopw [10] (fun ix wr => ∃ (k : Nat) (us zs : List Int), ix = .int .i64 ((k : Int) - 1) ∧ k ≤ L ∧ LongInv (a * 2 ^ s) (b * 2 ^ s) us zs (xs.length + 1) L k ∧ Arr wr gu us ∧ Arr wr gv vz ∧ Arr wr gq zs ∧ Ext w wr) (fun ix _ => (intOf ix + 1).toNat)
    case atStart => exact ⟨L, us, _, rfl, Nat.le_refl _, hI0, hAu0, hAv0, hA0, hE0⟩
    case round =>
      clear hmk2 hAu0 hAv0 hA0 hE0 hI0 hul hLi
      obtain ⟨k, us, zs, rfl, hk, hI, hAu, hAv, hAq, hE⟩ := hrel
      obtain ⟨wo, rfl⟩ : ∃ wo : World, wo = wr := ⟨_, rfl⟩
      rcases Nat.eq_zero_or_pos k with h0 | h0
      · subst h0
        have ek : (((0 : Nat) : Int) - 1) = -1 := by omega
        rw [ek]
        clear ek
        have hb0 : 0 < b := by
          rcases Nat.eq_zero_or_pos b with h | h
          · have := hD.pos; rw [h] at this; simp at this
          · exact h
        obtain ⟨eq1, er1⟩ := hI.fin hb0
        have hul := hI.ulen
        have hzl := hI.zlen
        have hlt := hI.lt
        have hsm : Limbs.val B64 us < B64 ^ ys.length := by
          have h := hlt
          simp only [Int.pow_zero, Int.mul_one] at h
          exact Int.lt_trans h hD.lt
        obtain ⟨O, HO, hmk⟩ := make_words ys.length (by omega)
        have hR0 : Arr (wo.alloc O) wo.heap.size (List.replicate ys.length 0) := by rw [HO.out]; exact Arr.new wo _
        have hAu0 := hAu.ext (Ext.alloc wo O)
        have hAq0 := hAq.ext (Ext.alloc wo O)
        have hE0 : Ext w (wo.alloc O) := hE.trans (Ext.alloc wo O)
        have hgr : gq < wo.heap.size := hAq.lt
        have hgu2 : gu < wo.heap.size := hAu.lt
        have hwg : w.heap.size ≤ wo.heap.size := hE.size
        have hJ0 := RestInv.start ys.length hI.udig hs er1
        obtain ⟨gr, hgrn⟩ : ∃ g, Hid (wo.heap.size = g) := ⟨_, Lib.hid rfl⟩
        have hmk2 := hmk wo
        rw [hgrn.out] at hmk2 hR0 hgr hgu2 hwg
        clear hmk
        obtain ⟨wd, hwd⟩ : ∃ wd, Hid (wo.alloc O = wd) := ⟨_, Lib.hid rfl⟩
        rw [hwd.out] at hmk2 hR0 hAu0 hAq0 hE0
        have HI := Lib.hid hI
        have Heq := Lib.hid eq1
        have Her := Lib.hid er1
        have Hsm := Lib.hid hsm
        clear hAu hAv hAq hE HO hwd hgrn hI eq1 er1 hsm hlt hD h3 k3 hvl
        go_wp2_with fail
        go_loopw [87] (fun ix wq => ∃ (k : Nat) (rs : List Int), ix = .int .i64 k ∧ k ≤ ys.length ∧ RestInv us rs s ys.length k ∧ Arr wq gu us ∧ Arr wq gq zs ∧ Arr wq gr rs ∧ Ext w wq) (fun ix _ => ys.length - (intOf ix).toNat)
        case atStart => exact ⟨0, _, rfl, Nat.zero_le _, hJ0, hAu0, hAq0, hR0, hE0⟩
        case round =>
          clear hmk2 hAu0 hAq0 hR0 hE0 hJ0
          obtain ⟨k, rs, rfl, hk, hJ, hAu, hAq, hAr, hE⟩ := hrel
          have hrl := hJ.len
          by_cases hkl : k < ys.length
          · have hcx := hAu.cell k (by omega)
            have hcy := hAu.cell (k + 1) (by omega)
            have dx := HI.out.udig.get k B64_pos
            have dy := HI.out.udig.get (k + 1) B64_pos
            have hst := fun v v0 v1 he => hJ.step (v := v) hkl (by omega) v0 v1 he
            obtain ⟨x, hxx⟩ : ∃ x, Hid (x = us.getD k 0) := ⟨_, Lib.hid rfl⟩
            obtain ⟨y, hyy⟩ : ∃ y, Hid (y = us.getD (k + 1) 0) := ⟨_, Lib.hid rfl⟩
            rw [← hxx.out] at hcx dx
            rw [← hyy.out] at hcy dy
            rw [← hxx.out, ← hyy.out] at hst
            obtain ⟨v, ev, v0, v1, he⟩ := right_words hs dx.1 dx.2 dy.1 dy.2
            have hJ' := hst v v0 v1 he
            have hco := hAr.cell k (by omega)
            have hfo := hAr.free k
            obtain ⟨z, hz⟩ : ∃ z, Hid (z = rs.getD k 0) := ⟨_, Lib.hid rfl⟩
            rw [← hz.out] at hco
            have hAr' := hAr.set k v
            have hAu' := hAu.far (p := ⟨gr, k, none⟩) (show gu ≠ gr by omega) (.int .u64 v)
            have hAq' := hAq.far (p := ⟨gr, k, none⟩) (show gq ≠ gr by omega) (.int .u64 v)
            have hE' : Ext w (wr.setCell ⟨gr, k, none⟩ (.int .u64 v)) := Below.setCell hE (show w.heap.size ≤ gr by omega) _
            clear hxx hyy hz hst hJ hAr hAu hAq hE dx dy v0 v1 he HI
            go_wp2
            go_region
            go_wp2
            go_roundw
            case rel => exact ⟨k + 1, _, by go_num, by omega, hJ', hAu', hAq', hAr', below_drew hE'⟩
            case measure => simp [intOf]; omega
          · obtain rfl : k = ys.length := by omega
            have hfin := hJ.fin HI.out.udig (by omega) Her.out Hsm.out
            have hPost : ∀ W, Arr W gq zs → Arr W gr rs → Ext w W → LongPost a b L ys.length w (.returned (.tuple #[.slice (some ⟨gq, 0, none⟩) L L, .slice (some ⟨gr, 0, none⟩) ys.length ys.length])) W := fun W g1 g2 g3 => ⟨gq, gr, zs, rs, rfl, g1, g2, hzl, hrl, HI.out.zdig, hJ.dig, Heq.out, hfin, g3⟩
            clear HI Heq Her Hsm hJ hfin
            go_wp2
            go_ret2
            exact hPost _ hAq hAr hE
      · obtain ⟨j, rfl⟩ : ∃ j, k = j + 1 := ⟨k - 1, by omega⟩
        have ej : ((j + 1 : Nat) : Int) - 1 = (j : Int) := by omega
        rw [ej]
        clear ej
        have hul := hI.ulen
        have hzl := hI.zlen
        have hjm : j + ys.length ≤ xs.length := by have := HLn.out; omega
        have hP := hI.part hD (show j + ys.length < xs.length + 1 by omega)
        have hvd := hD.val
        have htop := hD.top
        have hltp : Limbs.val B64 (seg us j (ys.length + 1)) < B64 * Limbs.val B64 (vz.take ys.length) := by rw [hP.same, hvd]; exact hP.lt
        obtain ⟨cu, hcun⟩ : ∃ cu, xs.length + 1 - j = cu := ⟨_, rfl⟩
        have hsub : j + ys.length + 1 - j = ys.length + 1 := by omega
        have hcu : ys.length + 1 ≤ cu := by omega
        have hgs := guess_any (cu := cu) (cv := ys.length + 1) hAu hAv hI.udig hD.dig hm (by omega) (show j + ys.length < us.length by omega) hcu (by omega) (by omega) htop hltp
        have HG := Lib.hid hgs
        have HP := Lib.hid hP
        have HVd := Lib.hid hvd
        have HI := Lib.hid hI
        clear hgs htop hltp hvd hP hI
        go_wp2_with fail
        refine HG.out.mono ?_
        rintro e w1 ⟨q, rfl, hG, hE1⟩
        replace hAu := hAu.ext hE1
        replace hAv := hAv.ext hE1
        replace hAq := hAq.ext hE1
        replace hE := hE.trans hE1
        clear HG hE1
        have hcq := hAq.cell j (by omega)
        have hfq := hAq.free j
        obtain ⟨z, hz⟩ : ∃ z, Hid (z = zs.getD j 0) := ⟨_, Lib.hid rfl⟩
        rw [← hz.out] at hcq
        clear hz
        have hAq' := hAq.set j q
        have hAu' := hAu.far (p := ⟨gq, j, none⟩) (show gu ≠ gq by omega) (.int .u64 q)
        have hAv' := hAv.far (p := ⟨gq, j, none⟩) (show gv ≠ gq by omega) (.int .u64 q)
        have hE' : Ext w (w1.setCell ⟨gq, j, none⟩ (.int .u64 q)) := Below.setCell hE (show w.heap.size ≤ gq by omega) _
        have hcq' : (w1.setCell ⟨gq, j, none⟩ (.int .u64 q)).cell? ⟨gq, j, none⟩ = some (.int .u64 q) := by
          have := hAq'.cell j (by simp; omega)
          rwa [Limbs.getD_set_eq _ _ _ (by omega)] at this
        have htk := takes_any (cu := cu) (cv := ys.length + 1) hAu' hAv' (show gv ≠ gu by omega) HI.out.udig hD.dig (by omega) (show j + ys.length < us.length by omega) hcu (by omega) (by omega) hG.q0 hG.q1
        rw [HVd.out] at htk
        have HT := Lib.hid htk
        clear htk hAu hAv hAu' hE
        go_wp2_with fail
        refine HT.out.mono ?_
        rintro e w2 ⟨us1, bb, rfl, hO, hAu2, hG2⟩
        have hAv2 := hAv'.other hG2 (show gv ≠ gu by omega)
        have hAq2 := hAq'.other hG2 (show gq ≠ gu by omega)
        have hE2 := hE'.only hG2 hgu
        have hC := HP.out.taken hG hO
        obtain ⟨ov, hov⟩ : ∃ ov, (bb != 0) = ov := ⟨_, rfl⟩
        rw [hov] at hC ⊢
        clear hov HT hG hO hG2 hAv' hAq' hE' hcq' hcq hfq hAq hcun hsub
        go_wp2_with fail
        go_loopg [12] q.toNat (fun kq o wq => ∃ (q : Int) (us1 : List Int) (ov : Bool), o = .bool ov ∧ Hid (kq = q.toNat) ∧ Corr us us1 (b * 2 ^ s) j ys.length q ov ∧ Arr wq gu us1 ∧ Arr wq gv vz ∧ Arr wq gq (zs.set j q) ∧ Ext w wq)
        case atStart => exact ⟨q, us1, ov, rfl, Lib.hid rfl, hC, hAu2, hAv2, hAq2, hE2⟩
        case round =>
          clear hC hAu2 hAv2 hAq2 hE2
          obtain ⟨q, us1, ov, rfl, hkq, hC, hAu, hAv, hAq, hE⟩ := hrel
          cases ov with
          | false =>
            have hI' := HI.out.step HP.out hC (show j < L by omega)
            clear hC HP HI
            go_wp2
            go_roundw
            case rel => exact ⟨j, us1, _, rfl, by omega, hI', hAu, hAv, hAq, hE⟩
            case measure => simp [intOf]
          | true =>
            have hq1 := hC.one HP.out
            have hq2 := hC.q1
            unfold B64 at hq2
            have hcq := hAq.cell j (by simp; omega)
            have hfq := hAq.free j
            rw [Limbs.getD_set_eq _ _ _ (by omega)] at hcq
            have hAq' := hAq.set j (q - 1)
            rw [List.set_set] at hAq'
            have hAu' := hAu.far (p := ⟨gq, j, none⟩) (show gu ≠ gq by omega) (.int .u64 (q - 1))
            have hAv' := hAv.far (p := ⟨gq, j, none⟩) (show gv ≠ gq by omega) (.int .u64 (q - 1))
            have hE' : Ext w (wr.setCell ⟨gq, j, none⟩ (.int .u64 (q - 1))) := Below.setCell hE (show w.heap.size ≤ gq by omega) _
            have hu1 : us1.length = us.length := hC.len
            have hgv := gives_any (cu := cu) (cv := ys.length + 1) hAu' hAv' (show gv ≠ gu by omega) hC.dig hD.dig (by omega) (show j + ys.length < us1.length by omega) hcu (by omega) (by omega)
            rw [HVd.out] at hgv
            have HT := Lib.hid hgv
            clear hgv hAu hAv hAq hE hAu'
            go_wp2_with fail
            refine HT.out.mono ?_
            rintro e w3 ⟨us2, b2, rfl, b0, b1, hO, hAu3, hG3⟩
            have hAv3 := hAv'.other hG3 (show gv ≠ gu by omega)
            have hAq3 := hAq'.other hG3 (show gq ≠ gu by omega)
            have hE3 := hE'.only hG3 hgu
            have hC3 := (hC.back HP.out b0 b1 hO).2
            have hu2 : us2.length = us.length := hC3.len
            have hcm := hAu3.cell (j + ys.length) (by omega)
            obtain ⟨z, hz⟩ : ∃ z, Hid (z = us2.getD (j + ys.length) 0) := ⟨_, Lib.hid rfl⟩
            rw [← hz.out] at hcm hC3
            clear hz hC HT hO hG3 hAv' hAq' hE' hcq hfq b0 b1 HP HI
            go_wp2
            go_roundg (q - 1).toNat
            case measure => have := hkq.out; omega
            case rel => exact ⟨q - 1, us2, _, rfl, Lib.hid rfl, hC3, hAu3, hAv3, hAq3, hE3⟩
end Go.Proofs.YtdlcleecjeipnaaGreatDoor

/- nat.Div. -/
namespace Go.Proofs.YtdlcleecjeipnaaGreatDoor
open Go.RowKit Go.Proofs.YtdlcleecjeipnaaGreatDoorW.PrintWords Limbs
set_option linter.unusedVariables false

theorem Lim.two {xs : List Int} {a : Nat} (h3 : Lim xs a) (ha : B64 ≤ (a : Int)) : 2 ≤ xs.length := by
  rcases Nat.lt_or_ge xs.length 2 with hlt | hge
  · have h4 := val_lt B64_pos h3.dig
    have h5 : B64 ^ xs.length ≤ B64 ^ 1 := pow_le_pow B64_pos (by omega)
    rw [h3.val] at h4
    simp only [Int.pow_succ, Int.pow_zero, Int.one_mul] at h5
    omega
  · exact hge
theorem Lim.one {b : Nat} (h0 : 0 < b) (h1 : (b : Int) < B64) : Lim [(b : Int)] b :=
  ⟨Dig.cons (by omega) h1 (Dig.nil _), by intro x hx; simp at hx; omega, val_single _ _⟩
theorem ShortInv.fin {xs zs : List Int} {a b : Nat} {r : Int} (h : ShortInv xs zs b 0 r) (hx : Lim xs a) (hb : 0 < b) : (Limbs.val B64 zs).toNat = a / b ∧ r = ((a % b : Nat) : Int) := by
  have e := h.eqn
  have r0 := h.r0
  have r1 := h.r1
  have v0 := val_nonneg B64_pos h.dig
  simp only [List.drop_zero] at e
  rw [hx.val] at e
  obtain ⟨q, hq⟩ := Int.eq_ofNat_of_zero_le v0
  obtain ⟨s, rfl⟩ := Int.eq_ofNat_of_zero_le r0
  rw [hq] at e ⊢
  have e' : q * b + s = a := by exact_mod_cast e
  have s1 : s < b := by omega
  subst e'
  rw [Int.toNat_natCast, Nat.mul_comm q b, Nat.mul_add_div hb, Nat.mul_add_mod, Nat.div_eq_of_lt s1, Nat.mod_eq_of_lt s1]
  exact ⟨by omega, rfl⟩

set_option maxHeartbeats 1000000 in
theorem div_zero {w : World} {u v : Value} {a : Nat} (hu : IsNat w u a) (hv : IsNat w v 0) :
    Calls Tryz.prog 86 #[u, v] w fun e w' => e = .returned (.tuple #[.pointer none, .pointer none, .iface 199 (.int .i64 3)]) ∧ w = w' := by
  obtain ⟨A, c, xs, ⟨h1, h2, h3⟩, c0⟩ := limbs_any hu
  obtain ⟨A', c', ys, ⟨k1, k2, k3⟩, c1⟩ := limbs_any hv
  have e0 : ys = [] := k3.zero_iff.2 rfl
  subst e0
  clear h1 h2 h3 k1 k2 k3
  go_enter Tryz.func86, Tryz.ntmps86
  go_wp2_with fail
  refine c0.mono ?_; rintro e w1 ⟨rfl, rfl⟩
  go_wp2_with fail
  refine c1.mono ?_; rintro e w1 ⟨rfl, rfl⟩
  go_wp2_with (go_at_call 98; refine (fault_of 3 (by decide) _).mono ?_; rintro e w' ⟨rfl, rfl⟩)
  go_ret3
  exact ⟨rfl, rfl⟩

/-- What Div answers, of a divisor that is not nought. -/
def DivPost (a b : Nat) (w : World) : Ending → World → Prop := Ans3 (fun q r e w' => NatAt w' q (a / b) ∧ NatAt w' r (a % b) ∧ e = .nilIface) w

set_option maxHeartbeats 1000000 in
theorem div_less {w : World} {u v : Value} {a b : Nat} (hu : IsNat w u a) (hv : IsNat w v b) (hab : a < b) :
    Calls Tryz.prog 86 #[u, v] w (DivPost a b w) := by
  obtain ⟨A, c, xs, ⟨h1, h2, h3⟩, c0⟩ := limbs_any hu
  obtain ⟨A', c', ys, ⟨k1, k2, k3⟩, c1⟩ := limbs_any hv
  have hyl : ys.length ≠ 0 := fun h => by have := k3.len_zero.1 h; omega
  have c2 := compare_calls h1 h2 h3 k1 k2 k3
  rw [cmpI_lt (by omega)] at c2
  have c4 : ∀ W, Ext w W → Calls Tryz.prog 150 #[.slice A xs.length c] W (Ans (fun r w' => NatAt w' r a) W) := by
    intro W hW
    have := made_nat h1 (Kd.C_below h2 hW) h3.dig
    rwa [h3.val, Int.toNat_natCast] at this
  have C4 := Lib.hid c4
  have e1 : a / b = 0 := Nat.div_eq_of_lt hab
  have e2 : a % b = a := Nat.mod_eq_of_lt hab
  unfold DivPost
  rw [e1, e2]
  clear h1 h2 h3 k1 k2 k3 c4 e1 e2
  go_enter Tryz.func86, Tryz.ntmps86
  go_wp2_with fail
  refine c0.mono ?_; rintro e w1 ⟨rfl, rfl⟩
  go_wp2_with fail
  refine c1.mono ?_; rintro e w1 ⟨rfl, rfl⟩
  go_wp2_with fail
  refine c2.mono ?_; rintro e w1 ⟨rfl, hx1⟩
  go_wp2_with fail
  refine (of_any 0 (by unfold B64; decide) _).mono ?_; rintro e w2 ⟨r0, rfl, hr0, hx2⟩
  go_wp2_with fail
  refine (C4.out _ ?_).mono ?_
  exact hx1.trans hx2
  rintro e w3 ⟨r1, rfl, hr1, hx3⟩
  go_wp2
  go_ret3
  exact ⟨_, _, _, rfl, ⟨hr0.ext hx3, hr1, rfl⟩, hx1.trans (hx2.trans hx3)⟩

set_option maxHeartbeats 1000000 in
set_option maxRecDepth 100000 in
theorem div_one {w : World} {u v : Value} {a b : Nat} (hu : IsNat w u a) (hv : IsNat w v b) (hab : b ≤ a) (hb0 : 0 < b) (hb : (b : Int) < B64) (ha : a < BIG) :
    Calls Tryz.prog 86 #[u, v] w (DivPost a b w) := by
  obtain ⟨A, c, xs, ⟨h1, h2, h3⟩, c0⟩ := limbs_any hu
  obtain ⟨A', c', ys, ⟨k1, k2, k3⟩, c1⟩ := limbs_any hv
  have lx := h3.len_le ha
  have hys : ys = [(b : Int)] := k3.inj (Lim.one hb0 hb)
  have hl1 : ys.length = 1 := by rw [hys]; rfl
  have b0 : ((ys.length : Int) == 0) = false := beq_eq_false_iff_ne.2 (by omega)
  have b1 : ((ys.length : Int) == 1) = true := by rw [hl1]; rfl
  have b2 : (0 : Int) < ys.length := by omega
  have c2 := compare_calls h1 h2 h3 k1 k2 k3
  have hcm : 0 ≤ cmpI a b := cmpI_ge (by omega)
  have hcell := (Kd.at_int k2 (0 : Int) (by omega) (by omega))
  obtain ⟨ad', rfl, hcell⟩ := hcell
  have c3 : ∀ W, Ext w W → Calls Tryz.prog 153 #[.slice A xs.length c, .int .u64 b] W (ShortPost xs b W) := fun W hW => short_any h1 (Kd.C_below h2 hW) h3.dig (by omega) (by omega) hb
  have C3 := Lib.hid c3
  have H3 := Lib.hid h3
  have hc0 : w.cell? ad' = some (.int .u64 b) := by simpa [Addr.add, rd, hys] using hcell
  have HB := Lib.hid (fun (rn : Nat) (h : (rn : Int) < b) W => of_any rn (Int.lt_trans h hb) W)
  clear h1 h2 k1 k2 k3 c3 h3 hcell ha hb hys hl1
  go_enter Tryz.func86, Tryz.ntmps86
  go_wp2_with fail
  refine c0.mono ?_; rintro e w1 ⟨rfl, rfl⟩
  go_wp2_with fail
  refine c1.mono ?_; rintro e w1 ⟨rfl, rfl⟩
  go_wp2_with fail
  refine c2.mono ?_; rintro e w1 ⟨rfl, hx1⟩
  replace hc0 := hx1.cell hc0
  go_wp2_with fail
  refine (C3.out _ ?_).mono ?_
  exact hx1
  rintro e w2 ⟨g, zs, r, rfl, hA, hg, hI, hx2⟩
  have hzl := hI.len
  obtain ⟨e1, e2⟩ := ShortInv.fin hI H3.out hb0
  obtain ⟨rn, rfl⟩ : ∃ rn : Nat, r = rn := ⟨r.toNat, by have := hI.r0; omega⟩
  have hm := made_nat (c := xs.length) (show zs.length ≤ xs.length by omega) (hA.reads (by omega)) hI.dig
  rw [hzl, e1] at hm
  have C5 := Lib.hid hm
  have hr1 := hI.r1
  have C6 := Lib.hid fun W => HB.out rn hr1 W
  have E2 : Hid (rn = a % b) := Lib.hid (by omega)
  clear hm hI hzl e1 e2 hA C3 hr1 HB
  go_wp2_with fail
  refine C5.out.mono ?_
  rintro e w3 ⟨r0, rfl, hr0, hx3⟩
  go_wp2_with fail
  refine (C6.out _).mono ?_
  rintro e w4 ⟨r1, rfl, hr1, hx4⟩
  rw [E2.out] at hr1
  go_wp2
  go_ret3
  exact ⟨_, _, _, rfl, ⟨hr0.ext hx4, hr1, rfl⟩, hx1.trans (hx2.trans (hx3.trans hx4))⟩

set_option maxHeartbeats 1000000 in
theorem div_long {w : World} {u v : Value} {a b : Nat} (hu : IsNat w u a) (hv : IsNat w v b) (hab : b ≤ a) (hb : B64 ≤ (b : Int)) (ha : a < BIG) :
    Calls Tryz.prog 86 #[u, v] w (DivPost a b w) := by
  obtain ⟨A, c, xs, ⟨h1, h2, h3⟩, c0⟩ := limbs_any hu
  obtain ⟨A', c', ys, ⟨k1, k2, k3⟩, c1⟩ := limbs_any hv
  have lx := h3.len_le ha
  have hm2 : 2 ≤ ys.length := k3.two hb
  have hlen : ys.length ≤ xs.length := by
    rcases Nat.lt_or_ge xs.length ys.length with h | h
    · have := val_lt_of_length B64_pos h3.dig k3.dig k3.nrm h
      rw [h3.val, k3.val] at this
      omega
    · exact h
  have c2 := compare_calls h1 h2 h3 k1 k2 k3
  have hcm : 0 ≤ cmpI a b := cmpI_ge (by omega)
  have c3 : ∀ W, Ext w W → Calls Tryz.prog 154 #[.slice A xs.length c, .slice A' ys.length c'] W (LongPost a b (xs.length - ys.length + 1) ys.length W) := fun W hW => long_any h1 (Kd.C_below h2 hW) h3 k1 (Kd.C_below k2 hW) k3 hm2 hlen (by omega) (by omega)
  have C3 := Lib.hid c3
  clear h1 h2 h3 k1 k2 k3 c3 ha
  go_enter Tryz.func86, Tryz.ntmps86
  go_wp2_with fail
  refine c0.mono ?_; rintro e w1 ⟨rfl, rfl⟩
  go_wp2_with fail
  refine c1.mono ?_; rintro e w1 ⟨rfl, rfl⟩
  go_wp2_with fail
  refine c2.mono ?_; rintro e w1 ⟨rfl, hx1⟩
  go_wp2_with fail
  refine (C3.out _ ?_).mono ?_
  exact hx1
  rintro e w2 ⟨gq, gr, zq, zr, rfl, hAq, hAr, hql, hrl, dq, dr, eq, er, hx2⟩
  have hm := made_nat (c := xs.length - ys.length + 1) (show zq.length ≤ _ by omega) (hAq.reads (by omega)) dq
  rw [hql, eq, Int.toNat_natCast] at hm
  have hn : ∀ W, Ext w2 W → Calls Tryz.prog 150 #[.slice (some ⟨gr, 0, none⟩) ys.length ys.length] W (Ans (fun r w' => NatAt w' r (a % b)) W) := by
    intro W hW
    have := made_nat (c := ys.length) (show zr.length ≤ _ by omega) ((hAr.ext hW).reads (by omega)) dr
    rwa [hrl, er, Int.toNat_natCast] at this
  have C5 := Lib.hid hm
  have C6 := Lib.hid hn
  clear hm hn hAq hAr hql hrl dq dr eq er C3
  go_wp2_with fail
  refine C5.out.mono ?_
  rintro e w3 ⟨r0, rfl, hr0, hx3⟩
  go_wp2_with fail
  refine (C6.out _ ?_).mono ?_
  exact hx3
  rintro e w4 ⟨r1, rfl, hr1, hx4⟩
  go_wp2
  go_ret3
  exact ⟨_, _, _, rfl, ⟨hr0.ext hx4, hr1, rfl⟩, hx1.trans (hx2.trans (hx3.trans hx4))⟩

theorem div_any {w : World} {u v : Value} {a b : Nat} (hu : IsNat w u a) (hv : IsNat w v b) (hb0 : 0 < b) (ha : a < BIG) :
    Calls Tryz.prog 86 #[u, v] w (DivPost a b w) := by
  rcases Nat.lt_or_ge a b with h | h
  · exact div_less hu hv h
  · rcases Int.lt_or_le (b : Int) B64 with h1 | h1
    · exact div_one hu hv h hb0 h1 ha
    · exact div_long hu hv h h1 ha
end Go.Proofs.YtdlcleecjeipnaaGreatDoor

/- The greatest common measure by twos and differences. Plain arithmetic of natural numbers. -/
namespace Go.Proofs.YtdlcleecjeipnaaGreatDoor.Gcd2

theorem cop_two_pow {b : Nat} (h : b % 2 = 1) (k : Nat) : Nat.Coprime (2 ^ k) b := by
  apply Nat.Coprime.pow_left
  rw [Nat.coprime_iff_gcd_eq_one, Nat.gcd_rec]
  rw [h]; rfl

theorem gcd_two_pow_mul {b : Nat} (h : b % 2 = 1) (k m : Nat) : Nat.gcd (2 ^ k * m) b = Nat.gcd m b :=
  Nat.Coprime.gcd_mul_left_cancel m (cop_two_pow h k)

theorem gcd_sub {a b : Nat} (h : b ≤ a) : Nat.gcd (a - b) b = Nat.gcd a b := Nat.gcd_sub_self_left h

/-- One round: the difference of two odd ones, without its twos. -/
theorem round {a b k m : Nat} (hb : b % 2 = 1) (h : b ≤ a) (hm : a - b = 2 ^ k * m) : Nat.gcd m b = Nat.gcd a b := by
  rw [← gcd_sub h, hm, gcd_two_pow_mul hb]

theorem whole_le {ka kb A B : Nat} (hA : A % 2 = 1) (h : ka ≤ kb) : Nat.gcd (2 ^ ka * A) (2 ^ kb * B) = Nat.gcd A B * 2 ^ ka := by
  obtain ⟨d, rfl⟩ : ∃ d, kb = ka + d := ⟨kb - ka, by omega⟩
  rw [Nat.pow_add, Nat.mul_assoc, Nat.gcd_mul_left, Nat.gcd_comm A, gcd_two_pow_mul hA, Nat.gcd_comm B, Nat.mul_comm]

theorem whole {ka kb A B : Nat} (hA : A % 2 = 1) (hB : B % 2 = 1) : Nat.gcd (2 ^ ka * A) (2 ^ kb * B) = Nat.gcd A B * 2 ^ (min ka kb) := by
  rcases Nat.le_total ka kb with h | h
  · rw [Nat.min_eq_left h, whole_le hA h]
  · rw [Nat.min_eq_right h, Nat.gcd_comm, whole_le hB h, Nat.gcd_comm]

end Go.Proofs.YtdlcleecjeipnaaGreatDoor.Gcd2

/- A part of a block that holds words, written in place; the lowest bit that is set. -/
namespace Go.Proofs.YtdlcleecjeipnaaGreatDoor
open Go.RowKit Go.Proofs.YtdlcleecjeipnaaGreatDoorW.PrintWords Limbs
set_option linter.unusedVariables false

/-- Block g holds these words from o on. -/
def Own (w : World) (g o : Nat) (xs : List Int) : Prop := ∃ cur, w.heap[g]? = some (.cells cur 57 (0, 0)) ∧ ∀ i, i < xs.length → cur[o + i]? = some (.int .u64 (xs.getD i 0))

theorem Own.lt {w : World} {g o : Nat} {xs : List Int} (h : Own w g o xs) : g < w.heap.size := by
  obtain ⟨cur, h, -⟩ := h
  exact (Array.getElem?_eq_some_iff.1 h).1
theorem Own.block {w w' : World} {g o : Nat} {xs : List Int} (h : Own w g o xs) (he : w'.heap[g]? = w.heap[g]?) : Own w' g o xs := by
  obtain ⟨cur, h, k⟩ := h
  exact ⟨cur, he.trans h, k⟩
theorem Own.ext {w w' : World} {g o : Nat} {xs : List Int} (h : Own w g o xs) (he : Ext w w') : Own w' g o xs := h.block (Below.block he g h.lt)
theorem Own.other {w w' : World} {g o g' : Nat} {xs : List Int} (h : Own w g o xs) (hg : w.grownBy w' (some g')) (hne : g ≠ g') : Own w' g o xs := h.block (hg.block g h.lt (by simp; exact hne))
theorem Own.cell {w : World} {g o : Nat} {xs : List Int} (h : Own w g o xs) (i : Nat) (hi : i < xs.length) : w.cell? ⟨g, o + i, none⟩ = some (.int .u64 (xs.getD i 0)) := by
  obtain ⟨cur, h, k⟩ := h
  unfold World.cell?
  rw [h]
  simpa using k i hi
theorem Own.free {w : World} {g o : Nat} {xs : List Int} (h : Own w g o xs) (i : Nat) : w.frozen? ⟨g, i, none⟩ = false := by
  obtain ⟨cur, h, k⟩ := h
  unfold World.frozen?
  rw [h]
  simp
theorem Own.set {w : World} {g o : Nat} {xs : List Int} (h : Own w g o xs) (i : Nat) (v : Int) : Own (w.setCell ⟨g, o + i, none⟩ (.int .u64 v)) g o (xs.set i v) := by
  obtain ⟨cur, h, k⟩ := h
  refine ⟨cur.setIfInBounds (o + i) (.int .u64 v), ?_, ?_⟩
  · unfold World.setCell
    simp only [Array.getElem?_modify, h, if_true, Option.map_some]
    simp
  · intro j hj
    rw [List.length_set] at hj
    have hc := k j hj
    have hlt : o + j < cur.size := (Array.getElem?_eq_some_iff.1 hc).1
    rcases Nat.decEq i j with hne | rfl
    · rw [Array.getElem?_setIfInBounds_ne (by omega), hc, Limbs.getD_set_ne _ _ _ _ (by omega)]
    · rw [Array.getElem?_setIfInBounds_self_of_lt hlt, Limbs.getD_set_eq _ _ _ hj]
theorem Own.far {w : World} {g o : Nat} {xs : List Int} (h : Own w g o xs) {p : Addr} (hp : g ≠ p.block) (u : Value) : Own (w.setCell p u) g o xs := h.block (Below.heap_setCell w p u g hp)
theorem Own.reads {w : World} {g o : Nat} {xs : List Int} (h : Own w g o xs) (hm : xs.length ≤ 9223372036854775807) : U.C w (some ⟨g, o, none⟩) xs.length xs := by
  refine ⟨rfl, hm, fun _ => ⟨_, rfl, ?_⟩⟩
  intro j p hp
  have hj : j < xs.length := (List.getElem?_eq_some_iff.1 hp).1
  refine ⟨[.int .u64 p], rfl, rfl, ?_⟩
  intro i u hu
  rcases Nat.eq_zero_or_pos i with h0 | h0
  · subst h0
    have hu' : Value.int .u64 p = u := by simpa using hu
    subst hu'
    show w.cell? ((⟨g, o, none⟩ : Addr).add (j * 1 + 0)) = _
    rw [Nat.mul_one, Nat.add_zero, show (⟨g, o, none⟩ : Addr).add j = ⟨g, o + j, none⟩ from by simp [Addr.add], h.cell j hj, List.getD_eq_getElem?_getD, hp]; rfl
  · rw [List.getElem?_eq_none (by simp; omega)] at hu; cases hu
theorem Own.drop {w : World} {g o : Nat} {xs : List Int} (h : Own w g o xs) (k : Nat) : Own w g (o + k) (xs.drop k) := by
  obtain ⟨cur, h, c⟩ := h
  refine ⟨cur, h, fun i hi => ?_⟩
  rw [List.length_drop] at hi
  rw [Nat.add_assoc, c (k + i) (by omega), getD_drop]
theorem Own.take {w : World} {g o : Nat} {xs : List Int} (h : Own w g o xs) (k : Nat) : Own w g o (xs.take k) := by
  obtain ⟨cur, h, c⟩ := h
  refine ⟨cur, h, fun i hi => ?_⟩
  rw [List.length_take] at hi
  rw [c i (by omega)]
  congr 2
  rw [List.getD_eq_getElem?_getD, List.getD_eq_getElem?_getD, List.getElem?_take, if_pos (by omega)]

/-- A world in which the library's table of bits stands. -/
def Bits (w : World) : Prop := TabAt 9 Lib.deBruijn64tab w
theorem Bits.ext {w w' : World} (h : Bits w) (he : Ext w w') : Bits w' := fun j hj => he.cell (h j hj)

theorem tz64_zero (w : World) : Calls Tryz.prog 268 #[.int .u64 0] w fun e w' => e = .returned (.int .i64 64) ∧ w = w' := by
  go_enter Tryz.func268, Tryz.ntmps268
  go_wp2
  go_ret
  exact ⟨rfl, rfl⟩
set_option maxHeartbeats 1000000 in
theorem tz64_core (x k idx : Nat) (w : World) (hx0 : ((x : Int) == 0) = false)
    (key : IntKind.u64.wrap (bits BinOp.and IntKind.u64 (x : Int) (IntKind.u64.wrap (-(x : Int))) * 285870213051353865) / 288230376151711744 = (idx : Int))
    (hi : idx < 64) (hk : k < 64) (hcell : w.cell? ⟨9, idx, none⟩ = some (.int .u8 k)) :
    Calls Tryz.prog 268 #[.int .u64 x] w fun e w' => e = .returned (.int .i64 k) ∧ w = w' := by
  go_enter Tryz.func268, Tryz.ntmps268
  go_wp2_with (simp only [key])
  go_ret
  exact ⟨rfl, rfl⟩

/-- math/bits.TrailingZeros64 of a word that is not nought. -/
theorem tz64 (x : Int) (h0 : 0 < x) (h1 : x < B64) : ∃ k : Nat, (k < 64 ∧ Hid (∃ m : Int, x = 2 ^ k * (2 * m + 1))) ∧ ∀ w, Bits w → Calls Tryz.prog 268 #[.int .u64 x] w fun e w' => e = .returned (.int .i64 k) ∧ w = w' := by
  obtain ⟨x, rfl⟩ := Int.eq_ofNat_of_zero_le (Int.le_of_lt h0)
  have hx0 : x ≠ 0 := by omega
  have hx : x < 2 ^ 64 := by unfold B64 at h1; omega
  obtain ⟨hlow, hk⟩ := Lib.lowest_bit 64 x hx0 hx
  obtain ⟨m, hm, -⟩ := Lib.ctzFrom_spec 64 x (by omega) hx
  have hc : Lib.ctz 64 x = Lib.ctzFrom 64 x := by unfold Lib.ctz; rw [if_neg hx0]
  obtain ⟨hi, htab⟩ := Lib.deBruijn64_at _ hk
  refine ⟨Lib.ctz 64 x, ⟨hk, Lib.hid ⟨m, ?_⟩⟩, fun w hT => ?_⟩
  · rw [hc]
    have : ((x : Nat) : Int) = ((2 ^ Lib.ctzFrom 64 x * (2 * m + 1) : Nat) : Int) := congrArg _ hm
    rw [this]; push_cast; rfl
  · have hcell := hT _ hi
    rw [htab] at hcell
    exact tz64_core x _ _ w (by simp; omega) (tz64_key x _ hx hx0 hlow) hi hk hcell
end Go.Proofs.YtdlcleecjeipnaaGreatDoor

/- nat.twos, nat.odd, nat.less. -/
namespace Go.Proofs.YtdlcleecjeipnaaGreatDoor
open Go.RowKit Go.Proofs.YtdlcleecjeipnaaGreatDoorW.PrintWords Limbs
set_option linter.unusedVariables false

theorem val_skip {xs : List Int} (i : Nat) (hi : i ≤ xs.length) (h : ∀ j, j < i → xs.getD j 0 = 0) : Limbs.val B64 xs = B64 ^ i * Limbs.val B64 (xs.drop i) := by
  induction i with
  | zero => simp
  | succ i ih =>
    rw [ih (by omega) (fun j hj => h j (by omega)), val_drop B64 xs i (by omega), h i (by omega), Int.pow_succ]
    grind

/-- Nought words ahead, then one that is 2^k times an odd one. -/
theorem twos_val {xs : List Int} {i k : Nat} {m : Int} (hi : i < xs.length) (hk : k < 64) (h : ∀ j, j < i → xs.getD j 0 = 0) (hm : xs.getD i 0 = 2 ^ k * (2 * m + 1)) :
    ∃ m' : Int, Limbs.val B64 xs = 2 ^ (64 * i + k) * (2 * m' + 1) := by
  have hp : B64 ^ i = 2 ^ (64 * i) := by rw [B64_pow]; push_cast; rfl
  have hs : B64 = 2 ^ k * 2 ^ (64 - k) := by rw [← Int.pow_add, show k + (64 - k) = 64 from by omega]; rfl
  obtain ⟨r, hr⟩ : ∃ r, 64 - k = r + 1 := ⟨63 - k, by omega⟩
  refine ⟨m + 2 ^ r * Limbs.val B64 (xs.drop (i + 1)), ?_⟩
  rw [val_skip i (by omega) h, val_drop B64 xs i hi, hm, hp, Int.pow_add]
  rw [hr, Int.pow_succ] at hs
  generalize Limbs.val B64 (xs.drop (i + 1)) = v
  rw [hs]
  grind

/-- What twos answers. -/
def TwosPost (xs : List Int) (w : World) (e : Ending) (w' : World) : Prop :=
  ∃ q k : Nat, e = .returned (.int .i64 (64 * q + k)) ∧ k < 64 ∧ q < xs.length ∧ (∀ j, j < q → xs.getD j 0 = 0) ∧ (∃ m : Int, xs.getD q 0 = 2 ^ k * (2 * m + 1)) ∧ w = w'

set_option maxHeartbeats 1000000 in
theorem twos_any {w : World} {A : Option Addr} {c : Nat} {xs : List Int} (hc : xs.length ≤ c) (hr : U.C w A xs.length xs) (hd : Dig B64 xs) (h0 : Limbs.val B64 xs ≠ 0) (hl : xs.length ≤ 35184372088832) (hB : Bits w) :
    Calls Tryz.prog 247 #[.slice A xs.length c] w (TwosPost xs w) := by
  have hl0 : 0 < xs.length := by
    rcases Nat.eq_zero_or_pos xs.length with h | h
    · rw [List.length_eq_zero_iff.1 h] at h0; exact absurd rfl h0
    · exact h
  go_enter Tryz.func247, Tryz.ntmps247
  go_wp2_with fail
  go_loopw [3] (fun ix wr => ∃ (k : Nat), ix = .int .i64 k ∧ k < xs.length ∧ (∀ j, j < k → xs.getD j 0 = 0) ∧ wr = w) (fun ix _ => xs.length - (intOf ix).toNat)
  case atStart => exact ⟨0, rfl, hl0, fun j hj => by omega, rfl⟩
  case round =>
    obtain ⟨k, rfl, hk, hz, rfl⟩ := hrel
    obtain ⟨ad, rfl, hcell⟩ := Kd.at_int hr (k : Int) (by omega) (by omega)
    have hcx : wr.cell? (ad.add k) = some (.int .u64 (xs.getD k 0)) := hcell
    clear hcell
    have dx := hd.get k B64_pos
    obtain ⟨x, hxx⟩ : ∃ x, Hid (x = xs.getD k 0) := ⟨_, Lib.hid rfl⟩
    rw [← hxx.out] at hcx dx
    have HZ := Lib.hid hz
    have H0 := Lib.hid h0
    clear hz h0 hr
    rcases Int.lt_or_le 0 x with hx | hx
    · have b0 : (x == 0) = false := beq_eq_false_iff_ne.2 (by omega)
      obtain ⟨t, ⟨ht, hm⟩, htz⟩ := tz64 x hx dx.2
      have CT := Lib.hid (htz wr hB)
      have hT : TwosPost xs wr (.returned (.int .i64 (64 * k + t))) wr := by
        obtain ⟨m, hm⟩ := hm.out
        exact ⟨k, t, rfl, ht, hk, HZ.out, ⟨m, by rw [← hxx.out]; exact hm⟩, rfl⟩
      have HT := Lib.hid hT
      clear dx htz hT hxx hd H0 hm
      go_wp2_with fail
      refine CT.out.mono ?_; rintro e w1 ⟨rfl, rfl⟩
      go_wp2
      go_ret
      exact HT.out
    · obtain rfl : x = 0 := by omega
      have hk1 : k + 1 < xs.length := by
        rcases Nat.lt_or_ge (k + 1) xs.length with h | h
        · exact h
        · exfalso
          apply H0.out
          rw [val_skip k (by omega) HZ.out, val_drop B64 xs k hk, ← hxx.out, List.drop_eq_nil_of_le (by omega)]
          simp [Limbs.val]
      have HZ' : ∀ j, j < k + 1 → xs.getD j 0 = 0 := fun j hj => by
        rcases Nat.lt_or_ge j k with h | h
        · exact HZ.out j h
        · obtain rfl : j = k := by omega
          exact hxx.out.symm
      have HZ2 := Lib.hid HZ'
      clear HZ' HZ dx hxx hd
      go_wp2
      go_roundw
      case rel => exact ⟨k + 1, by go_num, hk1, HZ2.out, trivial⟩
      case measure => simp [intOf]; omega

/-- Shifted to the right in place: behind k words. -/
structure ShiftInv (xs zs : List Int) (s k : Nat) : Prop where
  len : zs.length = xs.length
  dig : Dig B64 zs
  same : ∀ j, k ≤ j → zs.getD j 0 = xs.getD j 0
  eqn : Limbs.val B64 (zs.take k) * 2 ^ s = Limbs.val B64 (xs.take k) + xs.getD k 0 % 2 ^ s * B64 ^ k

theorem ShiftInv.start {xs : List Int} {s : Nat} (hx : Dig B64 xs) (h : xs.getD 0 0 % 2 ^ s = 0) : ShiftInv xs xs s 0 :=
  ⟨rfl, hx, fun _ _ => rfl, by rw [h]; simp [Limbs.val]⟩
theorem ShiftInv.step {xs zs : List Int} {s k : Nat} {v : Int} (h : ShiftInv xs zs s k) (hk : k < xs.length) (v0 : 0 ≤ v) (v1 : v < B64) (he : v * 2 ^ s = xs.getD k 0 - xs.getD k 0 % 2 ^ s + xs.getD (k + 1) 0 % 2 ^ s * B64) : ShiftInv xs (zs.set k v) s (k + 1) := by
  have hl := h.len
  refine ⟨by simpa using hl, h.dig.set _ v0 v1, fun j hj => by rw [Limbs.getD_set_ne _ _ _ _ (by omega)]; exact h.same j (by omega), ?_⟩
  rw [val_take_set B64 v zs k (by omega), val_take_succ B64 xs k hk, Int.pow_succ]
  have e := h.eqn
  have h3 : B64 ^ k * (v * 2 ^ s) = B64 ^ k * (xs.getD k 0 - xs.getD k 0 % 2 ^ s + xs.getD (k + 1) 0 % 2 ^ s * B64) := by rw [he]
  grind
theorem ShiftInv.fin {xs zs : List Int} {s : Nat} (h : ShiftInv xs zs s xs.length) : Limbs.val B64 zs * 2 ^ s = Limbs.val B64 xs := by
  have e := h.eqn
  have hl := h.len
  rw [List.take_of_length_le (by omega), List.take_length] at e
  have : xs.getD xs.length 0 = 0 := by rw [List.getD_eq_getElem?_getD, List.getElem?_eq_none (by omega)]; rfl
  rw [this] at e
  simpa using e

theorem ShiftInv.fin' {xs zs : List Int} {s n : Nat} (h : ShiftInv xs zs s n) (hn : xs.length = n) : Limbs.val B64 zs * 2 ^ s = Limbs.val B64 xs := by
  subst hn; exact h.fin
/-- One word alone shifted to the right. -/
theorem right_word {x : Int} {s : Nat} (hs : s ≤ 63) (x0 : 0 ≤ x) (x1 : x < B64) : ∃ v : Int, x / 2 ^ s = v ∧ 0 ≤ v ∧ v < B64 ∧ v * 2 ^ s = x - x % 2 ^ s := by
  have p0 : (0 : Int) < 2 ^ s := pow_pos (by decide) s
  have hx := Int.mul_ediv_add_emod x (2 ^ s)
  have t0 : 0 ≤ x / 2 ^ s := Int.ediv_nonneg x0 (Int.le_of_lt p0)
  have t1 : x / 2 ^ s ≤ x := Int.ediv_le_self _ x0
  exact ⟨_, rfl, t0, by omega, by have e := Int.mul_comm (x / 2 ^ s) (2 ^ s); omega⟩

/-- What odd and less answer: a part of the block g, that is m. -/
def PartPost (g m : Nat) (w : World) (e : Ending) (w' : World) : Prop :=
  ∃ (o c : Nat) (ys : List Int), e = .returned (.slice (some ⟨g, o, none⟩) ys.length c) ∧ ys.length ≤ c ∧ Own w' g o ys ∧ Lim ys m ∧ w.grownBy w' (some g) ∧ c ≤ 9223372036854775807

theorem made_part {w : World} {g o c : Nat} {xs : List Int} (hc : xs.length ≤ c) (h : Own w g o xs) (hd : Dig B64 xs) (hl : xs.length ≤ 9223372036854775807) :
    Calls Tryz.prog 150 #[.slice (some ⟨g, o, none⟩) xs.length c] w fun e w' => ∃ ys : List Int, e = .returned (.pointer (some ⟨w.heap.size, 0, none⟩)) ∧ ys.length ≤ c ∧ w'.cell? ⟨w.heap.size, 0, none⟩ = some (.slice (some ⟨g, o, none⟩) ys.length c) ∧ Own w' g o ys ∧ Lim ys (Limbs.val B64 xs).toNat ∧ Ext w w' := by
  refine (made_any hc (h.reads hl) hd).mono ?_
  rintro e w' ⟨rfl, rfl⟩
  have hle := topOf_le xs xs.length
  have hl2 : (xs.take (topOf xs xs.length)).length = topOf xs xs.length := by rw [List.length_take]; omega
  exact ⟨xs.take (topOf xs xs.length), rfl, by omega, by rw [hl2]; simp, (h.take _).ext (Ext.alloc w _), lim_top hd, Ext.alloc w _⟩

set_option maxHeartbeats 2000000 in
theorem odd_any {w : World} {g o c : Nat} {xs : List Int} {a : Nat} (hc : xs.length ≤ c) (hO : Own w g o xs) (hd : Dig B64 xs) (hv : Limbs.val B64 xs = (a : Int)) (h0 : a ≠ 0) (hl : xs.length ≤ 35184372088832) (hcl : c ≤ 9223372036854775807) (hB : Bits w) :
    Calls Tryz.prog 248 #[.slice (some ⟨g, o, none⟩) xs.length c] w fun e w' => ∃ m k : Nat, a = 2 ^ k * m ∧ m % 2 = 1 ∧ PartPost g m w e w' := by
  have hr := hO.reads (by omega)
  have ht := twos_any hc hr hd (by omega) hl hB
  have HT := Lib.hid ht
  have HV := Lib.hid hv
  have H0 := Lib.hid h0
  clear ht hv h0 hr hB
  obtain ⟨len, hlen⟩ : ∃ len, xs.length = len := ⟨_, rfl⟩
  rw [hlen] at hc hl HT ⊢
  go_enter Tryz.func248, Tryz.ntmps248
  go_wp2_with fail
  refine HT.out.mono ?_
  rintro e w1 ⟨q, s, rfl, hs, hq, hz, ⟨m, hm⟩, rfl⟩
  rw [hlen] at hq
  obtain ⟨n, rfl⟩ : ∃ n, len = q + n := ⟨len - q, by omega⟩
  obtain ⟨c', rfl⟩ : ∃ c', c = q + c' := ⟨c - q, by omega⟩
  have e1 : (64 * (q : Int) + s) / 64 = q := by omega
  have e2 : (64 * (q : Int) + s) % 64 = s := by omega
  have hOy := hO.drop q
  have hdy := hd.drop q
  have hvy := val_skip q (by omega) hz
  have hm0 : (xs.drop q).getD 0 0 = 2 ^ s * (2 * m + 1) := by rw [getD_drop]; exact hm
  have hyl : (xs.drop q).length = n := by rw [List.length_drop]; omega
  obtain ⟨t, ht⟩ := twos_val (show q < xs.length by omega) hs hz hm
  obtain ⟨k, hk⟩ : ∃ k, k = 64 * q + s := ⟨_, rfl⟩
  have hI0 : ShiftInv (xs.drop q) (xs.drop q) s 0 := ShiftInv.start hdy (by rw [hm0]; exact Int.mul_emod_right _ _)
  have hG0 := only_refl w (some g)
  obtain ⟨ys, hys⟩ : ∃ ys, Hid (ys = xs.drop q) := ⟨_, Lib.hid rfl⟩
  rw [← hys.out] at hOy hdy hvy hm0 hyl hI0
  have HF : Hid (∀ zs, ShiftInv ys zs s n → ∃ m k : Nat, a = 2 ^ k * m ∧ m % 2 = 1 ∧ (Limbs.val B64 zs).toNat = m) := by
    apply Lib.hid
    intro zs hzs
    have ez := hzs.fin' hyl
    have hz0 := val_nonneg B64_pos hzs.dig
    obtain ⟨r, hr⟩ := Int.eq_ofNat_of_zero_le hz0
    rw [hr] at ez ⊢
    have eB : B64 ^ q = 2 ^ (64 * q) := by rw [B64_pow]; push_cast; rfl
    rw [HV.out, eB] at hvy
    have ea : (a : Int) = 2 ^ (64 * q + s) * r := by rw [hvy, ← ez, Int.pow_add]; grind
    have hr2 : (r : Int) = 2 * t + 1 := by
      rw [HV.out, ea] at ht
      exact Int.eq_of_mul_eq_mul_left (by have := pow_pos (show (0 : Int) < 2 by decide) (64 * q + s); omega) ht
    refine ⟨r, 64 * q + s, by exact_mod_cast ea, by omega, by simp⟩
  clear hO hd hvy hm0 hz hm ht HV H0 HT hys hlen hk k
  have hn0 : 0 < n := by omega
  have hnc : n ≤ c' := by omega
  have hc0 : 0 < c' := by omega
  clear hq hc
  go_wp2_with fail
  clear e1
  go_loopw [15] (fun ix wr => ∃ (k : Nat) (zs : List Int), ix = .int .i64 k ∧ k ≤ n ∧ ShiftInv ys zs s k ∧ Own wr g (o + q) zs ∧ w.grownBy wr (some g)) (fun ix _ => n - (intOf ix).toNat)
  case atStart => exact ⟨0, ys, rfl, Nat.zero_le _, hI0, hOy, hG0⟩
  case round =>
    clear hI0 hOy hG0
    obtain ⟨k, zs, rfl, hk, hI, hO, hG⟩ := hrel
    have hzl := hI.len
    rw [hyl] at hzl
    by_cases hkl : k < n
    · have hcx := hO.cell k (by omega)
      rw [hI.same k (Nat.le_refl _)] at hcx
      have dx := hdy.get k B64_pos
      have hst := fun v v0 v1 he => hI.step (v := v) (by omega) v0 v1 he
      obtain ⟨x, hxx⟩ : ∃ x, Hid (x = ys.getD k 0) := ⟨_, Lib.hid rfl⟩
      rw [← hxx.out] at hcx dx hst
      have hfo := hO.free (o + q + k)
      obtain ⟨v1, e3, a0, a1, a2⟩ := right_word (s := s) (by omega) dx.1 dx.2
      have hO1 := hO.set k v1
      have hcz := hO1.cell k (by simp; omega)
      rw [Limbs.getD_set_eq _ _ _ (by omega)] at hcz
      have hfo1 := hO1.free (o + q + k)
      have hG1 := only_set hG (o + q + k) (.int .u64 v1)
      by_cases hk1 : k + 1 < n
      · have hcy := hO1.cell (k + 1) (by simp; omega)
        rw [Limbs.getD_set_ne _ _ _ _ (by omega), hI.same (k + 1) (by omega)] at hcy
        have dy := hdy.get (k + 1) B64_pos
        obtain ⟨y, hyy⟩ : ∃ y, Hid (y = ys.getD (k + 1) 0) := ⟨_, Lib.hid rfl⟩
        rw [← hyy.out] at hcy dy hst
        obtain ⟨v, ev, v0, v2, he⟩ := right_words (s := s) (by omega) dx.1 dx.2 dy.1 dy.2
        rw [e3] at ev
        have hI' := hst v v0 v2 he
        have hO2 := hO1.set k v
        rw [List.set_set] at hO2
        have hG2 := only_set hG1 (o + q + k) (.int .u64 v)
        have hG3 := only_ext hG2 (Ext.drew _)
        clear hxx hyy hst hI hO hG dx dy v0 v2 he a0 a1 a2 hO1 hG1 hG2
        go_wp2
        go_region
        go_wp2
        go_roundw
        case rel => exact ⟨k + 1, _, by go_num, by omega, hI', hO2, hG3⟩
        case measure => simp [intOf]; omega
      · obtain rfl : n = k + 1 := by omega
        have hI' := hst v1 a0 a1 (by rw [a2, List.getD_eq_getElem?_getD, List.getElem?_eq_none (by omega)]; simp)
        clear hxx hst hI hO hG dx a0 a1 a2
        go_wp2
        go_roundw
        case rel => exact ⟨k + 1, _, by go_num, by omega, hI', hO1, hG1⟩
        case measure => simp [intOf]
    · obtain rfl : k = n := by omega
      obtain ⟨m, t, em, eo, ev⟩ := HF.out zs hI
      have hmd := made_part (c := c') (by omega) hO hI.dig (by omega)
      rw [hzl, ev] at hmd
      have HM := Lib.hid hmd
      have HE := Lib.hid em
      clear hI hmd ev HF em
      go_wp2_with fail
      refine HM.out.mono ?_
      rintro e w1 ⟨zs', rfl, hc1, hcl, hO1, hL1, hx1⟩
      have hP : PartPost g m w (.returned (.slice (some ⟨g, o + q, none⟩) zs'.length c')) w1 := ⟨_, _, zs', rfl, hc1, hO1, hL1, only_ext hG hx1, by omega⟩
      have HP := Lib.hid hP
      clear hP hO1 hL1 hc1
      go_wp2
      go_ret
      exact ⟨m, t, HE.out, eo, HP.out⟩
/-- Taken away in place: behind k words. -/
structure LessInv (xs ys zs : List Int) (k : Nat) (c : Int) : Prop where
  sub : SubInv xs ys zs k c
  same : ∀ j, k ≤ j → zs.getD j 0 = xs.getD j 0

theorem LessInv.start {xs : List Int} (ys : List Int) (hx : Dig B64 xs) : LessInv xs ys xs 0 0 :=
  ⟨⟨rfl, hx, Int.le_refl _, by decide, by simp [Limbs.val]⟩, fun _ _ => rfl⟩
theorem LessInv.step {xs ys zs : List Int} {k : Nat} {c s d y : Int} (h : LessInv xs ys zs k c) (hk : k < xs.length) (hy : y = if k < ys.length then ys.getD k 0 else 0)
    (hs0 : 0 ≤ s) (hs1 : s < B64) (hd0 : 0 ≤ d) (hd1 : d ≤ 1) (he : s - B64 * d = xs.getD k 0 - y - c) : LessInv xs ys (zs.set k s) (k + 1) d :=
  ⟨h.sub.step hk hy hs0 hs1 hd0 hd1 he, fun j hj => by rw [Limbs.getD_set_ne _ _ _ _ (by omega)]; exact h.same j (by omega)⟩

set_option maxHeartbeats 2000000 in
theorem less_any {w : World} {g o c g' o' c' : Nat} {xs ys : List Int} {a b : Nat} (hc : xs.length ≤ c) (hO : Own w g o xs) (hx : Dig B64 xs) (hv : Limbs.val B64 xs = (a : Int)) (hc' : ys.length ≤ c') (hO' : Own w g' o' ys) (hy : Dig B64 ys) (hw : Limbs.val B64 ys = (b : Int))
    (hne : g' ≠ g) (hab : b ≤ a) (hlen : ys.length ≤ xs.length) (hl : xs.length ≤ 35184372088832) (hcl0 : c ≤ 9223372036854775807) :
    Calls Tryz.prog 249 #[.slice (some ⟨g, o, none⟩) xs.length c, .slice (some ⟨g', o', none⟩) ys.length c'] w (PartPost g (a - b) w) := by
  have hI0 := LessInv.start ys hx
  have hG0 := only_refl w (some g)
  have HF : Hid (∀ zs c, LessInv xs ys zs xs.length c → (Limbs.val B64 zs).toNat = a - b) := by
    apply Lib.hid
    intro zs c hz
    obtain ⟨-, e⟩ := hz.sub.fin hlen hx (by omega)
    rw [e, hv, hw]; omega
  clear hv hw hab
  go_enter Tryz.func249, Tryz.ntmps249
  go_wp2_with fail
  go_loopw [5, 10] (fun br ix wr => ∃ (k : Nat) (b : Int) (zs : List Int), br = .int .u64 b ∧ ix = .int .i64 k ∧ k ≤ xs.length ∧ LessInv xs ys zs k b ∧ Own wr g o zs ∧ w.grownBy wr (some g)) (fun _ ix _ => xs.length - (intOf ix).toNat)
  case atStart => exact ⟨0, 0, xs, rfl, rfl, Nat.zero_le _, hI0, hO, hG0⟩
  case round =>
    clear hI0 hG0 hO
    obtain ⟨k, bw, zs, rfl, rfl, hk, hI, hO, hG⟩ := hrel
    have hzl := hI.sub.len
    have hOr := hO'.other hG hne
    by_cases hkl : k < xs.length
    · have hcx := hO.cell k (by omega)
      rw [hI.same k (Nat.le_refl _)] at hcx
      have dx := hx.get k B64_pos
      obtain ⟨x, hxx⟩ : ∃ x, Hid (x = xs.getD k 0) := ⟨_, Lib.hid rfl⟩
      rw [← hxx.out] at hcx dx
      have hfo := hO.free (o + k)
      have hb0 := hI.sub.c0
      have hb1 := hI.sub.c1
      by_cases hky : k < ys.length
      · have hcy := hOr.cell k (by omega)
        have dy := hy.get k B64_pos
        obtain ⟨y, hyy⟩ : ∃ y, Hid (y = ys.getD k 0) := ⟨_, Lib.hid rfl⟩
        rw [← hyy.out] at hcy dy
        obtain ⟨s, d, ⟨e0, e1, e2, e3, ec⟩, hr2⟩ := sub64_run x y bw dx.1 dx.2 dy.1 dy.2 hb0 hb1
        have hI' : LessInv xs ys (zs.set k s) (k + 1) d := hI.step (y := y) hkl (by rw [if_pos hky]; exact hyy.out) e0 e1 e2 e3 (by rw [← hxx.out]; exact ec.out)
        have hO1 := hO.set k s
        have hG1 := only_set hG (o + k) (.int .u64 s)
        clear hxx hyy hI hO hG dx dy ec hOr
        go_wp2
        go_roundw
        case rel => exact ⟨k + 1, _, _, by go_num, rfl, by omega, hI', hO1, hG1⟩
        case measure => simp [intOf]; omega
      · obtain ⟨s, d, ⟨e0, e1, e2, e3, ec⟩, hr2⟩ := sub64_run x 0 bw dx.1 dx.2 (by decide) B64_pos hb0 hb1
        have hI' : LessInv xs ys (zs.set k s) (k + 1) d := hI.step (y := 0) hkl (by rw [if_neg hky]) e0 e1 e2 e3 (by rw [← hxx.out]; exact ec.out)
        have hO1 := hO.set k s
        have hG1 := only_set hG (o + k) (.int .u64 s)
        clear hxx hI hO hG dx ec hOr
        go_wp2
        go_roundw
        case rel => exact ⟨k + 1, _, _, by go_num, rfl, by omega, hI', hO1, hG1⟩
        case measure => simp [intOf]; omega
    · obtain rfl : k = xs.length := by omega
      have ev := HF.out zs bw hI
      have hmd := made_part (c := c) (by omega) hO hI.sub.dig (by omega)
      rw [hzl, ev] at hmd
      have HM := Lib.hid hmd
      clear hI hmd ev HF
      go_wp2_with fail
      refine HM.out.mono ?_
      rintro e w1 ⟨zs', rfl, hc1, hcl, hO1, hL1, hx1⟩
      have HP : Hid (PartPost g (a - b) w (.returned (.slice (some ⟨g, o, none⟩) zs'.length c)) w1) := Lib.hid ⟨_, _, zs', rfl, hc1, hO1, hL1, only_ext hG hx1, hcl0⟩
      clear hO1 hL1 hc1
      go_wp2
      go_ret
      exact HP.out

end Go.Proofs.YtdlcleecjeipnaaGreatDoor

/- nat.width, nat.bit, a copy of words. -/
namespace Go.Proofs.YtdlcleecjeipnaaGreatDoor
open Go.RowKit Go.Proofs.YtdlcleecjeipnaaGreatDoorW.PrintWords Limbs
set_option linter.unusedVariables false

/-- How many bits a number has. -/
def wid (a : Nat) : Nat := if a = 0 then 0 else Nat.log2 a + 1
theorem wid_zero : wid 0 = 0 := rfl
theorem wid_of {a n : Nat} (h1 : 2 ^ n ≤ a) (h2 : a < 2 ^ (n + 1)) : wid a = n + 1 := by
  have h0 : a ≠ 0 := by have := Nat.two_pow_pos n; omega
  unfold wid
  rw [if_neg h0, (Nat.log2_eq_iff h0).2 ⟨h1, h2⟩]
theorem lt_wid (a : Nat) : a < 2 ^ wid a := by
  unfold wid
  split
  · subst_vars; decide
  · exact Nat.lt_log2_self
theorem wid_le {a : Nat} (h : a ≠ 0) : 2 ^ (wid a - 1) ≤ a := by
  unfold wid
  rw [if_neg h]
  exact Nat.log2_self_le h
theorem wid_pos {a : Nat} (h : a ≠ 0) : 0 < wid a := by unfold wid; rw [if_neg h]; omega
theorem wid_le_of {a n : Nat} (h : a < 2 ^ n) : wid a ≤ n := by
  rcases Nat.decEq a 0 with h0 | h0
  · have h1 := wid_le h0
    have h2 := wid_pos h0
    rcases Nat.lt_or_ge n (wid a) with h3 | h3
    · have := Nat.pow_le_pow_right (show 0 < 2 by decide) (show n ≤ wid a - 1 by omega)
      omega
    · exact h3
  · subst h0; rw [wid_zero]; exact Nat.zero_le _

/-- The width by the highest word. -/
theorem wid_limbs {xs : List Int} {a n s : Nat} (h : Lim xs a) (hn : xs.length = n + 1) (hs : s ≤ 63) (h1 : B64 ≤ 2 * (xs.getD n 0 * 2 ^ s)) (h2 : xs.getD n 0 * 2 ^ s < B64) : wid a + s = 64 * xs.length := by
  have hv : Limbs.val B64 xs = Limbs.val B64 (xs.take n) + B64 ^ n * xs.getD n 0 := by
    have := val_take_succ B64 xs n (by omega)
    rwa [← hn, List.take_length] at this
  rw [h.val] at hv
  have l0 := val_nonneg B64_pos (h.dig.take n)
  have l1 := val_lt B64_pos (h.dig.take n)
  rw [show (xs.take n).length = n from by rw [List.length_take]; omega] at l1
  have hB : B64 ^ n = ((2 ^ (64 * n) : Nat) : Int) := B64_pow n
  obtain ⟨y, hy⟩ := Int.eq_ofNat_of_zero_le (h.dig.get n B64_pos).1
  obtain ⟨l, hl⟩ := Int.eq_ofNat_of_zero_le l0
  rw [hy] at hv h1 h2
  rw [hl, hB] at hv
  rw [hl, hB] at l1
  have hv' : a = l + 2 ^ (64 * n) * y := by exact_mod_cast hv
  have l1' : l < 2 ^ (64 * n) := by exact_mod_cast l1
  have h1' : 2 ^ 64 ≤ 2 * (y * 2 ^ s) := by
    have : B64 = ((2 ^ 64 : Nat) : Int) := rfl
    rw [this] at h1; exact_mod_cast h1
  have h2' : y * 2 ^ s < 2 ^ 64 := by
    have : B64 = ((2 ^ 64 : Nat) : Int) := rfl
    rw [this] at h2; exact_mod_cast h2
  have y1 : 2 ^ (63 - s) ≤ y := by
    rcases Nat.lt_or_ge y (2 ^ (63 - s)) with h | h
    · exfalso
      have := Nat.mul_lt_mul_of_pos_right h (Nat.two_pow_pos s)
      rw [← Nat.pow_add, show 63 - s + s = 63 from by omega] at this
      omega
    · exact h
  have y2 : y < 2 ^ (64 - s) := by
    rcases Nat.lt_or_ge y (2 ^ (64 - s)) with h | h
    · exact h
    · exfalso
      have := Nat.mul_le_mul_right (2 ^ s) h
      rw [← Nat.pow_add, show 64 - s + s = 64 from by omega] at this
      omega
  have p0 := Nat.two_pow_pos (64 * n)
  have := wid_of (a := a) (n := 64 * n + (63 - s)) (by
      rw [Nat.pow_add]
      have := Nat.mul_le_mul_left (2 ^ (64 * n)) y1
      omega) (by
      rw [show 64 * n + (63 - s) + 1 = 64 * n + (64 - s) from by omega, Nat.pow_add]
      have := Nat.mul_le_mul_left (2 ^ (64 * n)) (show y + 1 ≤ 2 ^ (64 - s) from y2)
      rw [Nat.mul_add, Nat.mul_one] at this
      omega)
  omega

set_option maxHeartbeats 1000000 in
theorem width_any {w : World} {u : Value} {a : Nat} (hu : IsNat w u a) (ha : a < BIG) : Calls Tryz.prog 164 #[u] w fun e w' => e = .returned (.int .i64 (wid a)) ∧ w = w' := by
  obtain ⟨A, c, xs, ⟨h1, h2, h3⟩, c0⟩ := limbs_any hu
  have lx := h3.len_le ha
  rcases Nat.eq_zero_or_pos xs.length with h0 | h0
  · have : a = 0 := h3.len_zero.1 h0
    subst this
    rw [wid_zero]
    have b0 : ((xs.length : Int) == 0) = true := by rw [h0]; rfl
    clear h2 h3 ha
    go_enter Tryz.func164, Tryz.ntmps164
    go_wp2_with (go_at_call 151; refine c0.mono ?_; rintro e w' ⟨rfl, rfl⟩)
    go_ret
    exact ⟨rfl, rfl⟩
  · obtain ⟨n, hn⟩ : ∃ n, xs.length = n + 1 := ⟨xs.length - 1, by omega⟩
    have b0 : ((xs.length : Int) == 0) = false := beq_eq_false_iff_ne.2 (by omega)
    obtain ⟨ad, rfl, hcell⟩ := Kd.at_int h2 (n : Int) (by omega) (by omega)
    have hcx : w.cell? (ad.add n) = some (.int .u64 (xs.getD n 0)) := hcell
    clear hcell
    have dx := h3.dig.get n B64_pos
    have hx0 : 0 < xs.getD n 0 := by
      have hne : xs.getD n 0 ≠ 0 := by
        apply h3.nrm
        rw [List.getLast?_eq_getElem?, List.getD_eq_getElem?_getD, List.getElem?_eq_getElem (show n < xs.length by omega), show xs.length - 1 = n from by omega, List.getElem?_eq_getElem (show n < xs.length by omega)]; rfl
      omega
    obtain ⟨s, ⟨hs, hs1, hs2⟩, hlz⟩ := lz64 _ hx0 dx.2
    have hw := wid_limbs h3 hn hs hs1 hs2
    obtain ⟨x, hxx⟩ : ∃ x, Hid (x = xs.getD n 0) := ⟨_, Lib.hid rfl⟩
    rw [← hxx.out] at hcx hlz
    have HL := Lib.hid hlz
    have ew : (64 * ((n : Int) + 1) - s) = wid a := by omega
    have en : ((n : Int) + 1 - 1) = n := by omega
    rw [hn] at c0 h1 b0
    rw [show ((n + 1 : Nat) : Int) = (n : Int) + 1 from by omega] at b0
    clear h2 h3 ha dx hx0 hs1 hs2 hlz hxx hw
    go_enter Tryz.func164, Tryz.ntmps164
    go_wp2_with (first | (go_at_call 151; refine c0.mono ?_; rintro e w' ⟨rfl, rfl⟩) | (go_at_call 195; refine (HL.out _).mono ?_; rintro e w' ⟨rfl, rfl⟩))
    go_ret
    exact ⟨rfl, rfl⟩

theorem bit_val (q s : Nat) : Limbs.val B64 ((List.replicate (q + 1) 0).set q (2 ^ s)) = ((2 ^ (64 * q + s) : Nat) : Int) := by
  rw [val_set B64 _ _ _ (by simp), val_replicate, B64_pow, Nat.pow_add]
  have : (List.replicate (q + 1) (0 : Int)).getD q 0 = 0 := by simp [List.getD_eq_getElem?_getD]
  rw [this, Int.sub_zero]; push_cast; omega

set_option maxHeartbeats 1000000 in
theorem bit_any (k : Nat) (hk : k < 16777216) (w : World) : Calls Tryz.prog 165 #[.int .i64 k] w (Ans (fun r w' => NatAt w' r (2 ^ k)) w) := by
  obtain ⟨q, s, hs, rfl⟩ : ∃ q s : Nat, s < 64 ∧ k = 64 * q + s := ⟨k / 64, k % 64, by omega, by omega⟩
  obtain ⟨k, hk2⟩ : ∃ k, k = 64 * q + s := ⟨_, rfl⟩
  have e1 : (k : Int) / 64 = q := by omega
  have e2 : (k : Int) % 64 = s := by omega
  rw [← hk2]
  have hp : (2 : Int) ^ s < B64 := by
    have h1 : (2 : Int) ^ s ≤ 2 ^ 63 := pow_le_pow (by decide) (by omega)
    have h2 : (2 : Int) ^ 63 < B64 := by unfold B64; decide
    omega
  have p0 : (0 : Int) < 2 ^ s := pow_pos (by decide) s
  have ew : IntKind.u64.wrap (2 ^ s) = 2 ^ s := by
    unfold B64 at hp
    rw [IntKind.wrap_u64]; omega
  obtain ⟨v, hv⟩ : ∃ v, Hid ((2 : Int) ^ s = v) := ⟨_, Lib.hid rfl⟩
  obtain ⟨O, HO, hmk⟩ := make_words (q + 1) (by omega)
  have hA0 : Arr (w.alloc O) w.heap.size (List.replicate (q + 1) 0) := by rw [HO.out]; exact Arr.new w _
  have hE0 : Ext w (w.alloc O) := Ext.alloc w O
  have hco := hA0.cell q (by simp)
  have hfo := hA0.free q
  have hA1 := hA0.set q v
  have hE1 : Ext w ((w.alloc O).setCell ⟨w.heap.size, q, none⟩ (.int .u64 v)) := Below.setCell hE0 (Nat.le_refl _) _
  have hd : Dig B64 ((List.replicate (q + 1) 0).set q v) := (Dig.replicate B64_pos _).set _ (by rw [← hv.out]; omega) (by rw [← hv.out]; omega)
  have hl : ((List.replicate (q + 1) (0 : Int)).set q v).length = q + 1 := by simp
  have hm := made_nat (c := q + 1) (Nat.le_of_eq hl) (hA1.reads (by rw [hl]; omega)) hd
  rw [hl, show v = 2 ^ s from hv.out.symm, bit_val, ← hk2, Int.toNat_natCast, show (2 : Int) ^ s = v from hv.out] at hm
  have HM := Lib.hid hm
  have ec : ((q + 1 : Nat) : Int) = (q : Int) + 1 := by omega
  rw [ec] at hmk
  rw [hv.out] at ew
  obtain ⟨z, hz⟩ : ∃ z, Hid (z = (List.replicate (q + 1) (0 : Int)).getD q 0) := ⟨_, Lib.hid rfl⟩
  rw [← hz.out] at hco
  have hv' := hv.out
  have h64 : (s : Int) < 64 := by omega
  have hq : (q : Int) + 1 ≤ 35184372088832 := by omega
  have hk3 : (k : Int) ≤ 16777216 := by omega
  clear hm hA0 hE0 hA1 hd hl hp p0 HO hz hv ec hk hk2
  go_enter Tryz.func165, Tryz.ntmps165
  go_wp2_with fail
  refine HM.out.mono ?_
  rintro e w1 ⟨r, rfl, hr, hx⟩
  go_wp2
  go_ret
  exact ⟨r, rfl, hr, hE1.trans hx⟩

/-- slices.Clone of words. -/
theorem clone_any {w : World} {A : Option Addr} {c : Nat} {xs : List Int} (hr : U.C w A xs.length xs) (h0 : 0 < xs.length) (hl : xs.length ≤ 1048576) :
    Calls Tryz.prog 159 #[.slice A xs.length c] w fun e w' => ∃ g c' : Nat, e = .returned (.slice (some ⟨g, 0, none⟩) xs.length c') ∧ xs.length ≤ c' ∧ c' ≤ 9223372036854775807 ∧ Own w' g 0 xs ∧ w.heap.size ≤ g ∧ Ext w w' := by
  obtain ⟨ad, rfl, hcell⟩ := Kd.at_int hr (0 : Int) (by omega) (by omega)
  have hc0 : w.cell? ad = some (.int .u64 (rd xs 0)) := by simpa [Addr.add] using hcell
  obtain ⟨b, off, sp⟩ := ad
  have hsp : sp = none := by
    cases sp with
    | none => rfl
    | some p =>
      exfalso
      unfold World.cell? at hc0
      split at hc0 <;> simp at hc0
  subst hsp
  have hi : ∃ i0, Tryz.prog.info? 57 = some i0 ∧ i0.zero = some (.int .u64 0) ∧ i0.size = 1 ∧ i0.bytes = 8 := by
    have := PAll.info57
    cases h : Tryz.prog.info? 57 with
    | none => rw [h] at this; simp at this
    | some i0 => rw [h] at this; simp at this; exact ⟨i0, rfl, this⟩
  obtain ⟨i0, hi, hz, hs, hb⟩ := hi
  refine (Tryz.slices_Clone i0 (.int .u64 0) 1 8 hi hz hs hb rfl (by omega) Tryz.sizeOf57 b off xs.length c (xs.map (Value.int .u64)) w (by simp) (by unfold maxLen; omega) (by omega) ?_ ?_).mono ?_
  · intro j u hj
    have hjl : j < xs.length := by have := (List.getElem?_eq_some_iff.1 hj).1; simpa using this
    obtain ⟨ad', e, hcj⟩ := Kd.at_int hr (j : Int) (by omega) (by omega)
    cases e
    have : w.cell? (Addr.add ⟨b, off, none⟩ j) = some (.int .u64 (rd xs j)) := hcj
    rw [show Addr.add ⟨b, off, none⟩ j = ⟨b, off + j, none⟩ from by unfold Addr.add; split <;> simp_all] at this
    rw [this]
    rw [List.getElem?_map] at hj
    rw [List.getElem?_eq_getElem hjl] at hj
    simp at hj
    subst hj
    simp [rd, hjl]
  · intro u hu
    obtain ⟨x, -, rfl⟩ := List.mem_map.1 hu
    rfl
  · rintro e w' ⟨v, rfl, ⟨-, h⟩, hne, hb⟩
    rcases h with ⟨h, -⟩ | ⟨g, cap, cur, rfl, hg, hh, h1, h2, h3, h4⟩
    · exact absurd h hne
    · refine ⟨g, cap, rfl, h1, by unfold maxLen at h2; omega, ⟨cur, hh, fun i hi => ?_⟩, hg, hb⟩
      have h5 : (cur.toList.take (xs.length * 1))[i]? = some (.int .u64 (xs.getD i 0)) := by
        rw [h4, List.getElem?_map, List.getElem?_eq_getElem hi, List.getD_eq_getElem?_getD, List.getElem?_eq_getElem hi]; rfl
      rw [List.getElem?_take, if_pos (by omega), Array.getElem?_toList] at h5
      rw [Nat.zero_add]; exact h5
end Go.Proofs.YtdlcleecjeipnaaGreatDoor

/- The greatest common measure of two naturals. -/
namespace Go.Proofs.YtdlcleecjeipnaaGreatDoor
open Go.RowKit Go.Proofs.YtdlcleecjeipnaaGreatDoorW.PrintWords Limbs
set_option linter.unusedVariables false

theorem two_unique_le {k t m n : Nat} (hm : m % 2 = 1) (h : 2 ^ k * m = 2 ^ t * n) (hkt : k ≤ t) : k = t ∧ m = n := by
  obtain ⟨d, rfl⟩ : ∃ d, t = k + d := ⟨t - k, by omega⟩
  rw [Nat.pow_add, Nat.mul_assoc] at h
  have h1 := Nat.eq_of_mul_eq_mul_left (Nat.two_pow_pos k) h
  cases d with
  | zero => simp at h1; exact ⟨rfl, h1⟩
  | succ d => rw [Nat.pow_succ, Nat.mul_comm (2 ^ d) 2, Nat.mul_assoc] at h1; omega
theorem two_unique {k t m n : Nat} (hm : m % 2 = 1) (hn : n % 2 = 1) (h : 2 ^ k * m = 2 ^ t * n) : k = t ∧ m = n := by
  rcases Nat.le_total k t with h1 | h1
  · exact two_unique_le hm h h1
  · have := two_unique_le hn h.symm h1
    exact ⟨this.1.symm, this.2.symm⟩

/-- What twos answers, of a number. -/
theorem twos_lim {w : World} {A : Option Addr} {c : Nat} {xs : List Int} {a : Nat} (hc : xs.length ≤ c) (hr : U.C w A xs.length xs) (h : Lim xs a) (h0 : a ≠ 0) (ha : a < BIG) (hB : Bits w) :
    Calls Tryz.prog 247 #[.slice A xs.length c] w fun e w' => ∃ t m : Nat, e = .returned (.int .i64 t) ∧ t < 16777216 ∧ a = 2 ^ t * m ∧ m % 2 = 1 ∧ w = w' := by
  have hl := h.len_le ha
  refine (twos_any hc hr h.dig (by rw [h.val]; omega) (by omega) hB).mono ?_
  rintro e w' ⟨q, k, rfl, hk, hq, hz, ⟨m, hm⟩, rfl⟩
  obtain ⟨m', hm'⟩ := twos_val hq hk hz hm
  rw [h.val] at hm'
  have p0 : (0 : Int) < 2 ^ (64 * q + k) := pow_pos (by decide) _
  have hm0 : 0 ≤ m' := by
    rcases Int.lt_or_le m' 0 with h1 | h1
    · have := Int.mul_neg_of_pos_of_neg p0 (show 2 * m' + 1 < 0 by omega); omega
    · exact h1
  obtain ⟨m', rfl⟩ := Int.eq_ofNat_of_zero_le hm0
  refine ⟨64 * q + k, 2 * m' + 1, by push_cast; rfl, ?_, by exact_mod_cast hm', by omega, rfl⟩
  rcases Nat.lt_or_ge (64 * q + k) 16777216 with h1 | h1
  · exact h1
  · exfalso
    have h2 : BIG ≤ 2 ^ (64 * q + k) := Nat.pow_le_pow_right (by decide) h1
    have h3 : a = 2 ^ (64 * q + k) * (2 * m' + 1) := by exact_mod_cast hm'
    have h4 : 2 ^ (64 * q + k) * 1 ≤ 2 ^ (64 * q + k) * (2 * m' + 1) := Nat.mul_le_mul_left _ (by omega)
    omega

/-- Two odd numbers in blocks of the call's own. -/
structure Odds (w0 w : World) (g o c g' o' c' : Nat) (xs ys : List Int) (a b G : Nat) : Prop where
  hc : xs.length ≤ c
  hc' : ys.length ≤ c'
  own : Own w g o xs
  own' : Own w g' o' ys
  ne : g ≠ g'
  new : w0.heap.size ≤ g
  new' : w0.heap.size ≤ g'
  lim : Lim xs a
  lim' : Lim ys b
  odd : a % 2 = 1
  odd' : b % 2 = 1
  gcd : Nat.gcd a b = G
  big : a < BIG
  big' : b < BIG
  cap : c ≤ 9223372036854775807
  cap' : c' ≤ 9223372036854775807
  ext : Ext w0 w

theorem Odds.swap {w0 w : World} {g o c g' o' c' : Nat} {xs ys : List Int} {a b G : Nat} (h : Odds w0 w g o c g' o' c' xs ys a b G) : Odds w0 w g' o' c' g o c ys xs b a G :=
  ⟨h.hc', h.hc, h.own', h.own, h.ne.symm, h.new', h.new, h.lim', h.lim, h.odd', h.odd, by rw [Nat.gcd_comm]; exact h.gcd, h.big', h.big, h.cap', h.cap, h.ext⟩
theorem Odds.move {w0 w w' : World} {g o c g' o' c' : Nat} {xs ys : List Int} {a b G : Nat} (h : Odds w0 w g o c g' o' c' xs ys a b G) (he : Ext w w') : Odds w0 w' g o c g' o' c' xs ys a b G :=
  ⟨h.hc, h.hc', h.own.ext he, h.own'.ext he, h.ne, h.new, h.new', h.lim, h.lim', h.odd, h.odd', h.gcd, h.big, h.big', h.cap, h.cap', h.ext.trans he⟩

theorem Odds.len {w0 w : World} {g o c g' o' c' : Nat} {xs ys : List Int} {a b G : Nat} (h : Odds w0 w g o c g' o' c' xs ys a b G) (hab : b < a) : ys.length ≤ xs.length := by
  rcases Nat.lt_or_ge xs.length ys.length with h1 | h1
  · have := val_lt_of_length B64_pos h.lim.dig h.lim'.dig h.lim'.nrm h1
    rw [h.lim.val, h.lim'.val] at this
    omega
  · exact h1

theorem Odds.compare {w0 w : World} {g o c g' o' c' : Nat} {xs ys : List Int} {a b G : Nat} (h : Odds w0 w g o c g' o' c' xs ys a b G) :
    Calls Tryz.prog 152 #[.slice (some ⟨g, o, none⟩) xs.length c, .slice (some ⟨g', o', none⟩) ys.length c'] w fun e w' => e = .returned (.int .i64 (cmpI a b)) ∧ Ext w w' := by
  have l1 := h.lim.len_le h.big
  have l2 := h.lim'.len_le h.big'
  exact compare_calls h.hc (h.own.reads (by omega)) h.lim h.hc' (h.own'.reads (by omega)) h.lim'

/-- What a call that writes the block g alone answers, the block g new. -/
theorem Odds.less {w0 w : World} {g o c g' o' c' : Nat} {xs ys : List Int} {a b G : Nat} (h : Odds w0 w g o c g' o' c' xs ys a b G) (hab : b < a) :
    Calls Tryz.prog 249 #[.slice (some ⟨g, o, none⟩) xs.length c, .slice (some ⟨g', o', none⟩) ys.length c'] w (PartPost g (a - b) w) := by
  have l1 := h.lim.len_le h.big
  exact less_any h.hc h.own h.lim.dig h.lim.val h.hc' h.own' h.lim'.dig h.lim'.val h.ne.symm (by omega) (h.len hab) (by omega) h.cap

theorem Odds.next {w0 w w1 : World} {g o c g' o' c' : Nat} {xs ys : List Int} {a b G : Nat} (h : Odds w0 w g o c g' o' c' xs ys a b G) (hab : b < a) {o1 c1 : Nat} {zs : List Int}
    (hc1 : zs.length ≤ c1) (hO : Own w1 g o1 zs) (hL : Lim zs (a - b)) (hG : w.grownBy w1 (some g)) (hcap : c1 ≤ 9223372036854775807) (hB : Bits w0) :
    Calls Tryz.prog 248 #[.slice (some ⟨g, o1, none⟩) zs.length c1] w1 fun e w' => ∃ (o2 c2 m : Nat) (us : List Int), e = .returned (.slice (some ⟨g, o2, none⟩) us.length c2) ∧ Odds w0 w' g o2 c2 g' o' c' us ys m b G ∧ m + b < a + b := by
  have hbig : a - b < BIG := by have := h.big; omega
  have l1 := hL.len_le hbig
  have hE1 : Ext w0 w1 := h.ext.only hG h.new
  refine (odd_any hc1 hO hL.dig hL.val (by omega) (by omega) hcap (hB.ext hE1)).mono ?_
  rintro e w' ⟨m, k, e1, e2, o2, c2, us, rfl, q1, q2, q3, q4, q5⟩
  have hp : 2 ^ k * m ≥ 1 * m := Nat.mul_le_mul_right m (Nat.two_pow_pos k)
  have hb1 := h.odd'
  have ha1 := h.odd
  refine ⟨o2, c2, m, us, rfl, ⟨q1, h.hc', q2, (h.own'.other hG h.ne.symm).other q4 h.ne.symm, h.ne, h.new, h.new', q3, h.lim', e2, h.odd', ?_, by have := h.big; omega, h.big', q5, h.cap', hE1.only q4 h.new⟩, by omega⟩
  rw [Gcd2.round h.odd' (by omega) e1]
  exact h.gcd
end Go.Proofs.YtdlcleecjeipnaaGreatDoor

/- nat.common, nat.Gcd: the walks. -/
namespace Go.Proofs.YtdlcleecjeipnaaGreatDoor
open Go.RowKit Go.Proofs.YtdlcleecjeipnaaGreatDoorW.PrintWords Limbs
set_option linter.unusedVariables false

set_option maxHeartbeats 4000000 in
theorem common_any {w : World} {A A' : Option Addr} {c c' : Nat} {xs ys : List Int} {a b : Nat} (h1 : xs.length ≤ c) (h2 : U.C w A xs.length xs) (h3 : Lim xs a) (k1 : ys.length ≤ c') (k2 : U.C w A' ys.length ys) (k3 : Lim ys b)
    (ha0 : a ≠ 0) (hb0 : b ≠ 0) (ha : a < BIG) (hb : b < BIG) (hB : Bits w) :
    Calls Tryz.prog 212 #[.slice A xs.length c, .slice A' ys.length c'] w (Ans (fun r w' => NatAt w' r (Nat.gcd a b)) w) := by
  have lx := h3.len_le ha
  have ly := k3.len_le hb
  have t1 := Lib.hid (twos_lim h1 h2 h3 ha0 ha hB)
  have t2 := Lib.hid (twos_lim k1 k2 k3 hb0 hb hB)
  have hxl : 0 < xs.length := by
    rcases Nat.eq_zero_or_pos xs.length with h | h
    · exact absurd (h3.len_zero.1 h) ha0
    · exact h
  have hyl : 0 < ys.length := by
    rcases Nat.eq_zero_or_pos ys.length with h | h
    · exact absurd (k3.len_zero.1 h) hb0
    · exact h
  have CX := Lib.hid (fun W (hW : Ext w W) => clone_any (c := c) (Kd.C_below h2 hW) hxl (by omega))
  have CY := Lib.hid (fun W (hW : Ext w W) => clone_any (c := c') (Kd.C_below k2 hW) hyl (by omega))
  have H3 := Lib.hid h3
  have K3 := Lib.hid k3
  have HA := Lib.hid (fun (_ : Unit) => ha)
  have HB := Lib.hid (fun (_ : Unit) => hb)
  clear h1 h2 h3 k1 k2 k3 hxl hyl ha hb
  go_enter Tryz.func212, Tryz.ntmps212
  go_wp2_with fail
  refine t1.out.mono ?_; rintro e w1 ⟨ta, ma, rfl, hta, ea, oa, rfl⟩
  go_wp2_with fail
  refine t2.out.mono ?_; rintro e w1 ⟨tb, mb, rfl, htb, eb, ob, rfl⟩
  have hwh : Nat.gcd a b = Nat.gcd ma mb * 2 ^ (min ta tb) := by rw [ea, eb]; exact Gcd2.whole oa ob
  obtain ⟨tm, htm⟩ : ∃ tm, tm = min ta tb := ⟨_, rfl⟩
  have hmn : min (ta : Int) (tb : Int) = (tm : Int) := by omega
  have htm2 : tm < 16777216 := by omega
  rw [← htm] at hwh
  have hpw : 2 ^ tm < BIG := Nat.pow_lt_pow_right (by decide) htm2
  obtain ⟨G, hG⟩ : ∃ G, G = Nat.gcd ma mb := ⟨_, rfl⟩
  rw [← hG] at hwh
  have HWH := Lib.hid hwh
  have HW := Lib.hid (fun (_ : Unit) => hpw)
  have CB := Lib.hid (fun W => bit_any tm htm2 W)
  have EA := Lib.hid ea
  have EB := Lib.hid eb
  have HG := Lib.hid hG
  have OA := Lib.hid oa
  have OB := Lib.hid ob
  have HBt := Lib.hid hB
  clear htm hwh hpw htm2 t1 t2 hta htb ea eb hG oa ob hB
  go_wp2_with fail
  refine (CX.out _ (Ext.refl _)).mono ?_
  rintro e w1 ⟨g, c1, rfl, hc1, hp1, hO1, hg1, hE1⟩
  have C1 := Lib.hid (odd_any hc1 hO1 H3.out.dig H3.out.val ha0 (by omega) hp1 (HBt.out.ext hE1))
  clear hc1 hO1
  go_wp2_with fail
  refine C1.out.mono ?_
  rintro e w2 ⟨m1, k1, e1, p1, o2, c2, us, rfl, hc2, hO2, hL2, hG2, hp2⟩
  have hE2 : Ext w w2 := hE1.only hG2 hg1
  have hg2 : g < w2.heap.size := hO2.lt
  clear C1
  go_wp2_with fail
  refine (CY.out _ ?_).mono ?_
  exact hE2
  rintro e w3 ⟨g', c3, rfl, hc3, hp3, hO3, hg3, hE3⟩
  replace hO2 := hO2.ext hE3
  have hE4 := hE2.trans hE3
  have C1 := Lib.hid (odd_any hc3 hO3 K3.out.dig K3.out.val hb0 (by omega) hp3 (HBt.out.ext hE4))
  clear hc3 hO3
  go_wp2_with fail
  refine C1.out.mono ?_
  rintro e w4 ⟨m2, k2, e2, p2, o4, c4, vs, rfl, hc4, hO4, hL4, hG4, hp4⟩
  have hI0 : Odds w w4 g o2 c2 g' o4 c4 us vs m1 m2 G := by
    have ha := HA.out ()
    have hb := HB.out ()
    have q1 : 2 ^ k1 * m1 ≥ 1 * m1 := Nat.mul_le_mul_right m1 (Nat.two_pow_pos k1)
    have q2 : 2 ^ k2 * m2 ≥ 1 * m2 := Nat.mul_le_mul_right m2 (Nat.two_pow_pos k2)
    refine ⟨hc2, hc4, hO2.other hG4 (by omega), hO4, by omega, hg1, by have := hE2.size; omega, hL2, hL4, p1, p2, ?_, by omega, by omega, hp2, hp4, hE4.only hG4 (by have := hE2.size; omega)⟩
    have ea := EA.out
    have eb := EB.out
    rw [e1] at ea
    rw [e2] at eb
    rw [HG.out, (two_unique p1 OA.out ea).2, (two_unique p2 OB.out eb).2]
  clear C1 CX CY H3 K3 HA HB EA EB HG OA OB hE1 hE2 hE3 hE4 e1 e2 p1 p2 hc2 hc4 hO2 hO4 hL2 hL4 hG2 hG4 hg1 hg2 hg3 hp1 hp2 hp3 hp4 lx ly ha0 hb0 hmn
  go_wp2_with fail
  go_loopg [0, 1] (m1 + m2) (fun kq u v wr => ∃ (g o c g' o' c' : Nat) (xs ys : List Int) (a b : Nat), u = .slice (some ⟨g, o, none⟩) xs.length c ∧ v = .slice (some ⟨g', o', none⟩) ys.length c' ∧ Odds w wr g o c g' o' c' xs ys a b G ∧ Hid (kq = a + b))
  case atStart => exact ⟨g, o2, c2, g', o4, c4, us, vs, m1, m2, rfl, rfl, hI0, Lib.hid rfl⟩
  case round =>
    clear hI0
    obtain ⟨g, o, c, g', o', c', xs, ys, a, b, rfl, rfl, hI, hk⟩ := hrel
    have CC := Lib.hid hI.compare
    have HI := Lib.hid hI
    clear hI
    rcases Nat.lt_trichotomy a b with hab | hab | hab
    · have ecm : cmpI a b = -1 := cmpI_lt (by omega)
      go_wp2_with fail
      refine CC.out.mono ?_
      rintro e w1 ⟨rfl, hx1⟩
      have hI1 := (HI.out.move hx1).swap
      have CL := Lib.hid (hI1.less hab)
      rw [ecm]
      clear ecm CC HI
      go_wp2_with fail
      refine CL.out.mono ?_
      rintro e w2 ⟨o2, c2, zs, rfl, z1, z2, z3, z4, z5⟩
      have CN := Lib.hid (hI1.next hab z1 z2 z3 z4 z5 HBt.out)
      clear hI1 CL z1 z2 z3 z4 z5
      go_wp2_with fail
      refine CN.out.mono ?_
      rintro e w3 ⟨o3, c3, m, us, rfl, hI3, hdec⟩
      clear CN
      go_wp2
      go_roundg (m + a)
      case measure => have := hk.out; omega
      case rel => exact ⟨_, _, _, _, _, _, _, _, m, a, rfl, rfl, hI3, Lib.hid rfl⟩
    · subst hab
      have ecm : cmpI a a = 0 := cmpI_eq _
      have CM := Lib.hid (fun W (hW : Ext wr W) => made_nat HI.out.hc ((HI.out.own.ext hW).reads (by have := HI.out.lim.len_le HI.out.big; omega)) HI.out.lim.dig)
      go_wp2_with fail
      refine CC.out.mono ?_
      rintro e w1 ⟨rfl, hx1⟩
      rw [ecm]
      clear ecm CC hk
      go_wp2_with fail
      refine (CM.out _ ?_).mono ?_
      exact hx1
      rintro e w2 ⟨r, rfl, hr, hx2⟩
      rw [HI.out.lim.val, Int.toNat_natCast] at hr
      clear CM
      go_wp2_with fail
      refine (CB.out _).mono ?_
      rintro e w3 ⟨r2, rfl, hr2, hx3⟩
      have CMu := Lib.hid (mul_any (hr.ext hx3).is hr2.is HI.out.big (HW.out ()))
      clear hr hr2
      go_wp2_with fail
      refine CMu.out.mono ?_
      rintro e w4 ⟨r4, rfl, hr4, hx4⟩
      have hg := HI.out.gcd
      rw [Nat.gcd_self] at hg
      subst hg
      go_wp2
      go_ret
      exact ⟨r4, rfl, by rw [HWH.out]; exact hr4, HI.out.ext.trans (hx1.trans (hx2.trans (hx3.trans hx4)))⟩
    · have ecm : cmpI a b = 1 := cmpI_gt (by omega)
      go_wp2_with fail
      refine CC.out.mono ?_
      rintro e w1 ⟨rfl, hx1⟩
      have hI1 := HI.out.move hx1
      have CL := Lib.hid (hI1.less hab)
      rw [ecm]
      clear ecm CC HI
      go_wp2_with fail
      refine CL.out.mono ?_
      rintro e w2 ⟨o2, c2, zs, rfl, z1, z2, z3, z4, z5⟩
      have CN := Lib.hid (hI1.next hab z1 z2 z3 z4 z5 HBt.out)
      clear hI1 CL z1 z2 z3 z4 z5
      go_wp2_with fail
      refine CN.out.mono ?_
      rintro e w3 ⟨o3, c3, m, us, rfl, hI3, hdec⟩
      clear CN
      go_wp2
      go_roundg (m + b)
      case measure => have := hk.out; omega
      case rel => exact ⟨_, _, _, _, _, _, _, _, m, b, rfl, rfl, hI3, Lib.hid rfl⟩
set_option maxHeartbeats 4000000 in
theorem gcd_any {w : World} {u v : Value} {a b : Nat} (hu : IsNat w u a) (hv : IsNat w v b) (ha' : a < BIG) (hb' : b < BIG) (hB : Bits w) :
    Calls Tryz.prog 166 #[u, v] w (Ans (fun r w' => NatAt w' r (Nat.gcd a b)) w) := by
  have CP := Lib.hid (cmp_any hu hv)
  have ha := Lib.hid (fun (_ : Unit) => ha')
  have hb := Lib.hid (fun (_ : Unit) => hb')
  clear ha' hb'
  go_enter Tryz.func166, Tryz.ntmps166
  go_wp2_with fail
  refine CP.out.mono ?_
  rintro e w1 ⟨rfl, hx1⟩
  clear CP
  rcases Nat.lt_or_ge a b with hab | hab
  · have ec : cmpI a b = -1 := cmpI_lt (by omega)
    rw [ec]
    clear ec
    have CZ := Lib.hid (fun W (hW : Ext w W) => zero_any (hu.ext hW))
    rcases Nat.eq_zero_or_pos a with h0 | h0
    · have eg : Nat.gcd a b = b := by rw [h0]; simp
      have ez : decide (a = 0) = true := decide_eq_true h0
      have EG := Lib.hid eg
      obtain ⟨A, c, xs, ⟨h1, h2, h3⟩, c0⟩ := limbs_any (hv.ext hx1)
      have hm : Calls Tryz.prog 150 #[.slice A xs.length c] w1 (Ans (fun r w' => NatAt w' r b) w1) := by
        have := made_nat h1 h2 h3.dig
        rwa [h3.val, Int.toNat_natCast] at this
      have HM := Lib.hid hm
      have C0 := Lib.hid c0
      clear h1 h2 h3 hm c0 eg h0
      go_wp2_with fail
      refine (CZ.out _ ?_).mono ?_
      exact hx1
      rintro e w2 ⟨rfl, rfl⟩
      rw [ez]
      go_wp2_with fail
      refine C0.out.mono ?_
      rintro e w2 ⟨rfl, rfl⟩
      go_wp2_with fail
      refine HM.out.mono ?_
      rintro e w2 ⟨r, rfl, hr, hx2⟩
      go_wp2
      go_ret
      exact ⟨r, rfl, by rw [EG.out]; exact hr, hx1.trans hx2⟩
    · have ez : decide (a = 0) = false := decide_eq_false (by omega)
      have CD := Lib.hid (div_any (hv.ext hx1) (hu.ext hx1) h0 (hb.out ()))
      have hmod : b % a < a := Nat.mod_lt _ h0
      have hbz : a ≠ 0 := by omega
      go_wp2_with fail
      refine (CZ.out _ ?_).mono ?_
      exact hx1
      rintro e w2 ⟨rfl, rfl⟩
      rw [ez]
      clear ez h0
      go_wp2_with fail
      refine CD.out.mono ?_
      rintro e w2 ⟨q, r, er, rfl, ⟨hq, hr, rfl⟩, hx2⟩
      have hx3 := hx1.trans hx2
      have CR := Lib.hid (zero_any hr.is)
      clear CD
      have EG : Hid (Nat.gcd a b = Nat.gcd a (b % a)) := Lib.hid (by
        have := Nat.gcd_rec a b
        rw [Nat.gcd_comm (b % a)] at this
        first | exact this | (rw [Nat.gcd_comm]; exact this))
      obtain ⟨m, hm⟩ : ∃ m, b % a = m := ⟨_, rfl⟩
      rw [hm] at hr CR EG hmod
      obtain ⟨A, c, xs, ⟨h1, h2, h3⟩, c0⟩ := limbs_any (hu.ext hx3)
      have C0 := Lib.hid c0
      rcases Nat.eq_zero_or_pos m with h0 | h0
      · have ez : decide (m = 0) = true := decide_eq_true h0
        have hm : Calls Tryz.prog 150 #[.slice A xs.length c] w2 (Ans (fun r w' => NatAt w' r a) w2) := by
          have := made_nat h1 h2 h3.dig
          rwa [h3.val, Int.toNat_natCast] at this
        have HM := Lib.hid hm
        clear h1 h2 h3 hm c0
        go_wp2_with fail
        refine CR.out.mono ?_
        rintro e w2 ⟨rfl, rfl⟩
        rw [ez]
        go_wp2_with fail
        refine C0.out.mono ?_
        rintro e w2 ⟨rfl, rfl⟩
        go_wp2_with fail
        refine HM.out.mono ?_
        rintro e w4 ⟨r, rfl, hr, hx4⟩
        go_wp2
        go_ret
        exact ⟨r, rfl, by rw [EG.out, h0, Nat.gcd_zero_right]; exact hr, hx3.trans hx4⟩
      · have ez : decide (m = 0) = false := decide_eq_false (by omega)
        obtain ⟨A', c', ys, ⟨k1, k2, k3⟩, c1⟩ := limbs_any hr.is
        have C1 := Lib.hid c1
        have CC := Lib.hid (common_any h1 h2 h3 k1 k2 k3 hbz (by omega) (ha.out ()) (by have := (ha.out ()); omega) (hB.ext hx3))
        clear h1 h2 h3 k1 k2 k3 c0 c1 hm
        go_wp2_with fail
        refine CR.out.mono ?_
        rintro e w2 ⟨rfl, rfl⟩
        rw [ez]
        clear ez hmod hbz h0
        go_wp2_with fail
        refine C0.out.mono ?_
        rintro e w2 ⟨rfl, rfl⟩
        go_wp2_with fail
        refine C1.out.mono ?_
        rintro e w2 ⟨rfl, rfl⟩
        go_wp2_with fail
        refine CC.out.mono ?_
        rintro e w4 ⟨r, rfl, hr, hx4⟩
        go_wp2
        go_ret
        exact ⟨r, rfl, by rw [EG.out]; exact hr, hx3.trans hx4⟩
  · have ec : 0 ≤ cmpI a b := cmpI_ge (by omega)
    obtain ⟨cm, hcm⟩ : ∃ cm, cmpI a b = cm := ⟨_, rfl⟩
    rw [hcm] at ec ⊢
    clear hcm
    have CZ := Lib.hid (fun W (hW : Ext w W) => zero_any (hv.ext hW))
    rcases Nat.eq_zero_or_pos b with h0 | h0
    · have eg : Nat.gcd a b = a := by rw [h0]; simp
      have ez : decide (b = 0) = true := decide_eq_true h0
      have EG := Lib.hid eg
      obtain ⟨A, c, xs, ⟨h1, h2, h3⟩, c0⟩ := limbs_any (hu.ext hx1)
      have hm : Calls Tryz.prog 150 #[.slice A xs.length c] w1 (Ans (fun r w' => NatAt w' r a) w1) := by
        have := made_nat h1 h2 h3.dig
        rwa [h3.val, Int.toNat_natCast] at this
      have HM := Lib.hid hm
      have C0 := Lib.hid c0
      clear h1 h2 h3 hm c0 eg h0
      go_wp2_with fail
      refine (CZ.out _ ?_).mono ?_
      exact hx1
      rintro e w2 ⟨rfl, rfl⟩
      rw [ez]
      go_wp2_with fail
      refine C0.out.mono ?_
      rintro e w2 ⟨rfl, rfl⟩
      go_wp2_with fail
      refine HM.out.mono ?_
      rintro e w2 ⟨r, rfl, hr, hx2⟩
      go_wp2
      go_ret
      exact ⟨r, rfl, by rw [EG.out]; exact hr, hx1.trans hx2⟩
    · have ez : decide (b = 0) = false := decide_eq_false (by omega)
      have CD := Lib.hid (div_any (hu.ext hx1) (hv.ext hx1) h0 (ha.out ()))
      have hmod : a % b < b := Nat.mod_lt _ h0
      have hbz : b ≠ 0 := by omega
      go_wp2_with fail
      refine (CZ.out _ ?_).mono ?_
      exact hx1
      rintro e w2 ⟨rfl, rfl⟩
      rw [ez]
      clear ez h0
      go_wp2_with fail
      refine CD.out.mono ?_
      rintro e w2 ⟨q, r, er, rfl, ⟨hq, hr, rfl⟩, hx2⟩
      have hx3 := hx1.trans hx2
      have CR := Lib.hid (zero_any hr.is)
      clear CD
      have EG : Hid (Nat.gcd a b = Nat.gcd b (a % b)) := Lib.hid (by
        have := Nat.gcd_rec b a
        rw [Nat.gcd_comm (a % b)] at this
        first | exact this | (rw [Nat.gcd_comm]; exact this))
      obtain ⟨m, hm⟩ : ∃ m, a % b = m := ⟨_, rfl⟩
      rw [hm] at hr CR EG hmod
      obtain ⟨A, c, xs, ⟨h1, h2, h3⟩, c0⟩ := limbs_any (hv.ext hx3)
      have C0 := Lib.hid c0
      rcases Nat.eq_zero_or_pos m with h0 | h0
      · have ez : decide (m = 0) = true := decide_eq_true h0
        have hm : Calls Tryz.prog 150 #[.slice A xs.length c] w2 (Ans (fun r w' => NatAt w' r b) w2) := by
          have := made_nat h1 h2 h3.dig
          rwa [h3.val, Int.toNat_natCast] at this
        have HM := Lib.hid hm
        clear h1 h2 h3 hm c0
        go_wp2_with fail
        refine CR.out.mono ?_
        rintro e w2 ⟨rfl, rfl⟩
        rw [ez]
        go_wp2_with fail
        refine C0.out.mono ?_
        rintro e w2 ⟨rfl, rfl⟩
        go_wp2_with fail
        refine HM.out.mono ?_
        rintro e w4 ⟨r, rfl, hr, hx4⟩
        go_wp2
        go_ret
        exact ⟨r, rfl, by rw [EG.out, h0, Nat.gcd_zero_right]; exact hr, hx3.trans hx4⟩
      · have ez : decide (m = 0) = false := decide_eq_false (by omega)
        obtain ⟨A', c', ys, ⟨k1, k2, k3⟩, c1⟩ := limbs_any hr.is
        have C1 := Lib.hid c1
        have CC := Lib.hid (common_any h1 h2 h3 k1 k2 k3 hbz (by omega) (hb.out ()) (by have := (hb.out ()); omega) (hB.ext hx3))
        clear h1 h2 h3 k1 k2 k3 c0 c1 hm
        go_wp2_with fail
        refine CR.out.mono ?_
        rintro e w2 ⟨rfl, rfl⟩
        rw [ez]
        clear ez hmod hbz h0
        go_wp2_with fail
        refine C0.out.mono ?_
        rintro e w2 ⟨rfl, rfl⟩
        go_wp2_with fail
        refine C1.out.mono ?_
        rintro e w2 ⟨rfl, rfl⟩
        go_wp2_with fail
        refine CC.out.mono ?_
        rintro e w4 ⟨r, rfl, hr, hx4⟩
        go_wp2
        go_ret
        exact ⟨r, rfl, by rw [EG.out]; exact hr, hx3.trans hx4⟩

end Go.Proofs.YtdlcleecjeipnaaGreatDoor

/- nat.Pow. -/
namespace Go.Proofs.YtdlcleecjeipnaaGreatDoor
open Go.RowKit Go.Proofs.YtdlcleecjeipnaaGreatDoorW.PrintWords Limbs
set_option linter.unusedVariables false

theorem i64_and1 (n : Int) : bits .and .i64 n 1 = n % 2 := by
  show IntKind.i64.wrap ((BitVec.ofInt 64 n &&& BitVec.ofInt 64 1).toNat : Int) = _
  rw [BitVec.toNat_and]
  have e1 : (BitVec.ofInt 64 1).toNat = 2 ^ 1 - 1 := by decide
  rw [e1, Nat.and_two_pow_sub_one_eq_mod]
  have h : ((BitVec.ofInt 64 n).toNat : Int) = n % 18446744073709551616 := by
    rw [BitVec.toNat_ofInt]; omega
  have h2 : (((BitVec.ofInt 64 n).toNat % 2 ^ 1 : Nat) : Int) = n % 2 := by
    omega
  rw [h2, IntKind.wrap_i64]; omega

/-- What stands between the rounds of Pow. -/
structure PowInv (a k out base j : Nat) : Prop where
  eqn : out * base ^ j = a ^ k
  pos : 0 < a → 0 < out ∧ 0 < base
  nil : a = 0 → base = 0 ∧ out ≤ 1
  out : out < BIG
  base : base < BIG

theorem PowInv.start {a k : Nat} (ha : a < BIG) : PowInv a k 1 a k := by
  refine ⟨Nat.one_mul _, fun h => ⟨by decide, h⟩, fun h => ⟨h, Nat.le_refl _⟩, ?_, ha⟩
  exact lt_BIG_of 1 (by decide) (by decide)

theorem PowInv.odd {a k out base j : Nat} (h : PowInv a k out base (2 * j + 1)) (hk : a ^ k < BIG) : PowInv a k (out * base) base (2 * j) ∧ out * base < BIG := by
  have e : out * base * base ^ (2 * j) = a ^ k := by
    rw [← h.eqn, Nat.pow_succ]; grind
  have hb : out * base < BIG := by
    rcases Nat.eq_zero_or_pos a with h0 | h0
    · have := h.nil h0
      rw [this.1, Nat.mul_zero]; exact Nat.lt_of_le_of_lt (Nat.zero_le _) hk
    · have hp : 0 < base ^ (2 * j) := Nat.pow_pos (h.pos h0).2
      have := Nat.mul_le_mul_left (out * base) hp
      rw [Nat.mul_one, e] at this
      omega
  refine ⟨⟨e, fun h0 => ⟨Nat.mul_pos (h.pos h0).1 (h.pos h0).2, (h.pos h0).2⟩, fun h0 => ⟨(h.nil h0).1, by rw [(h.nil h0).1]; simp⟩, hb, h.base⟩, hb⟩

theorem PowInv.half {a k out base j : Nat} (h : PowInv a k out base (2 * j)) (hj : 0 < j) (hk : a ^ k < BIG) : PowInv a k out (base * base) j := by
  have e : out * (base * base) ^ j = a ^ k := by
    rw [← h.eqn, Nat.pow_mul, Nat.pow_two]
  have hb : base * base < BIG := by
    rcases Nat.eq_zero_or_pos a with h0 | h0
    · have := h.nil h0
      rw [this.1, Nat.mul_zero]; exact Nat.lt_of_le_of_lt (Nat.zero_le _) hk
    · have hp := h.pos h0
      have h1 : (base * base) ^ 1 ≤ (base * base) ^ j := Nat.pow_le_pow_right (Nat.mul_pos hp.2 hp.2) hj
      have h2 := Nat.mul_le_mul_right ((base * base) ^ j) hp.1
      rw [Nat.pow_one] at h1
      rw [e] at h2
      omega
  exact ⟨e, fun h0 => ⟨(h.pos h0).1, Nat.mul_pos (h.pos h0).2 (h.pos h0).2⟩, fun h0 => ⟨by rw [(h.nil h0).1], (h.nil h0).2⟩, h.out, hb⟩

theorem pow_none {w : World} {u : Value} {k : Int} (hk : k ≤ 0) : Calls Tryz.prog 94 #[u, .int .i64 k] w (Ans (fun r w' => NatAt w' r 1) w) := by
  have HO := Lib.hid (of_any 1 (by unfold B64; decide))
  go_enter Tryz.func94, Tryz.ntmps94
  go_wp2_with fail
  refine (HO.out _).mono ?_
  rintro e w1 ⟨r, rfl, hr, hx⟩
  go_wp2_with fail
  go_loopw [1, 5] (fun u o w' => u = .int .i64 k ∧ o = r ∧ w' = w1) (fun _ _ _ => 0)
  case atStart => exact ⟨rfl, rfl, rfl⟩
  case round =>
    obtain ⟨rfl, rfl, rfl⟩ := hrel
    go_wp2
    go_ret
    exact ⟨_, rfl, hr, hx⟩

set_option maxHeartbeats 1000000 in
theorem pow_any {w : World} {u : Value} {a k : Nat} (hu : IsNat w u a) (ha : a < BIG) (hk : a ^ k < BIG) (hk2 : k < 4611686018427387904) :
    Calls Tryz.prog 94 #[u, .int .i64 k] w (Ans (fun r w' => NatAt w' r (a ^ k)) w) := by
  have HO := Lib.hid (of_any 1 (by unfold B64; decide))
  have HK := Lib.hid (fun (_ : Unit) => hk)
  have hI0 := PowInv.start (k := k) ha
  clear ha hk
  go_enter Tryz.func94, Tryz.ntmps94
  go_wp2_with fail
  refine (HO.out _).mono ?_
  rintro e w1 ⟨r, rfl, hr, hx⟩
  clear HO
  have hu1 := hu.ext hx
  go_wp2_with fail
  go_loopw [1, 5, 6] (fun kv o b wr => ∃ (j out base : Nat), kv = .int .i64 j ∧ j ≤ k ∧ IsNat wr o out ∧ NatAt wr o out ∧ IsNat wr b base ∧ PowInv a k out base j ∧ Ext w wr) (fun kv _ _ _ => (intOf kv).toNat)
  case atStart => exact ⟨k, 1, a, rfl, Nat.le_refl _, hr.is, hr, hu1, hI0, hx⟩
  case round =>
    clear hI0 hr hu1 hx
    obtain ⟨j, out, base, rfl, hj, ho, ho', hb, hI, hE⟩ := hrel
    rcases Nat.eq_zero_or_pos j with h0 | h0
    · subst h0
      have hf := hI.eqn
      rw [Nat.pow_zero, Nat.mul_one] at hf
      rw [hf] at ho'
      clear hI hf ho
      go_wp2
      go_ret
      exact ⟨_, rfl, ho', hE⟩
    · obtain ⟨i, hi⟩ : ∃ i, i = j / 2 := ⟨_, rfl⟩
      rcases Nat.mod_two_eq_zero_or_one j with hpar | hpar
      · obtain hji : j = 2 * i := by omega
        have e1 : bits .and .i64 (j : Int) 1 = 0 := by rw [i64_and1]; omega
        have e4 : i < j := by omega
        have e2 : (j : Int) / 2 = i := by omega
        have e3 : (1 : Int) < (j : Int) := by omega
        rw [hji] at hI
        have hI' := Lib.hid (hI.half (show 0 < i by omega) (HK.out ()))
        have CM := Lib.hid (mul_any hb hb hI.base hI.base)
        clear hI hi hpar hji
        go_wp2_with fail
        refine CM.out.mono ?_
        rintro e w2 ⟨r2, rfl, hr2, hx2⟩
        replace ho := ho.ext hx2
        replace ho' := ho'.ext hx2
        clear CM
        go_wp2
        go_roundw
        case rel => exact ⟨i, out, base * base, rfl, by omega, ho, ho', hr2.is, hI'.out, hE.trans hx2⟩
        case measure => simp [intOf]; omega
      · obtain hji : j = 2 * i + 1 := by omega
        rw [hji] at hI
        have e1 : bits .and .i64 (j : Int) 1 = 1 := by rw [i64_and1]; omega
        have e4 : i < j := by omega
        have e2 : (j : Int) / 2 = i := by omega
        obtain ⟨hI1, hbig⟩ := hI.odd (HK.out ())
        have CM := Lib.hid (mul_any ho hb hI.out hI.base)
        rcases Nat.eq_zero_or_pos i with hi0 | hi0
        · have e3 : ¬ ((1 : Int) < (j : Int)) := by omega
          subst hi0
          have hI' := Lib.hid hI1
          clear hI hi hpar hI1 hbig hji
          go_wp2_with fail
          refine CM.out.mono ?_
          rintro e w2 ⟨r2, rfl, hr2, hx2⟩
          replace hb := hb.ext hx2
          clear CM
          go_wp2
          go_roundw
          case rel => exact ⟨0, out * base, base, rfl, by omega, hr2.is, hr2, hb, hI'.out, hE.trans hx2⟩
          case measure => simp [intOf]; omega
        · have e3 : (1 : Int) < (j : Int) := by omega
          have hI' := Lib.hid (hI1.half hi0 (HK.out ()))
          have CB := Lib.hid (fun W (hW : Ext wr W) => mul_any (hb.ext hW) (hb.ext hW) hI.base hI.base)
          clear hI hi hpar hI1 hbig hji
          go_wp2_with fail
          refine CM.out.mono ?_
          rintro e w2 ⟨r2, rfl, hr2, hx2⟩
          clear CM
          go_wp2_with fail
          refine (CB.out _ ?_).mono ?_
          exact hx2
          rintro e w3 ⟨r3, rfl, hr3, hx3⟩
          replace hr2 := hr2.ext hx3
          clear CB
          go_wp2
          go_roundw
          case rel => exact ⟨i, out * base, base * base, rfl, by omega, hr2.is, hr2, hr3.is, hI'.out, hE.trans (hx2.trans hx3)⟩
          case measure => simp [intOf]; omega

/-- What stands between the rounds of Root. -/
structure RootInv (a k out j q : Nat) : Prop where
  le : out ^ k ≤ a
  lt : a < (out + 2 ^ j) ^ k
  top : out + 2 ^ j ≤ 2 ^ q

theorem RootInv.start {a k q : Nat} (hk : 0 < k) (hq : wid a ≤ q * k) : RootInv a k 0 q q := by
  refine ⟨by rw [Nat.zero_pow hk]; exact Nat.zero_le _, ?_, by omega⟩
  rw [Nat.zero_add, ← Nat.pow_mul]
  exact Nat.lt_of_lt_of_le (lt_wid a) (Nat.pow_le_pow_right (by decide) hq)
theorem RootInv.yes {a k out j q : Nat} (h : RootInv a k out (j + 1) q) (hn : (out + 2 ^ j) ^ k ≤ a) : RootInv a k (out + 2 ^ j) j q := by
  have e : out + 2 ^ j + 2 ^ j = out + 2 ^ (j + 1) := by rw [Nat.pow_succ]; omega
  exact ⟨hn, by rw [e]; exact h.lt, by rw [e]; exact h.top⟩
theorem RootInv.no {a k out j q : Nat} (h : RootInv a k out (j + 1) q) (hn : a < (out + 2 ^ j) ^ k) : RootInv a k out j q := by
  have := h.top
  rw [Nat.pow_succ] at this
  exact ⟨h.le, hn, by omega⟩

theorem root_wide {n k a : Nat} (hn : n ≠ 0) (h : wid a ≤ (wid n - 1) * k) : a < n ^ k := by
  have h1 := Nat.pow_le_pow_left (wid_le hn) k
  rw [← Nat.pow_mul] at h1
  have h2 := Nat.pow_le_pow_right (show 0 < 2 by decide) h
  have := lt_wid a
  omega

set_option maxHeartbeats 2000000 in
theorem root_any {w : World} {u : Value} {a k : Nat} (hu : IsNat w u a) (hk : 2 ≤ k) (hkw : k < wid a) (ha : wid a ≤ 4194304) :
    Calls Tryz.prog 95 #[u, .int .i64 k] w (Ans (fun r w' => ∃ r0, NatAt w' r r0 ∧ r0 ^ k ≤ a ∧ a < (r0 + 1) ^ k) w) := by
  have haB : a < BIG := Nat.lt_trans (lt_wid a) (Nat.pow_lt_pow_right (by decide) (by unfold bigE; omega))
  have ha0 : a ≠ 0 := by rintro rfl; rw [wid_zero] at hkw; omega
  have CZ := Lib.hid (zero_any hu)
  have CW := Lib.hid (fun W (hW : Ext w W) => width_any (hu.ext hW) haB)
  have ez : decide (a = 0) = false := decide_eq_false ha0
  obtain ⟨wa, hwa⟩ : ∃ wa, wid a = wa := ⟨_, rfl⟩
  rw [hwa] at hkw ha CW
  obtain ⟨q, hq⟩ : ∃ q, q = (wa + k - 1) / k := ⟨_, rfl⟩
  have hqk : q * k ≤ wa + k - 1 := by rw [hq]; exact Nat.div_mul_le_self _ _
  have hqw : wa ≤ q * k := by
    have h1 := Nat.lt_div_mul_add (a := wa + k - 1) (b := k) (by omega)
    rw [← hq] at h1; omega
  have hq2 : q ≤ wa := by
    have h1 : q * 2 ≤ q * k := Nat.mul_le_mul_left q hk
    omega
  have eq1 : ((wa : Int) + k - 1) / k = q := by
    rw [hq, show ((wa : Int) + k - 1) = ((wa + k - 1 : Nat) : Int) from by omega]; rfl
  have hI0 : RootInv a k 0 q q := RootInv.start (by omega) (by rw [hwa]; exact hqw)
  have HO := Lib.hid (of_any 0 (by unfold B64; decide))
  have HU := Lib.hid hu
  have HB := Lib.hid (fun (_ : Unit) => haB)
  have HWA := Lib.hid hwa
  have hk1 : ((k : Int) ≤ 1) = False := by simp; omega
  have hk2 : ((wa : Int) ≤ k) = False := by simp; omega
  have hkz : ((k : Int) == 0) = false := beq_eq_false_iff_ne.2 (by omega)
  clear haB hwa hqw hq
  go_enter Tryz.func95, Tryz.ntmps95
  go_wp2_with fail
  refine CZ.out.mono ?_
  rintro e w1 ⟨rfl, rfl⟩
  rw [ez]
  clear CZ ez
  go_wp2_with fail
  refine (CW.out _ (Ext.refl _)).mono ?_
  rintro e w1 ⟨rfl, rfl⟩
  go_wp2_with fail
  refine (HO.out _).mono ?_
  rintro e w1 ⟨r, rfl, hr, hx⟩
  clear HO
  go_wp2_with fail
  refine (CW.out _ hx).mono ?_
  rintro e w2 ⟨rfl, rfl⟩
  go_wp2_with fail
  have hk3 : k ≤ wa := by omega
  clear hkw hk1 hk2 hkz eq1
  go_loopw [5, 6] (fun o ix wr => ∃ (out j : Nat), ix = .int .i64 ((j : Int) - 1) ∧ j ≤ q ∧ NatAt wr o out ∧ RootInv a k out j q ∧ Ext w wr) (fun _ ix _ => (intOf ix + 1).toNat)
  case atStart => exact ⟨0, q, rfl, Nat.le_refl _, hr, hI0, hx⟩
  case round =>
    clear hI0 hr hx
    obtain ⟨out, j, rfl, hj, ho, hI, hE⟩ := hrel
    rcases Nat.eq_zero_or_pos j with h0 | h0
    · subst h0
      have ek : (((0 : Nat) : Int) - 1) = -1 := by omega
      rw [ek]
      clear ek
      have h1 := hI.le
      have h2 := hI.lt
      rw [Nat.pow_zero] at h2
      have H1 := Lib.hid h1
      have H2 := Lib.hid h2
      clear hI h1 h2
      go_wp2
      go_ret
      exact ⟨_, rfl, ⟨out, ho, H1.out, H2.out⟩, hE⟩
    · obtain ⟨i, rfl⟩ : ∃ i, j = i + 1 := ⟨j - 1, by omega⟩
      have ej : ((i + 1 : Nat) : Int) - 1 = (i : Int) := by omega
      rw [ej]
      clear ej h0
      have hbig : 2 ^ q < BIG := Nat.pow_lt_pow_right (by decide) (by unfold bigE; omega)
      have htop := hI.top
      rw [Nat.pow_succ] at htop
      have hp0 := Nat.two_pow_pos i
      obtain ⟨nx, hnx⟩ : ∃ nx, out + 2 ^ i = nx := ⟨_, rfl⟩
      have hnq : nx ≤ 2 ^ q := by omega
      have hn0 : nx ≠ 0 := by omega
      have hnB : nx < BIG := by omega
      have hwn : wid nx ≤ q + 1 := wid_le_of (by rw [Nat.pow_succ]; omega)
      have hw0 := wid_pos hn0
      have CB := Lib.hid (fun W => bit_any i (by omega) W)
      have CA : Hid (∀ W v, Ext wr W → NatAt W v (2 ^ i) → Calls Tryz.prog 91 #[_, v] W (Ans (fun r w' => NatAt w' r nx) W)) := Lib.hid (fun W v hW hv => by
        have := add_any (ho.ext hW).is hv.is (by omega) (by omega)
        rwa [hnx] at this)
      have CWn : Hid (∀ W v, NatAt W v nx → Calls Tryz.prog 164 #[v] W fun e w' => e = .returned (.int .i64 (wid nx)) ∧ W = w') := Lib.hid (fun W v hv => width_any hv.is hnB)
      have HY : Hid (nx ^ k ≤ a → RootInv a k nx i q) := Lib.hid (fun h => by have := hI.yes (by rw [hnx]; exact h); rwa [hnx] at this)
      have HN : Hid (a < nx ^ k → RootInv a k out i q) := Lib.hid (fun h => hI.no (by rw [hnx]; exact h))
      have hmul : (wid nx - 1) * k ≤ wa + k := by
        have := Nat.mul_le_mul_right k (show wid nx - 1 ≤ q by omega)
        omega
      have HNW : Hid (wa ≤ (wid nx - 1) * k → a < nx ^ k) := Lib.hid (fun h => root_wide hn0 (by rw [HWA.out]; exact h))
      have CP : Hid ((wid nx - 1) * k < wa → ∀ W v, NatAt W v nx → Calls Tryz.prog 94 #[v, .int .i64 k] W (Ans (fun r w' => NatAt w' r (nx ^ k)) W)) := Lib.hid (fun h W v hv => by
        refine pow_any hv.is hnB ?_ (by omega)
        have h1 := Nat.pow_lt_pow_left (lt_wid nx) (show k ≠ 0 by omega)
        rw [← Nat.pow_mul] at h1
        have h2 : wid nx * k ≤ bigE := by
          have : (wid nx - 1) * k + k = wid nx * k := by
            obtain ⟨t, ht⟩ : ∃ t, wid nx = t + 1 := ⟨wid nx - 1, by omega⟩
            rw [ht, Nat.add_sub_cancel, Nat.succ_mul]
          unfold bigE; omega
        exact Nat.lt_of_lt_of_le h1 (Nat.pow_le_pow_right (by decide) h2))
      obtain ⟨wn, hwn2⟩ : ∃ wn, wid nx = wn + 1 := ⟨wid nx - 1, by omega⟩
      rw [hwn2] at CWn HNW CP hmul
      rw [Nat.add_sub_cancel] at HNW CP hmul
      obtain ⟨p, hp⟩ : ∃ p, wn * k = p := ⟨_, rfl⟩
      rw [hp] at HNW CP hmul
      have hpi : (((wn + 1 : Nat) : Int) - 1) * k = p := by
        rw [show ((wn + 1 : Nat) : Int) - 1 = (wn : Int) from by omega, ← hp]; push_cast; rfl
      have hpl : (p : Int) ≤ 8388608 := by omega
      have hwl : (((wn + 1 : Nat) : Int)) ≤ 4194305 := by omega
      obtain ⟨wN, hwN⟩ : ∃ wN : Int, ((wn + 1 : Nat) : Int) = wN := ⟨_, rfl⟩
      have hwN0 : 0 < wN := by omega
      rw [hwN] at CWn hpi hwl
      clear hbig htop hp0 hnx hnq hn0 hnB hwn hw0 hI hmul hwn2 hp hwN
      go_wp2_with fail
      refine (CB.out _).mono ?_
      rintro e w2 ⟨rb, rfl, hrb, hx2⟩
      clear CB
      go_wp2_with fail
      refine (CA.out _ _ hx2 hrb).mono ?_
      rintro e w3 ⟨rn, rfl, hrn, hx3⟩
      have hx23 := hx2.trans hx3
      have hE3 := hE.trans hx23
      replace ho := ho.ext hx23
      clear CA hrb
      go_wp2_with fail
      refine (CWn.out _ _ hrn).mono ?_
      rintro e w4 ⟨rfl, rfl⟩
      clear CWn
      go_wp2_with fail
      refine (CW.out _ hE3).mono ?_
      rintro e w4 ⟨rfl, rfl⟩
      rcases Nat.lt_or_ge p wa with hlt | hge
      · have CP2 := Lib.hid (CP.out hlt)
        have hcond : (p : Int) < wa := by omega
        clear CP HNW hlt
        go_wp2_with fail
        refine (CP2.out _ _ hrn).mono ?_
        rintro e w5 ⟨rp, rfl, hrp, hx5⟩
        have CC := Lib.hid (cmp_any hrp.is (HU.out.ext (hE3.trans hx5)))
        have hrn5 := hrn.ext hx5
        have ho5 := ho.ext hx5
        clear CP2 hrp hrn ho
        go_wp2_with fail
        refine CC.out.mono ?_
        rintro e w6 ⟨rfl, hx6⟩
        have hE6 := hE3.trans (hx5.trans hx6)
        clear CC
        rcases Nat.lt_or_ge a (nx ^ k) with hy | hy
        · have ec : cmpI (nx ^ k : Nat) a = 1 := cmpI_gt (by omega)
          rw [ec]
          have HI := Lib.hid (HN.out hy)
          replace ho5 := ho5.ext hx6
          clear ec hy HN HY
          go_wp2
          go_roundw
          case rel => exact ⟨out, i, by go_num, by omega, ho5, HI.out, hE6⟩
          case measure => simp [intOf]
        · have ec : cmpI (nx ^ k : Nat) a ≤ 0 := by
            unfold cmpI
            rw [if_neg (show ¬ ((a : Int) < (nx ^ k : Nat)) by omega)]
            split <;> omega
          obtain ⟨cm, hcm⟩ : ∃ cm, cmpI (nx ^ k : Nat) a = cm := ⟨_, rfl⟩
          rw [hcm] at ec ⊢
          have HI := Lib.hid (HY.out hy)
          replace hrn5 := hrn5.ext hx6
          clear hcm hy HN HY
          go_wp2
          go_roundw
          case rel => exact ⟨nx, i, by go_num, by omega, hrn5, HI.out, hE6⟩
          case measure => simp [intOf]
      · have hcond : (wa : Int) ≤ p := by omega
        have HI := Lib.hid (HN.out (HNW.out hge))
        clear CP HNW hge HN HY hrn
        go_wp2
        go_roundw
        case rel => exact ⟨out, i, by go_num, by omega, ho, HI.out, hE3⟩
        case measure => simp [intOf]
end Go.Proofs.YtdlcleecjeipnaaGreatDoor

/- Package num: making, signs, sums. -/
namespace Go.Proofs.YtdlcleecjeipnaaGreatDoor
open Go.RowKit Go.Proofs.YtdlcleecjeipnaaGreatDoorW.PrintWords Limbs
set_option linter.unusedVariables false

theorem IsNat.cases {w : World} {v : Value} {n : Nat} (h : IsNat w v n) : (v = .pointer none ∧ n = 0) ∨ (∃ g, v = .pointer (some ⟨g, 0, none⟩) ∧ NatAt w v n) := by
  rcases h with h | ⟨g, l, xs, h1, h2, h3, h4⟩
  · exact .inl h
  · exact .inr ⟨g, h1, .inr ⟨g, l, xs, h1, h2, h3, h4⟩, g, h1⟩

theorem IsNat.ptr {w : World} {v : Value} {n : Nat} (h : IsNat w v n) : ∃ p, v = .pointer p := by
  rcases h with ⟨h, -⟩ | ⟨g, l, xs, h1, -⟩
  · exact ⟨_, h⟩
  · exact ⟨_, h1⟩
theorem IsInt.ptr {w : World} {v : Value} {n : Int} (h : IsInt w v n) : ∃ p, v = .pointer p := by
  rcases h with ⟨h, -⟩ | ⟨g, b, u, m, h1, -⟩
  · exact ⟨_, h⟩
  · exact ⟨_, h1⟩

/-- An integer by its sign and its size. -/
def sg (b : Bool) (n : Nat) : Int := if b = true then -(n : Int) else n

theorem IntAt.made {w : World} {u : Value} {n : Nat} {b : Bool} (h : IsNat w u n) (hb : b = true → n ≠ 0) : IntAt (w.alloc (.cells #[.bool b, u] 198)) (.pointer (some ⟨w.heap.size, 0, none⟩)) (sg b n) :=
  ⟨w.heap.size, b, u, n, rfl, by simp, by simp, h.ext (Ext.alloc w _), rfl, hb⟩

theorem new_any {w : World} {u : Value} {n : Nat} {b : Bool} (hu : IsNat w u n) : Calls Tryz.prog 100 #[.bool b, u] w (Ans (fun r w' => IntAt w' r (sg b n)) w) := by
  have CZ := Lib.hid (zero_any hu)
  obtain ⟨p, rfl⟩ := hu.ptr
  cases b with
  | false =>
    have HM := Lib.hid (IntAt.made (b := false) hu (by simp))
    clear CZ hu
    go_enter Tryz.func100, Tryz.ntmps100
    go_wp2
    go_ret
    exact ⟨_, rfl, HM.out, Ext.alloc w _⟩
  | true =>
    rcases Nat.eq_zero_or_pos n with h0 | h0
    · subst h0
      have HM : Hid (IntAt (w.alloc (.cells #[.bool false, .pointer p] 198)) (.pointer (some ⟨w.heap.size, 0, none⟩)) (sg true 0)) := Lib.hid (by have := IntAt.made (b := false) hu (by simp); exact this)
      clear hu
      go_enter Tryz.func100, Tryz.ntmps100
      go_wp2_with fail
      refine CZ.out.mono ?_
      rintro e w1 ⟨rfl, rfl⟩
      go_wp2
      go_ret
      exact ⟨_, rfl, HM.out, Ext.alloc w _⟩
    · have ez : decide (n = 0) = false := decide_eq_false (by omega)
      have HM := Lib.hid (IntAt.made (b := true) hu (by intro _; omega))
      clear hu h0
      go_enter Tryz.func100, Tryz.ntmps100
      go_wp2_with fail
      refine CZ.out.mono ?_
      rintro e w1 ⟨rfl, rfl⟩
      rw [ez]
      clear ez
      go_wp2
      go_ret
      exact ⟨_, rfl, HM.out, Ext.alloc w _⟩

theorem IntAt.abs {w : World} {v : Value} {z : Int} (h : IntAt w v z) : ∃ g b u, v = .pointer (some ⟨g, 0, none⟩) ∧ w.cell? ⟨g, 0, none⟩ = some (.bool b) ∧ w.cell? ⟨g, 1, none⟩ = some u ∧ IsNat w u z.natAbs ∧ (b = decide (z < 0)) := by
  obtain ⟨g, b, u, n, h1, h2, h3, h4, h5, h6⟩ := h
  have : z.natAbs = n := by subst h5; split <;> omega
  refine ⟨g, b, u, h1, h2, h3, by rw [this]; exact h4, ?_⟩
  cases b with
  | false => simp at h5; subst h5; symm; exact decide_eq_false (by omega)
  | true => have := h6 rfl; simp at h5; subst h5; symm; exact decide_eq_true (by omega)

theorem abs_any {w : World} {v : Value} {z : Int} (h : IsInt w v z) : Calls Tryz.prog 99 #[v] w (Ans (fun r w' => IsNat w' r z.natAbs) w) := by
  have HO := Lib.hid (of_any 0 (by unfold B64; decide))
  rcases h with ⟨rfl, rfl⟩ | h
  · go_enter Tryz.func99, Tryz.ntmps99
    go_wp2_with fail
    refine (HO.out _).mono ?_
    rintro e w1 ⟨r, rfl, hr, hx⟩
    go_wp2
    go_ret
    exact ⟨r, rfl, hr.is, hx⟩
  · obtain ⟨g, b, u, rfl, h1, h2, h3, h4⟩ := h.abs
    rcases h3.cases with ⟨rfl, hn⟩ | ⟨gu, rfl, hn⟩
    · have HN := Lib.hid hn
      clear hn h4 h3 h
      go_enter Tryz.func99, Tryz.ntmps99
      go_wp2_with fail
      refine (HO.out _).mono ?_
      rintro e w1 ⟨r, rfl, hr, hx⟩
      go_wp2
      go_ret
      exact ⟨r, rfl, by rw [HN.out]; exact hr.is, hx⟩
    · have HN := Lib.hid h3
      clear hn h4 h3 h HO
      go_enter Tryz.func99, Tryz.ntmps99
      go_wp2
      go_ret
      exact ⟨_, rfl, HN.out, Ext.refl _⟩

/-- What Sign answers. -/
def sgn (z : Int) : Int := cmpI z 0
theorem sgn_neg {z : Int} (h : z < 0) : sgn z = -1 := cmpI_lt h
theorem sgn_zero : sgn 0 = 0 := cmpI_eq 0
theorem sgn_pos {z : Int} (h : 0 < z) : sgn z = 1 := cmpI_gt h
theorem sgn_lt (z : Int) : decide (sgn z < 0) = decide (z < 0) := by
  unfold sgn cmpI
  split
  · simp_all
  · split <;> simp <;> omega
theorem sgn_bd (z : Int) : -1 ≤ sgn z ∧ sgn z ≤ 1 := by
  unfold sgn cmpI
  split
  · omega
  · split <;> omega
theorem sgn_cases (z : Int) : (z < 0 ∧ sgn z = -1) ∨ (z = 0 ∧ sgn z = 0) ∨ (0 < z ∧ sgn z = 1) := by
  rcases Int.lt_trichotomy z 0 with h | h | h
  · exact .inl ⟨h, sgn_neg h⟩
  · subst h; exact .inr (.inl ⟨rfl, sgn_zero⟩)
  · exact .inr (.inr ⟨h, sgn_pos h⟩)

theorem sign_any {w : World} {v : Value} {z : Int} (h : IsInt w v z) : Calls Tryz.prog 97 #[v] w fun e w' => e = .returned (.int .i64 (sgn z)) ∧ Ext w w' := by
  have CA := Lib.hid (abs_any h)
  rcases h with ⟨rfl, rfl⟩ | h
  · rw [sgn_zero]
    go_enter Tryz.func97, Tryz.ntmps97
    go_wp2_with fail
    refine CA.out.mono ?_
    rintro e w1 ⟨r, rfl, hr, hx⟩
    have CZ := Lib.hid (zero_any hr)
    go_wp2_with fail
    refine CZ.out.mono ?_
    rintro e w2 ⟨rfl, rfl⟩
    go_wp2
    go_ret
    exact ⟨rfl, hx⟩
  · obtain ⟨g, b, u, rfl, h1, h2, h3, h4⟩ := h.abs
    rcases sgn_cases z with ⟨hz, es⟩ | ⟨hz, es⟩ | ⟨hz, es⟩
    · have eb : b = true := by rw [h4]; exact decide_eq_true hz
      subst eb
      rw [es]
      have ez : decide (z.natAbs = 0) = false := decide_eq_false (by omega)
      clear h4 es h3 h
      go_enter Tryz.func97, Tryz.ntmps97
      go_wp2_with fail
      refine CA.out.mono ?_
      rintro e w1 ⟨r, rfl, hr, hx⟩
      have CZ := Lib.hid (zero_any hr)
      have h1' := hx.cell h1
      go_wp2_with fail
      refine CZ.out.mono ?_
      rintro e w2 ⟨rfl, rfl⟩
      rw [ez]
      go_wp2
      go_ret
      exact ⟨rfl, hx⟩
    · rw [es]
      have ez : decide (z.natAbs = 0) = true := decide_eq_true (by omega)
      clear h4 es h3 h
      go_enter Tryz.func97, Tryz.ntmps97
      go_wp2_with fail
      refine CA.out.mono ?_
      rintro e w1 ⟨r, rfl, hr, hx⟩
      have CZ := Lib.hid (zero_any hr)
      go_wp2_with fail
      refine CZ.out.mono ?_
      rintro e w2 ⟨rfl, rfl⟩
      rw [ez]
      go_wp2
      go_ret
      exact ⟨rfl, hx⟩
    · have eb : b = false := by rw [h4]; exact decide_eq_false (by omega)
      subst eb
      rw [es]
      have ez : decide (z.natAbs = 0) = false := decide_eq_false (by omega)
      clear h4 es h3 h
      go_enter Tryz.func97, Tryz.ntmps97
      go_wp2_with fail
      refine CA.out.mono ?_
      rintro e w1 ⟨r, rfl, hr, hx⟩
      have CZ := Lib.hid (zero_any hr)
      have h1' := hx.cell h1
      go_wp2_with fail
      refine CZ.out.mono ?_
      rintro e w2 ⟨rfl, rfl⟩
      rw [ez]
      go_wp2
      go_ret
      exact ⟨rfl, hx⟩
end Go.Proofs.YtdlcleecjeipnaaGreatDoor

/- Package num: of a word, negative, sums, products, which is greater. -/
namespace Go.Proofs.YtdlcleecjeipnaaGreatDoor
open Go.RowKit Go.Proofs.YtdlcleecjeipnaaGreatDoorW.PrintWords Limbs
set_option linter.unusedVariables false

theorem sg_false (n : Nat) : sg false n = n := rfl
theorem sg_true (n : Nat) : sg true n = -(n : Int) := rfl
theorem sg_abs (z : Int) : sg (decide (z < 0)) z.natAbs = z := by
  rcases Int.lt_or_le z 0 with h | h
  · rw [decide_eq_true h, sg_true]; omega
  · rw [decide_eq_false (by omega), sg_false]; omega

theorem numof_any (z : Int) (h0 : -9223372036854775808 ≤ z) (h1 : z ≤ 9223372036854775807) (w : World) : Calls Tryz.prog 87 #[.int .i64 z] w (Ans (fun r w' => IntAt w' r z) w) := by
  have HO : Hid (∀ W, Calls Tryz.prog 85 #[.int .u64 (z.natAbs : Int)] W (Ans (fun r w' => NatAt w' r z.natAbs) W)) := Lib.hid (fun W => of_any z.natAbs (by unfold B64; omega) W)
  rcases Int.lt_or_le z 0 with hz | hz
  · obtain ⟨m, hm⟩ : ∃ m, IntKind.u64.wrap z = m := ⟨_, rfl⟩
    obtain ⟨k, hk⟩ : ∃ k : Int, (z.natAbs : Int) = k := ⟨_, rfl⟩
    have e2 : IntKind.u64.wrap (-m) = k := by
      rw [IntKind.wrap_u64] at hm
      rw [IntKind.wrap_u64]; omega
    rw [hk] at HO
    have ez : Hid (sg true z.natAbs = z) := Lib.hid (by rw [sg_true]; omega)
    clear h0 h1 hk
    go_enter Tryz.func87, Tryz.ntmps87
    go_wp2_with fail
    refine (HO.out _).mono ?_
    rintro e w1 ⟨r, rfl, hr, hx⟩
    have CN := Lib.hid (new_any (b := true) hr.is)
    go_wp2_with fail
    refine CN.out.mono ?_
    rintro e w2 ⟨r2, rfl, hr2, hx2⟩
    rw [ez.out] at hr2
    go_wp2
    go_ret
    exact ⟨r2, rfl, hr2, hx.trans hx2⟩
  · obtain ⟨k, hk⟩ : ∃ k : Int, (z.natAbs : Int) = k := ⟨_, rfl⟩
    have e2 : IntKind.u64.wrap z = k := by rw [IntKind.wrap_u64]; omega
    rw [hk] at HO
    have ez : Hid (sg false z.natAbs = z) := Lib.hid (by rw [sg_false]; omega)
    clear h0 h1 hk
    go_enter Tryz.func87, Tryz.ntmps87
    go_wp2_with fail
    refine (HO.out _).mono ?_
    rintro e w1 ⟨r, rfl, hr, hx⟩
    have CN := Lib.hid (new_any (b := false) hr.is)
    go_wp2_with fail
    refine CN.out.mono ?_
    rintro e w2 ⟨r2, rfl, hr2, hx2⟩
    rw [ez.out] at hr2
    go_wp2
    go_ret
    exact ⟨r2, rfl, hr2, hx.trans hx2⟩

theorem neg_any {w : World} {v : Value} {z : Int} (h : IsInt w v z) : Calls Tryz.prog 224 #[v] w (Ans (fun r w' => IntAt w' r (-z)) w) := by
  have CS := Lib.hid (sign_any h)
  have CA := Lib.hid (fun W (hW : Ext w W) => abs_any (h.ext hW))
  obtain ⟨s, hs⟩ : ∃ s, sgn z = s := ⟨_, rfl⟩
  obtain ⟨b, hb⟩ : ∃ b, decide (0 ≤ s) = b := ⟨_, rfl⟩
  have EZ : Hid (sg b z.natAbs = -z) := Lib.hid (by
    rcases sgn_cases z with ⟨h1, h2⟩ | ⟨h1, h2⟩ | ⟨h1, h2⟩ <;> rw [hs] at h2 <;> subst h2 <;> simp at hb <;> subst hb
    · rw [sg_false]; omega
    · rw [sg_true]; omega
    · rw [sg_true]; omega)
  rw [hs] at CS
  clear hs
  go_enter Tryz.func224, Tryz.ntmps224
  go_wp2_with fail
  refine CS.out.mono ?_
  rintro e w1 ⟨rfl, hx1⟩
  go_wp2_with fail
  refine (CA.out _ hx1).mono ?_
  rintro e w2 ⟨r, rfl, hr, hx2⟩
  have CN := Lib.hid (new_any (b := b) hr)
  go_wp2_with fail
  refine CN.out.mono ?_
  rintro e w3 ⟨r2, rfl, hr2, hx3⟩
  rw [EZ.out] at hr2
  go_wp2
  go_ret
  exact ⟨r2, rfl, hr2, hx1.trans (hx2.trans hx3)⟩

theorem times_any {w : World} {u v : Value} {a b : Int} (hu : IsInt w u a) (hv : IsInt w v b) (ha : a.natAbs < BIG) (hb : b.natAbs < BIG) : Calls Tryz.prog 101 #[u, v] w (Ans (fun r w' => IntAt w' r (a * b)) w) := by
  have CS := Lib.hid (sign_any hu)
  have CT := Lib.hid (fun W (hW : Ext w W) => sign_any (hv.ext hW))
  have CA := Lib.hid (fun W (hW : Ext w W) => abs_any (hu.ext hW))
  have CB := Lib.hid (fun W (hW : Ext w W) => abs_any (hv.ext hW))
  obtain ⟨s, hs⟩ : ∃ s, sgn a = s := ⟨_, rfl⟩
  obtain ⟨t, ht⟩ : ∃ t, sgn b = t := ⟨_, rfl⟩
  obtain ⟨p, hp⟩ : ∃ p, s * t = p := ⟨_, rfl⟩
  obtain ⟨c, hc⟩ : ∃ c, decide (p < 0) = c := ⟨_, rfl⟩
  have hsb := sgn_bd a
  have htb := sgn_bd b
  rw [hs] at hsb CS
  have CS' := CS
  rw [ht] at htb CT
  have hpb : -1 ≤ p ∧ p ≤ 1 := by
    have h1 : s = -1 ∨ s = 0 ∨ s = 1 := by omega
    rcases h1 with rfl | rfl | rfl <;> omega
  have EZ : Hid (sg c (a.natAbs * b.natAbs) = a * b) := Lib.hid (by
    have e1 : ((a.natAbs * b.natAbs : Nat) : Int) = (a.natAbs : Int) * b.natAbs := by push_cast; rfl
    subst hp hc
    unfold sg
    rw [e1]
    rcases sgn_cases a with ⟨h1, h2⟩ | ⟨h1, h2⟩ | ⟨h1, h2⟩ <;> rw [hs] at h2 <;> subst h2 <;>
    rcases sgn_cases b with ⟨h3, h4⟩ | ⟨h3, h4⟩ | ⟨h3, h4⟩ <;> rw [ht] at h4 <;> subst h4 <;> simp only [Int.reduceMul, Int.reduceLT, Int.reduceNeg, decide_true, decide_false, if_true, if_false, Bool.false_eq_true]
    · rw [show (a.natAbs : Int) = -a by omega, show (b.natAbs : Int) = -b by omega]; grind
    · subst h3; simp
    · rw [show (a.natAbs : Int) = -a by omega, show (b.natAbs : Int) = b by omega]; grind
    · subst h1; simp
    · subst h1; simp
    · subst h1; simp
    · rw [show (a.natAbs : Int) = a by omega, show (b.natAbs : Int) = -b by omega]; grind
    · subst h3; simp
    · rw [show (a.natAbs : Int) = a by omega, show (b.natAbs : Int) = b by omega])
  have CM := Lib.hid (fun W x y (h1 : IsNat W x a.natAbs) (h2 : IsNat W y b.natAbs) => mul_any h1 h2 ha hb)
  clear ha hb hs ht
  obtain ⟨s1, s2⟩ := hsb
  obtain ⟨t1, t2⟩ := htb
  obtain ⟨p1, p2⟩ := hpb
  go_enter Tryz.func101, Tryz.ntmps101
  go_wp2_with fail
  refine CS.out.mono ?_
  rintro e w1 ⟨rfl, hx1⟩
  go_wp2_with fail
  refine (CT.out _ hx1).mono ?_
  rintro e w2 ⟨rfl, hx2⟩
  replace hx2 := hx1.trans hx2
  go_wp2_with fail
  refine (CA.out _ hx2).mono ?_
  rintro e w3 ⟨ra, rfl, hra, hx3⟩
  go_wp2_with fail
  refine (CB.out _ (hx2.trans hx3)).mono ?_
  rintro e w4 ⟨rb, rfl, hrb, hx4⟩
  go_wp2_with fail
  refine (CM.out _ _ _ (hra.ext hx4) hrb).mono ?_
  rintro e w5 ⟨rm, rfl, hrm, hx5⟩
  have CN := Lib.hid (new_any (b := c) hrm.is)
  go_wp2_with fail
  refine CN.out.mono ?_
  rintro e w6 ⟨r2, rfl, hr2, hx6⟩
  rw [EZ.out] at hr2
  go_wp2
  go_ret
  exact ⟨r2, rfl, hr2, hx2.trans (hx3.trans (hx4.trans (hx5.trans hx6)))⟩
end Go.Proofs.YtdlcleecjeipnaaGreatDoor

/- Package num: sums, differences, which is greater. -/
namespace Go.Proofs.YtdlcleecjeipnaaGreatDoor
open Go.RowKit Go.Proofs.YtdlcleecjeipnaaGreatDoorW.PrintWords Limbs
set_option linter.unusedVariables false

set_option maxHeartbeats 1000000 in
theorem plus_any {w : World} {u v : Value} {a b : Int} (hu : IsInt w u a) (hv : IsInt w v b) (ha : a.natAbs < BIG) (hb : b.natAbs < BIG) : Calls Tryz.prog 145 #[u, v] w (Ans (fun r w' => IntAt w' r (a + b)) w) := by
  have CS := Lib.hid (sign_any hu)
  have CT := Lib.hid (fun W (hW : Ext w W) => sign_any (hv.ext hW))
  have CA := Lib.hid (fun W (hW : Ext w W) => abs_any (hu.ext hW))
  have CB := Lib.hid (fun W (hW : Ext w W) => abs_any (hv.ext hW))
  obtain ⟨c, hc⟩ : ∃ c, decide (a < 0) = c := ⟨_, rfl⟩
  obtain ⟨d, hd⟩ : ∃ d, decide (b < 0) = d := ⟨_, rfl⟩
  obtain ⟨s, hs⟩ : ∃ s, sgn a = s := ⟨_, rfl⟩
  obtain ⟨t, ht⟩ : ∃ t, sgn b = t := ⟨_, rfl⟩
  have ec : decide (s < 0) = c := by rw [← hs, sgn_lt]; exact hc
  have ed : decide (t < 0) = d := by rw [← ht, sgn_lt]; exact hd
  rw [hs] at CS
  rw [ht] at CT
  have CP := Lib.hid (fun W x y (h1 : IsNat W x a.natAbs) (h2 : IsNat W y b.natAbs) => add_any h1 h2 ha hb)
  have CC := Lib.hid (fun W x y (h1 : IsNat W x a.natAbs) (h2 : IsNat W y b.natAbs) => cmp_any h1 h2)
  have CX := Lib.hid (fun (h : a.natAbs ≤ b.natAbs) W x y (h1 : IsNat W x b.natAbs) (h2 : IsNat W y a.natAbs) => sub_yes h1 h2 h hb)
  have CY := Lib.hid (fun (h : b.natAbs ≤ a.natAbs) W x y (h1 : IsNat W x a.natAbs) (h2 : IsNat W y b.natAbs) => sub_yes h1 h2 h ha)
  have HA := Lib.hid (sg_abs a)
  have HB := Lib.hid (sg_abs b)
  rw [hc] at HA
  rw [hd] at HB
  clear ha hb hs ht
  by_cases hcd : c = d
  · subst hcd
    have ecd : (c == c) = true := beq_self_eq_true c
    have EZ : Hid (sg c (a.natAbs + b.natAbs) = a + b) := Lib.hid (by
      have h1 := HA.out
      have h2 := HB.out
      cases c
      · rw [sg_false] at *; omega
      · rw [sg_true] at *; omega)
    clear hc hd CC CX CY HA HB
    go_enter Tryz.func145, Tryz.ntmps145
    go_wp2_with fail
    refine CS.out.mono ?_
    rintro e w1 ⟨rfl, hx1⟩
    go_wp2_with fail
    refine (CT.out _ hx1).mono ?_
    rintro e w2 ⟨rfl, hx2⟩
    replace hx2 := hx1.trans hx2
    go_wp2_with fail
    refine (CA.out _ hx2).mono ?_
    rintro e w3 ⟨ra, rfl, hra, hx3⟩
    go_wp2_with fail
    refine (CB.out _ (hx2.trans hx3)).mono ?_
    rintro e w4 ⟨rb, rfl, hrb, hx4⟩
    go_wp2_with fail
    refine (CP.out _ _ _ (hra.ext hx4) hrb).mono ?_
    rintro e w5 ⟨rm, rfl, hrm, hx5⟩
    have CN := Lib.hid (new_any (b := c) hrm.is)
    go_wp2_with fail
    refine CN.out.mono ?_
    rintro e w6 ⟨r2, rfl, hr2, hx6⟩
    rw [EZ.out] at hr2
    go_wp2
    go_ret
    exact ⟨r2, rfl, hr2, hx2.trans (hx3.trans (hx4.trans (hx5.trans hx6)))⟩
  · have ecd : (c == d) = false := beq_eq_false_iff_ne.2 hcd
    have hdc : d = !c := by cases c <;> cases d <;> simp_all
    subst hdc
    rcases Nat.lt_or_ge a.natAbs b.natAbs with hlt | hge
    · have ek : cmpI (a.natAbs : Nat) (b.natAbs : Nat) = -1 := cmpI_lt (by omega)
      have CX' := Lib.hid (CX.out (by omega))
      have EZ : Hid (sg (!c) (b.natAbs - a.natAbs) = a + b) := Lib.hid (by
        have h1 := HA.out
        have h2 := HB.out
        cases c
        · simp only [Bool.not_false] at *; rw [sg_true] at *; rw [sg_false] at h1; omega
        · simp only [Bool.not_true] at *; rw [sg_false] at *; rw [sg_true] at h1; omega)
      clear hc hd CX CY HA HB CP hcd hlt
      go_enter Tryz.func145, Tryz.ntmps145
      go_wp2_with fail
      refine CS.out.mono ?_
      rintro e w1 ⟨rfl, hx1⟩
      go_wp2_with fail
      refine (CT.out _ hx1).mono ?_
      rintro e w2 ⟨rfl, hx2⟩
      replace hx2 := hx1.trans hx2
      go_wp2_with fail
      refine (CA.out _ hx2).mono ?_
      rintro e w3 ⟨ra, rfl, hra, hx3⟩
      go_wp2_with fail
      refine (CB.out _ (hx2.trans hx3)).mono ?_
      rintro e w4 ⟨rb, rfl, hrb, hx4⟩
      go_wp2_with fail
      refine (CC.out _ _ _ (hra.ext hx4) hrb).mono ?_
      rintro e w5 ⟨rfl, hx5⟩
      rw [ek]
      have hx5' := hx2.trans (hx3.trans (hx4.trans hx5))
      clear hx2 hx3 hx4 hx5 hra hrb CC ek
      go_wp2_with fail
      refine (CB.out _ hx5').mono ?_
      rintro e w6 ⟨rb, rfl, hrb, hx6⟩
      go_wp2_with fail
      refine (CA.out _ (hx5'.trans hx6)).mono ?_
      rintro e w7 ⟨ra, rfl, hra, hx7⟩
      go_wp2_with fail
      refine (CX'.out _ _ _ (hrb.ext hx7) hra).mono ?_
      rintro e w8 ⟨rm, er, rfl, ⟨hrm, rfl⟩, hx8⟩
      have CN := Lib.hid (new_any (b := !c) hrm.is)
      go_wp2_with fail
      refine CN.out.mono ?_
      rintro e w9 ⟨r2, rfl, hr2, hx9⟩
      rw [EZ.out] at hr2
      go_wp2
      go_ret
      exact ⟨r2, rfl, hr2, hx5'.trans (hx6.trans (hx7.trans (hx8.trans hx9)))⟩
    · have ek : 0 ≤ cmpI (a.natAbs : Nat) (b.natAbs : Nat) := cmpI_ge (by omega)
      obtain ⟨k, hk⟩ : ∃ k, cmpI (a.natAbs : Nat) (b.natAbs : Nat) = k := ⟨_, rfl⟩
      rw [hk] at ek CC
      have CY' := Lib.hid (CY.out (by omega))
      have EZ : Hid (sg c (a.natAbs - b.natAbs) = a + b) := Lib.hid (by
        have h1 := HA.out
        have h2 := HB.out
        cases c
        · simp only [Bool.not_false] at *; rw [sg_true] at h2; rw [sg_false] at *; omega
        · simp only [Bool.not_true] at *; rw [sg_false] at h2; rw [sg_true] at *; omega)
      clear hc hd CX CY HA HB CP hcd hge hk
      go_enter Tryz.func145, Tryz.ntmps145
      go_wp2_with fail
      refine CS.out.mono ?_
      rintro e w1 ⟨rfl, hx1⟩
      go_wp2_with fail
      refine (CT.out _ hx1).mono ?_
      rintro e w2 ⟨rfl, hx2⟩
      replace hx2 := hx1.trans hx2
      go_wp2_with fail
      refine (CA.out _ hx2).mono ?_
      rintro e w3 ⟨ra, rfl, hra, hx3⟩
      go_wp2_with fail
      refine (CB.out _ (hx2.trans hx3)).mono ?_
      rintro e w4 ⟨rb, rfl, hrb, hx4⟩
      go_wp2_with fail
      refine (CC.out _ _ _ (hra.ext hx4) hrb).mono ?_
      rintro e w5 ⟨rfl, hx5⟩
      have hx5' := hx2.trans (hx3.trans (hx4.trans hx5))
      clear hx2 hx3 hx4 hx5 hra hrb CC
      go_wp2_with fail
      refine (CA.out _ hx5').mono ?_
      rintro e w6 ⟨ra, rfl, hra, hx6⟩
      go_wp2_with fail
      refine (CB.out _ (hx5'.trans hx6)).mono ?_
      rintro e w7 ⟨rb, rfl, hrb, hx7⟩
      go_wp2_with fail
      refine (CY'.out _ _ _ (hra.ext hx7) hrb).mono ?_
      rintro e w8 ⟨rm, er, rfl, ⟨hrm, rfl⟩, hx8⟩
      have CN := Lib.hid (new_any (b := c) hrm.is)
      go_wp2_with fail
      refine CN.out.mono ?_
      rintro e w9 ⟨r2, rfl, hr2, hx9⟩
      rw [EZ.out] at hr2
      go_wp2
      go_ret
      exact ⟨r2, rfl, hr2, hx5'.trans (hx6.trans (hx7.trans (hx8.trans hx9)))⟩

theorem minus_any {w : World} {u v : Value} {a b : Int} (hu : IsInt w u a) (hv : IsInt w v b) (ha : a.natAbs < BIG) (hb : b.natAbs < BIG) : Calls Tryz.prog 181 #[u, v] w (Ans (fun r w' => IntAt w' r (a - b)) w) := by
  have CN := Lib.hid (neg_any hv)
  have CP := Lib.hid (fun W y (hW : Ext w W) (h2 : IntAt W y (-b)) => plus_any (hu.ext hW) h2.is ha (show (-b).natAbs < BIG by rw [Int.natAbs_neg]; exact hb))
  clear ha hb
  go_enter Tryz.func181, Tryz.ntmps181
  go_wp2_with fail
  refine CN.out.mono ?_
  rintro e w1 ⟨r, rfl, hr, hx1⟩
  go_wp2_with fail
  refine (CP.out _ _ hx1 hr).mono ?_
  rintro e w2 ⟨r2, rfl, hr2, hx2⟩
  go_wp2
  go_ret
  exact ⟨r2, rfl, by rw [Int.sub_eq_add_neg]; exact hr2, hx1.trans hx2⟩

theorem sgn_sub (a b : Int) : sgn (a - b) = cmpI a b := by
  unfold sgn cmpI
  rcases Int.lt_trichotomy a b with h | h | h
  · rw [if_pos (by omega), if_pos h]
  · subst h; simp
  · rw [if_neg (by omega), if_pos (by omega), if_neg (by omega), if_pos h]

theorem order_any {w : World} {u v : Value} {a b : Int} (hu : IsInt w u a) (hv : IsInt w v b) (ha : a.natAbs < BIG) (hb : b.natAbs < BIG) : Calls Tryz.prog 125 #[u, v] w fun e w' => e = .returned (.int .i64 (cmpI a b)) ∧ Ext w w' := by
  have CM := Lib.hid (minus_any hu hv ha hb)
  clear ha hb
  go_enter Tryz.func125, Tryz.ntmps125
  go_wp2_with fail
  refine CM.out.mono ?_
  rintro e w1 ⟨r, rfl, hr, hx1⟩
  have CS := Lib.hid (sign_any hr.is)
  rw [sgn_sub] at CS
  go_wp2_with fail
  refine CS.out.mono ?_
  rintro e w2 ⟨rfl, hx2⟩
  go_wp2
  go_ret
  exact ⟨rfl, hx1.trans hx2⟩
end Go.Proofs.YtdlcleecjeipnaaGreatDoor

/- Package num: quotients downward, by a divisor that is greater than nought. -/
namespace Go.Proofs.YtdlcleecjeipnaaGreatDoor
open Go.RowKit Go.Proofs.YtdlcleecjeipnaaGreatDoorW.PrintWords Limbs
set_option linter.unusedVariables false

theorem ediv_of {a b q r : Int} (h : a = q * b + r) (h0 : 0 ≤ r) (h1 : r < b) : a / b = q ∧ a % b = r := by
  have hb : 0 < b := by omega
  subst h
  constructor
  · rw [Int.add_comm, Int.add_mul_ediv_right _ _ (by omega), Int.ediv_eq_zero_of_lt h0 h1, Int.zero_add]
  · rw [Int.add_comm, Int.add_mul_emod_self_right, Int.emod_eq_of_lt h0 h1]

theorem natAbs_split (a b : Int) (hb : 0 < b) : (a.natAbs : Int) = ((a.natAbs / b.natAbs : Nat) : Int) * b + ((a.natAbs % b.natAbs : Nat) : Int) ∧ ((a.natAbs % b.natAbs : Nat) : Int) < b := by
  have h := Nat.div_add_mod a.natAbs b.natAbs
  have h2 := Nat.mod_lt a.natAbs (show 0 < b.natAbs by omega)
  have hb' : (b.natAbs : Int) = b := by omega
  constructor
  · have : ((b.natAbs * (a.natAbs / b.natAbs) + a.natAbs % b.natAbs : Nat) : Int) = (a.natAbs : Int) := congrArg _ h
    rw [Int.natCast_add, Int.natCast_mul, hb'] at this
    rw [← this]; grind
  · omega

/-- What Div answers, of a divisor above nought. -/
def NDivPost (a b : Int) (w : World) : Ending → World → Prop := Ans3 (fun q r e w' => IntAt w' q (a / b) ∧ IntAt w' r (a % b) ∧ e = .nilIface) w

set_option maxHeartbeats 1000000 in
theorem ndiv_any {w : World} {u v : Value} {a b : Int} (hu : IsInt w u a) (hv : IsInt w v b) (hb : 0 < b) (ha : a.natAbs < BIG) (hbB : b.natAbs < BIG) : Calls Tryz.prog 116 #[u, v] w (NDivPost a b w) := by
  have CA := Lib.hid (abs_any hu)
  have CB := Lib.hid (fun W (hW : Ext w W) => abs_any (hv.ext hW))
  have CS := Lib.hid (fun W (hW : Ext w W) => sign_any (hu.ext hW))
  have CT : Hid (∀ W, Ext w W → Calls Tryz.prog 97 #[v] W fun e w' => e = .returned (.int .i64 1) ∧ Ext W w') := Lib.hid (fun W hW => by have := sign_any (hv.ext hW); rwa [sgn_pos hb] at this)
  have CD := Lib.hid (fun W x y (h1 : IsNat W x a.natAbs) (h2 : IsNat W y b.natAbs) => div_any h1 h2 (show 0 < b.natAbs by omega) ha)
  have CO := Lib.hid (of_any 1 (by unfold B64; decide))
  obtain ⟨hs1, hs2⟩ := natAbs_split a b hb
  obtain ⟨q, hq⟩ : ∃ q, a.natAbs / b.natAbs = q := ⟨_, rfl⟩
  obtain ⟨m, hm⟩ : ∃ m, a.natAbs % b.natAbs = m := ⟨_, rfl⟩
  have hqB : q < BIG := by rw [← hq]; exact Nat.lt_of_le_of_lt (Nat.div_le_self _ _) ha
  have hmb : m < b.natAbs := by rw [← hm]; exact Nat.mod_lt _ (by omega)
  unfold DivPost at CD
  rw [hq, hm] at CD hs1
  rw [hm] at hs2
  have h1B : (1 : Nat) < BIG := lt_BIG_of 1 (by decide) (by decide)
  have CP := Lib.hid (fun W x y (h1 : IsNat W x q) (h2 : IsNat W y 1) => add_any h1 h2 hqB h1B)
  have CY := Lib.hid (fun W x y (h1 : IsNat W x b.natAbs) (h2 : IsNat W y m) => sub_yes h1 h2 (by omega) hbB)
  rcases Int.lt_or_le a 0 with hneg | hpos
  · have es : sgn a = -1 := sgn_neg hneg
    rw [es] at CS
    rcases Nat.eq_zero_or_pos m with h0 | h0
    · have ez : decide (m = 0) = true := decide_eq_true h0
      have E1 : Hid (sg true q = a / b) := Lib.hid (by
        rw [sg_true, (ediv_of (a := a) (b := b) (q := -(q : Int)) (r := 0) (by rw [h0] at hs1; rw [Int.neg_mul]; omega) (by omega) hb).1])
      have E2 : Hid (sg false m = a % b) := Lib.hid (by
        rw [sg_false, (ediv_of (a := a) (b := b) (q := -(q : Int)) (r := 0) (by rw [h0] at hs1; rw [Int.neg_mul]; omega) (by omega) hb).2, h0]; rfl)
      clear hb ha hbB hq hm hqB hmb h1B CP CY CO hs1 hs2 hneg es h0
      go_enter Tryz.func116, Tryz.ntmps116
      go_wp2_with fail
      refine CA.out.mono ?_
      rintro e w1 ⟨ra, rfl, hra, hx1⟩
      go_wp2_with fail
      refine (CB.out _ hx1).mono ?_
      rintro e w2 ⟨rb, rfl, hrb, hx2⟩
      go_wp2_with fail
      refine (CD.out _ _ _ (hra.ext hx2) hrb).mono ?_
      rintro e w3 ⟨rq, rm, re, rfl, ⟨hrq, hrm, rfl⟩, hx3⟩
      have hx4 := hx1.trans (hx2.trans hx3)
      clear hx1 hx2 hx3 hra hrb CD CA CB
      go_wp2_with fail
      refine (CS.out _ hx4).mono ?_
      rintro e w4 ⟨rfl, hx5⟩
      go_wp2_with fail
      refine (CT.out _ (hx4.trans hx5)).mono ?_
      rintro e w5 ⟨rfl, hx6⟩
      have hx7 := hx4.trans (hx5.trans hx6)
      replace hrq := hrq.ext (hx5.trans hx6)
      replace hrm := hrm.ext (hx5.trans hx6)
      have CZ := Lib.hid (zero_any hrm.is)
      clear hx4 hx5 hx6
      go_wp2_with fail
      refine CZ.out.mono ?_
      rintro e w6 ⟨rfl, rfl⟩
      rw [ez]
      have CN := Lib.hid (new_any (b := true) hrq.is)
      clear ez CZ
      go_wp2_with fail
      refine CN.out.mono ?_
      rintro e w7 ⟨r1, rfl, hr1, hx8⟩
      rw [E1.out] at hr1
      replace hrm := hrm.ext hx8
      go_wp2_with fail
      refine (CT.out _ (hx7.trans hx8)).mono ?_
      rintro e w8 ⟨rfl, hx9⟩
      replace hrm := hrm.ext hx9
      have CN2 := Lib.hid (new_any (b := false) hrm.is)
      go_wp2_with fail
      refine CN2.out.mono ?_
      rintro e w9 ⟨r2, rfl, hr2, hx10⟩
      rw [E2.out] at hr2
      go_wp2
      go_ret3
      exact ⟨_, _, _, rfl, ⟨(hr1.ext hx9).ext hx10, hr2, rfl⟩, hx7.trans (hx8.trans (hx9.trans hx10))⟩
    · have ez : decide (m = 0) = false := decide_eq_false (by omega)
      have hbn : (b.natAbs : Int) = b := by omega
      have hcs : ((b.natAbs - m : Nat) : Int) = b - m := by omega
      have E0 : a = -((q : Int) + 1) * b + (b - m) := by
        rw [Int.neg_mul, Int.add_mul]; omega
      have E1 : Hid (sg true (q + 1) = a / b) := Lib.hid (by
        rw [sg_true, (ediv_of E0 (by omega) (by omega)).1]; push_cast; rfl)
      have E2 : Hid (sg false (b.natAbs - m) = a % b) := Lib.hid (by
        rw [sg_false, (ediv_of E0 (by omega) (by omega)).2, hcs])
      clear hb ha hbB hq hm hqB hmb h1B hs1 hs2 hneg es h0 hbn hcs E0
      go_enter Tryz.func116, Tryz.ntmps116
      go_wp2_with fail
      refine CA.out.mono ?_
      rintro e w1 ⟨ra, rfl, hra, hx1⟩
      go_wp2_with fail
      refine (CB.out _ hx1).mono ?_
      rintro e w2 ⟨rb, rfl, hrb, hx2⟩
      go_wp2_with fail
      refine (CD.out _ _ _ (hra.ext hx2) hrb).mono ?_
      rintro e w3 ⟨rq, rm, re, rfl, ⟨hrq, hrm, rfl⟩, hx3⟩
      have hx4 := hx1.trans (hx2.trans hx3)
      clear hx1 hx2 hx3 hra hrb CD CA
      go_wp2_with fail
      refine (CS.out _ hx4).mono ?_
      rintro e w4 ⟨rfl, hx5⟩
      go_wp2_with fail
      refine (CT.out _ (hx4.trans hx5)).mono ?_
      rintro e w5 ⟨rfl, hx6⟩
      have hx7 := hx4.trans (hx5.trans hx6)
      replace hrq := hrq.ext (hx5.trans hx6)
      replace hrm := hrm.ext (hx5.trans hx6)
      have CZ := Lib.hid (zero_any hrm.is)
      clear hx4 hx5 hx6
      go_wp2_with fail
      refine CZ.out.mono ?_
      rintro e w6 ⟨rfl, rfl⟩
      rw [ez]
      clear ez CZ
      go_wp2_with fail
      refine (CO.out _).mono ?_
      rintro e w7 ⟨ro, rfl, hro, hx8⟩
      replace hrq := hrq.ext hx8
      go_wp2_with fail
      refine (CP.out _ _ _ hrq.is hro.is).mono ?_
      rintro e w8 ⟨rq2, rfl, hrq2, hx9⟩
      replace hrm := hrm.ext (hx8.trans hx9)
      have hx10 := hx7.trans (hx8.trans hx9)
      clear hrq hro CP CO hx7 hx8 hx9
      go_wp2_with fail
      refine (CB.out _ hx10).mono ?_
      rintro e w9 ⟨rb, rfl, hrb, hx11⟩
      go_wp2_with fail
      refine (CY.out _ _ _ hrb (hrm.ext hx11).is).mono ?_
      rintro e w10 ⟨rs, re, rfl, ⟨hrs, rfl⟩, hx12⟩
      replace hrq2 := hrq2.ext (hx11.trans hx12)
      have hx13 := hx10.trans (hx11.trans hx12)
      clear hrb hrm CY CB hx10 hx11 hx12
      have CN := Lib.hid (new_any (b := true) hrq2.is)
      go_wp2_with fail
      refine CN.out.mono ?_
      rintro e w11 ⟨r1, rfl, hr1, hx8⟩
      rw [E1.out] at hr1
      replace hrs := hrs.ext hx8
      go_wp2_with fail
      refine (CT.out _ (hx13.trans hx8)).mono ?_
      rintro e w12 ⟨rfl, hx9⟩
      replace hrs := hrs.ext hx9
      have CN2 := Lib.hid (new_any (b := false) hrs.is)
      go_wp2_with fail
      refine CN2.out.mono ?_
      rintro e w13 ⟨r2, rfl, hr2, hx10⟩
      rw [E2.out] at hr2
      go_wp2
      go_ret3
      exact ⟨_, _, _, rfl, ⟨(hr1.ext hx9).ext hx10, hr2, rfl⟩, hx13.trans (hx8.trans (hx9.trans hx10))⟩
  · obtain ⟨s, hs⟩ : ∃ s, sgn a = s := ⟨_, rfl⟩
    have hs0 : 0 ≤ s := by
      rcases sgn_cases a with ⟨h1, h2⟩ | ⟨h1, h2⟩ | ⟨h1, h2⟩ <;> omega
    have hs1' : s ≤ 1 := by have := (sgn_bd a).2; omega
    rw [hs] at CS
    have E0 : a = (q : Int) * b + m := by rw [← hs1]; omega
    have E1 : Hid (sg false q = a / b) := Lib.hid (by
      rw [sg_false, (ediv_of E0 (by omega) (by omega)).1])
    have E2 : Hid (sg false m = a % b) := Lib.hid (by
      rw [sg_false, (ediv_of E0 (by omega) (by omega)).2])
    clear hb ha hbB hq hm hqB hmb h1B hs1 hs2 hpos hs E0 CP CY CO
    go_enter Tryz.func116, Tryz.ntmps116
    go_wp2_with fail
    refine CA.out.mono ?_
    rintro e w1 ⟨ra, rfl, hra, hx1⟩
    go_wp2_with fail
    refine (CB.out _ hx1).mono ?_
    rintro e w2 ⟨rb, rfl, hrb, hx2⟩
    go_wp2_with fail
    refine (CD.out _ _ _ (hra.ext hx2) hrb).mono ?_
    rintro e w3 ⟨rq, rm, re, rfl, ⟨hrq, hrm, rfl⟩, hx3⟩
    have hx4 := hx1.trans (hx2.trans hx3)
    clear hx1 hx2 hx3 hra hrb CD CA CB
    go_wp2_with fail
    refine (CS.out _ hx4).mono ?_
    rintro e w4 ⟨rfl, hx5⟩
    go_wp2_with fail
    refine (CT.out _ (hx4.trans hx5)).mono ?_
    rintro e w5 ⟨rfl, hx6⟩
    have hx7 := hx4.trans (hx5.trans hx6)
    replace hrq := hrq.ext (hx5.trans hx6)
    replace hrm := hrm.ext (hx5.trans hx6)
    clear hx4 hx5 hx6
    have CN := Lib.hid (new_any (b := false) hrq.is)
    go_wp2_with fail
    refine CN.out.mono ?_
    rintro e w7 ⟨r1, rfl, hr1, hx8⟩
    rw [E1.out] at hr1
    replace hrm := hrm.ext hx8
    go_wp2_with fail
    refine (CT.out _ (hx7.trans hx8)).mono ?_
    rintro e w8 ⟨rfl, hx9⟩
    replace hrm := hrm.ext hx9
    have CN2 := Lib.hid (new_any (b := false) hrm.is)
    go_wp2_with fail
    refine CN2.out.mono ?_
    rintro e w9 ⟨r2, rfl, hr2, hx10⟩
    rw [E2.out] at hr2
    go_wp2
    go_ret3
    exact ⟨_, _, _, rfl, ⟨(hr1.ext hx9).ext hx10, hr2, rfl⟩, hx7.trans (hx8.trans (hx9.trans hx10))⟩
end Go.Proofs.YtdlcleecjeipnaaGreatDoor

/- Package rat: the two parts, making. -/
namespace Go.Proofs.YtdlcleecjeipnaaGreatDoor
open Go.RowKit Go.Proofs.YtdlcleecjeipnaaGreatDoorW.PrintWords Limbs
set_option linter.unusedVariables false

theorem num_any {w : World} {v : Value} {n : Int} {d : Nat} (h : IsRat w v n d) : Calls Tryz.prog 47 #[v] w (Ans (fun r w' => IntAt w' r n) w) := by
  have HO := Lib.hid (numof_any 0 (by decide) (by decide))
  rcases h with ⟨rfl, rfl, rfl⟩ | ⟨g, a, b, rfl, h1, h2, h3, h4, h5, h6⟩
  · go_enter Tryz.func47, Tryz.ntmps47
    go_wp2_with fail
    refine (HO.out _).mono ?_
    rintro e w1 ⟨r, rfl, hr, hx⟩
    go_wp2
    go_ret
    exact ⟨r, rfl, hr, hx⟩
  · rcases h3 with ⟨rfl, hn⟩ | hi
    · have HN := Lib.hid hn
      clear hn h4 h5 h6 h2
      go_enter Tryz.func47, Tryz.ntmps47
      go_wp2_with fail
      refine (HO.out _).mono ?_
      rintro e w1 ⟨r, rfl, hr, hx⟩
      go_wp2
      go_ret
      exact ⟨r, rfl, by rw [HN.out]; exact hr, hx⟩
    · have HI := Lib.hid hi
      obtain ⟨g2, b2, u2, n2, rfl, -⟩ := hi
      clear h4 h5 h6 h2 HO
      go_enter Tryz.func47, Tryz.ntmps47
      go_wp2
      go_ret
      exact ⟨_, rfl, HI.out, Ext.refl _⟩

theorem den_any {w : World} {v : Value} {n : Int} {d : Nat} (h : IsRat w v n d) : Calls Tryz.prog 49 #[v] w (Ans (fun r w' => IntAt w' r d) w) := by
  have HO := Lib.hid (numof_any 1 (by decide) (by decide))
  rcases h with ⟨rfl, rfl, rfl⟩ | ⟨g, a, b, rfl, h1, h2, h3, h4, h5, h6⟩
  · go_enter Tryz.func49, Tryz.ntmps49
    go_wp2_with fail
    refine (HO.out _).mono ?_
    rintro e w1 ⟨r, rfl, hr, hx⟩
    go_wp2
    go_ret
    exact ⟨r, rfl, hr, hx⟩
  · rcases h4 with ⟨rfl, hn⟩ | hi
    · have HN := Lib.hid hn
      clear hn h3 h5 h6 h1
      go_enter Tryz.func49, Tryz.ntmps49
      go_wp2_with fail
      refine (HO.out _).mono ?_
      rintro e w1 ⟨r, rfl, hr, hx⟩
      go_wp2
      go_ret
      exact ⟨r, rfl, by rw [HN.out]; exact hr, hx⟩
    · have HI := Lib.hid hi
      obtain ⟨g2, b2, u2, n2, rfl, -⟩ := hi
      clear h3 h5 h6 h1 HO
      go_enter Tryz.func49, Tryz.ntmps49
      go_wp2
      go_ret
      exact ⟨_, rfl, HI.out, Ext.refl _⟩

theorem rsign_any {w : World} {v : Value} {n : Int} {d : Nat} (h : IsRat w v n d) : Calls Tryz.prog 71 #[v] w fun e w' => e = .returned (.int .i64 (sgn n)) ∧ Ext w w' := by
  have CN := Lib.hid (num_any h)
  go_enter Tryz.func71, Tryz.ntmps71
  go_wp2_with fail
  refine CN.out.mono ?_
  rintro e w1 ⟨r, rfl, hr, hx1⟩
  have CS := Lib.hid (sign_any hr.is)
  go_wp2_with fail
  refine CS.out.mono ?_
  rintro e w2 ⟨rfl, hx2⟩
  go_wp2
  go_ret
  exact ⟨rfl, hx1.trans hx2⟩

theorem rcmp_any {w : World} {u v : Value} {n m : Int} {d e : Nat} (hu : IsRat w u n d) (hv : IsRat w v m e) (b1 : n.natAbs < BIG) (b2 : d < BIG) (b3 : m.natAbs < BIG) (b4 : e < BIG) (b5 : (n * e).natAbs < BIG) (b6 : (m * d).natAbs < BIG) :
    Calls Tryz.prog 46 #[u, v] w fun x w' => x = .returned (.int .i64 (cmpI (n * e) (m * d))) ∧ Ext w w' := by
  have C1 := Lib.hid (num_any hu)
  have C2 := Lib.hid (fun W (hW : Ext w W) => den_any (hv.ext hW))
  have C3 := Lib.hid (fun W (hW : Ext w W) => num_any (hv.ext hW))
  have C4 := Lib.hid (fun W (hW : Ext w W) => den_any (hu.ext hW))
  have M1 := Lib.hid (fun W x y (h1 : IntAt W x n) (h2 : IntAt W y (e : Int)) => times_any h1.is h2.is b1 (by simpa using b4))
  have M2 := Lib.hid (fun W x y (h1 : IntAt W x m) (h2 : IntAt W y (d : Int)) => times_any h1.is h2.is b3 (by simpa using b2))
  have CO := Lib.hid (fun W x y (h1 : IntAt W x (n * e)) (h2 : IntAt W y (m * d)) => order_any h1.is h2.is b5 b6)
  clear b1 b2 b3 b4 b5 b6
  go_enter Tryz.func46, Tryz.ntmps46
  go_wp2_with fail
  refine C1.out.mono ?_
  rintro x w1 ⟨r1, rfl, h1, hx1⟩
  go_wp2_with fail
  refine (C2.out _ hx1).mono ?_
  rintro x w2 ⟨r2, rfl, h2, hx2⟩
  go_wp2_with fail
  refine (M1.out _ _ _ (h1.ext hx2) h2).mono ?_
  rintro x w3 ⟨r3, rfl, h3, hx3⟩
  have hy := hx1.trans (hx2.trans hx3)
  clear h1 h2 hx1 hx2 hx3 C1 C2 M1
  go_wp2_with fail
  refine (C3.out _ hy).mono ?_
  rintro x w4 ⟨r4, rfl, h4, hx4⟩
  go_wp2_with fail
  refine (C4.out _ (hy.trans hx4)).mono ?_
  rintro x w5 ⟨r5, rfl, h5, hx5⟩
  go_wp2_with fail
  refine (M2.out _ _ _ (h4.ext hx5) h5).mono ?_
  rintro x w6 ⟨r6, rfl, h6, hx6⟩
  have hz := hx4.trans (hx5.trans hx6)
  go_wp2_with fail
  refine (CO.out _ _ _ (h3.ext hz) h6).mono ?_
  rintro x w7 ⟨rfl, hx7⟩
  go_wp2
  go_ret
  exact ⟨rfl, hy.trans (hz.trans hx7)⟩

theorem rnew_zero {w : World} {u v : Value} (hv : IsInt w v 0) : Calls Tryz.prog 96 #[u, v] w fun e w' => e = .returned (.tuple #[.pointer none, .iface 199 (.int .i64 3)]) ∧ Ext w w' := by
  have CS := Lib.hid (sign_any hv)
  rw [sgn_zero] at CS
  go_enter Tryz.func96, Tryz.ntmps96
  go_wp2_with fail
  refine CS.out.mono ?_
  rintro e w1 ⟨rfl, hx1⟩
  go_wp2_with (go_at_call 98; refine (fault_of 3 (by decide) _).mono ?_; rintro e w' ⟨rfl, rfl⟩)
  go_ret2
  exact ⟨rfl, hx1⟩

/-- What New answers: the fraction in lowest terms. -/
def RNewPost (n d : Int) (w : World) (e : Ending) (w' : World) : Prop :=
  ∃ (r : Value) (N : Int) (D : Nat), e = .returned (.tuple #[r, .nilIface]) ∧ RatAt w' r N D ∧ N * d = n * D ∧ N.natAbs ≤ n.natAbs ∧ D ≤ d.natAbs ∧ Ext w w'

theorem lowest {n d : Int} (hd : d ≠ 0) {c : Bool} (hc : decide (sgn n * sgn d < 0) = c) :
    sg c (n.natAbs / Nat.gcd n.natAbs d.natAbs) * d = n * ((d.natAbs / Nat.gcd n.natAbs d.natAbs : Nat) : Int) ∧ 0 < d.natAbs / Nat.gcd n.natAbs d.natAbs ∧
    Nat.gcd (sg c (n.natAbs / Nat.gcd n.natAbs d.natAbs)).natAbs (d.natAbs / Nat.gcd n.natAbs d.natAbs) = 1 := by
  have hg : 0 < Nat.gcd n.natAbs d.natAbs := Nat.gcd_pos_of_pos_right _ (by omega)
  obtain ⟨x, hx⟩ := Nat.gcd_dvd_left n.natAbs d.natAbs
  obtain ⟨y, hy⟩ := Nat.gcd_dvd_right n.natAbs d.natAbs
  have hcop := Nat.coprime_div_gcd_div_gcd hg
  generalize Nat.gcd n.natAbs d.natAbs = g at *
  have ex : n.natAbs / g = x := by rw [hx]; exact Nat.mul_div_cancel_left _ hg
  have ey : d.natAbs / g = y := by rw [hy]; exact Nat.mul_div_cancel_left _ hg
  have hcop' : Nat.gcd x y = 1 := by rw [← ex, ← ey]; exact hcop
  rw [ex, ey]
  clear ex ey hcop
  have hx' : (n.natAbs : Int) = g * x := by rw [hx]; push_cast; rfl
  have hy' : (d.natAbs : Int) = g * y := by rw [hy]; push_cast; rfl
  refine ⟨?_, ?_, ?_⟩
  · subst hc
    rcases sgn_cases n with ⟨h1, h2⟩ | ⟨h1, h2⟩ | ⟨h1, h2⟩ <;> rw [h2] <;>
    rcases sgn_cases d with ⟨h3, h4⟩ | ⟨h3, h4⟩ | ⟨h3, h4⟩ <;> rw [h4] <;> simp only [Int.reduceMul, Int.reduceLT, Int.reduceNeg, decide_true, decide_false, sg_true, sg_false]
    · have e1 : n = -(g * x : Int) := by omega
      have e2 : d = -(g * y : Int) := by omega
      rw [e1, e2]; grind
    · omega
    · have e1 : n = -(g * x : Int) := by omega
      have e2 : d = (g * y : Int) := by omega
      rw [e1, e2]; grind
    · have hx0 : x = 0 := by
        rcases Nat.eq_zero_or_pos x with h | h
        · exact h
        · have := Nat.mul_pos hg h; omega
      subst h1; rw [hx0]; simp
    · omega
    · have hx0 : x = 0 := by
        rcases Nat.eq_zero_or_pos x with h | h
        · exact h
        · have := Nat.mul_pos hg h; omega
      subst h1; rw [hx0]; simp
    · have e1 : n = (g * x : Int) := by omega
      have e2 : d = -(g * y : Int) := by omega
      rw [e1, e2]; grind
    · omega
    · have e1 : n = (g * x : Int) := by omega
      have e2 : d = (g * y : Int) := by omega
      rw [e1, e2]; grind
  · rcases Nat.eq_zero_or_pos y with h | h
    · rw [h, Nat.mul_zero] at hy; omega
    · exact h
  · have : (sg c x).natAbs = x := by unfold sg; split <;> omega
    rw [this]; exact hcop'

set_option maxHeartbeats 1000000 in
theorem rnew_any {w : World} {u v : Value} {n d : Int} (hu : IsInt w u n) (hv : IsInt w v d) (hd : d ≠ 0) (b1 : n.natAbs < BIG) (b2 : d.natAbs < BIG) (hB : Bits w) :
    Calls Tryz.prog 96 #[u, v] w (RNewPost n d w) := by
  have S0 := Lib.hid (sign_any hv)
  have S1 := Lib.hid (fun W (hW : Ext w W) => sign_any (hu.ext hW))
  have S2 := Lib.hid (fun W (hW : Ext w W) => sign_any (hv.ext hW))
  have A1 := Lib.hid (fun W (hW : Ext w W) => abs_any (hu.ext hW))
  have A2 := Lib.hid (fun W (hW : Ext w W) => abs_any (hv.ext hW))
  obtain ⟨s, hs⟩ : ∃ s, sgn n = s := ⟨_, rfl⟩
  obtain ⟨t, ht⟩ : ∃ t, sgn d = t := ⟨_, rfl⟩
  obtain ⟨p, hp⟩ : ∃ p, s * t = p := ⟨_, rfl⟩
  obtain ⟨c, hc⟩ : ∃ c, decide (p < 0) = c := ⟨_, rfl⟩
  have hlow := lowest hd (show decide (sgn n * sgn d < 0) = c by rw [hs, ht, hp, hc])
  have hg : 0 < Nat.gcd n.natAbs d.natAbs := Nat.gcd_pos_of_pos_right _ (by omega)
  have hgB : Nat.gcd n.natAbs d.natAbs ≤ d.natAbs := Nat.le_of_dvd (by omega) (Nat.gcd_dvd_right _ _)
  have CG := Lib.hid (fun W x y (h1 : IsNat W x n.natAbs) (h2 : IsNat W y d.natAbs) (hW : Ext w W) => gcd_any h1 h2 b1 b2 (hB.ext hW))
  obtain ⟨g, hgg⟩ : ∃ g, Nat.gcd n.natAbs d.natAbs = g := ⟨_, rfl⟩
  rw [hgg] at hlow hg CG hgB
  have D1 := Lib.hid (fun W x y (h1 : IsNat W x n.natAbs) (h2 : IsNat W y g) => div_any h1 h2 hg b1)
  have D2 := Lib.hid (fun W x y (h1 : IsNat W x d.natAbs) (h2 : IsNat W y g) => div_any h1 h2 hg b2)
  unfold DivPost at D1 D2
  have l1 : n.natAbs / g ≤ n.natAbs := Nat.div_le_self _ _
  have l2 : d.natAbs / g ≤ d.natAbs := Nat.div_le_self _ _
  obtain ⟨x, hx⟩ : ∃ x, n.natAbs / g = x := ⟨_, rfl⟩
  obtain ⟨y, hy⟩ : ∃ y, d.natAbs / g = y := ⟨_, rfl⟩
  rw [hx] at D1 hlow l1
  rw [hy] at D2 hlow l2
  have ht0 : (t == 0) = false := by
    rcases sgn_cases d with ⟨h1, h2⟩ | ⟨h1, h2⟩ | ⟨h1, h2⟩
    · rw [← ht, h2]; rfl
    · omega
    · rw [← ht, h2]; rfl
  obtain ⟨s1, s2⟩ := sgn_bd n
  obtain ⟨t1, t2⟩ := sgn_bd d
  rw [hs] at s1 s2 S1
  rw [ht] at t1 t2 S0 S2
  have hpb : -1 ≤ p ∧ p ≤ 1 := by
    have h1 : s = -1 ∨ s = 0 ∨ s = 1 := by omega
    rcases h1 with rfl | rfl | rfl <;> omega
  obtain ⟨p1, p2⟩ := hpb
  have HL := Lib.hid hlow
  have HX : Hid ((sg c x).natAbs ≤ n.natAbs) := Lib.hid (by have : (sg c x).natAbs = x := by unfold sg; split <;> omega
                                                            omega)
  have HY := Lib.hid l2
  clear b1 b2 hlow hg hgB hgg hx hy l1 l2 hs ht hd hB
  go_enter Tryz.func96, Tryz.ntmps96
  go_wp2_with fail
  refine S0.out.mono ?_
  rintro e w1 ⟨rfl, hx1⟩
  go_wp2_with fail
  refine (A1.out _ hx1).mono ?_
  rintro e w2 ⟨r2, rfl, h2, hx2⟩
  replace hx2 := hx1.trans hx2
  go_wp2_with fail
  refine (A2.out _ hx2).mono ?_
  rintro e w3 ⟨r3, rfl, h3, hx3⟩
  go_wp2_with fail
  refine (CG.out _ _ _ (h2.ext hx3) h3 (hx2.trans hx3)).mono ?_
  rintro e w4 ⟨rg, rfl, hg, hx4⟩
  have hy1 := hx2.trans (hx3.trans hx4)
  clear S0 hx1 hx2 hx3 hx4 h2 h3 CG ht0
  go_wp2_with fail
  refine (A1.out _ hy1).mono ?_
  rintro e w5 ⟨r5, rfl, h5, hx5⟩
  go_wp2_with fail
  refine (D1.out _ _ _ h5 (hg.ext hx5).is).mono ?_
  rintro e w6 ⟨q6, m6, e6, rfl, ⟨h6, -, rfl⟩, hx6⟩
  have hy2 := hx5.trans hx6
  go_wp2_with fail
  refine (A2.out _ (hy1.trans hy2)).mono ?_
  rintro e w7 ⟨r7, rfl, h7, hx7⟩
  go_wp2_with fail
  refine (D2.out _ _ _ h7 (hg.ext (hy2.trans hx7)).is).mono ?_
  rintro e w8 ⟨q8, m8, e8, rfl, ⟨h8, -, rfl⟩, hx8⟩
  have hy3 := hy1.trans (hy2.trans (hx7.trans hx8))
  replace h6 := h6.ext (hx7.trans hx8)
  clear hy1 hy2 hx5 hx6 hx7 hx8 h5 h7 hg A1 A2 D1 D2
  go_wp2_with fail
  refine (S1.out _ hy3).mono ?_
  rintro e w9 ⟨rfl, hx9⟩
  go_wp2_with fail
  refine (S2.out _ (hy3.trans hx9)).mono ?_
  rintro e w10 ⟨rfl, hx10⟩
  have CN := Lib.hid (new_any (b := c) (h6.ext (hx9.trans hx10)).is)
  go_wp2_with fail
  refine CN.out.mono ?_
  rintro e w11 ⟨r11, rfl, h11, hx11⟩
  have CM := Lib.hid (new_any (b := false) (h8.ext (hx9.trans (hx10.trans hx11))).is)
  go_wp2_with fail
  refine CM.out.mono ?_
  rintro e w12 ⟨r12, rfl, h12, hx12⟩
  rw [sg_false] at h12
  have hy4 := hy3.trans (hx9.trans (hx10.trans (hx11.trans hx12)))
  replace h11 := h11.ext hx12
  obtain ⟨p11, rfl⟩ := h11.is.ptr
  obtain ⟨p12, rfl⟩ := h12.is.ptr
  have HR : Hid (RatAt (w12.alloc (.cells #[.pointer p11, .pointer p12] 130)) (.pointer (some ⟨w12.heap.size, 0, none⟩)) (sg c x) y) := Lib.hid
    ⟨w12.heap.size, _, _, rfl, by simp, by simp, (h11.ext (Ext.alloc _ _)).is, .inr (h12.ext (Ext.alloc _ _)), HL.out.2.1, HL.out.2.2⟩
  clear CN CM h11 h12 h6 h8 hx9 hx10 hx11 hx12 S1 S2
  go_wp2
  go_ret2
  exact ⟨_, _, _, rfl, HR.out, HL.out.1, HX.out, HY.out, hy4.trans (Ext.alloc _ _)⟩
end Go.Proofs.YtdlcleecjeipnaaGreatDoor

/- rat.Of, Div. -/
namespace Go.Proofs.YtdlcleecjeipnaaGreatDoor
open Go.RowKit Go.Proofs.YtdlcleecjeipnaaGreatDoorW.PrintWords Limbs
set_option linter.unusedVariables false

theorem word_big {z : Int} (h0 : -9223372036854775808 ≤ z) (h1 : z ≤ 9223372036854775807) : z.natAbs < BIG := lt_BIG_of 64 (by decide) (by omega)

theorem RNewPost.from {n d : Int} {w w1 w' : World} {e : Ending} (h : RNewPost n d w1 e w') (he : Ext w w1) : RNewPost n d w e w' := by
  obtain ⟨r, N, D, h1, h2, h3, h4, h5, h6⟩ := h
  exact ⟨r, N, D, h1, h2, h3, h4, h5, he.trans h6⟩

theorem rof_any {w : World} {n d : Int} (n0 : -9223372036854775808 ≤ n) (n1 : n ≤ 9223372036854775807) (d0 : -9223372036854775808 ≤ d) (d1 : d ≤ 9223372036854775807) (hd : d ≠ 0) (hB : Bits w) :
    Calls Tryz.prog 24 #[.int .i64 n, .int .i64 d] w (RNewPost n d w) := by
  have C1 := Lib.hid (numof_any n n0 n1)
  have C2 := Lib.hid (numof_any d d0 d1)
  have CN := Lib.hid (fun W x y (h1 : IntAt W x n) (h2 : IntAt W y d) (hW : Ext w W) => rnew_any h1.is h2.is hd (word_big n0 n1) (word_big d0 d1) (hB.ext hW))
  clear n0 n1 d0 d1 hd hB
  go_enter Tryz.func24, Tryz.ntmps24
  go_wp2_with fail
  refine (C1.out _).mono ?_
  rintro e w1 ⟨r1, rfl, h1, hx1⟩
  go_wp2_with fail
  refine (C2.out _).mono ?_
  rintro e w2 ⟨r2, rfl, h2, hx2⟩
  go_wp2_with fail
  refine (CN.out _ _ _ (h1.ext hx2) h2 (hx1.trans hx2)).mono ?_
  rintro e w3 ⟨r, N, D, rfl, h3, h4, h5, h6, hx3⟩
  go_wp2
  go_ret2
  exact ⟨r, N, D, rfl, h3, h4, h5, h6, hx1.trans (hx2.trans hx3)⟩

theorem rof_zero {w : World} {n : Int} (n0 : -9223372036854775808 ≤ n) (n1 : n ≤ 9223372036854775807) :
    Calls Tryz.prog 24 #[.int .i64 n, .int .i64 0] w fun e w' => e = .returned (.tuple #[.pointer none, .iface 199 (.int .i64 3)]) ∧ Ext w w' := by
  have C1 := Lib.hid (numof_any n n0 n1)
  have C2 := Lib.hid (numof_any 0 (by decide) (by decide))
  have CN := Lib.hid (fun W x y (h2 : IntAt W y 0) => rnew_zero (w := W) (u := x) h2.is)
  clear n0 n1
  go_enter Tryz.func24, Tryz.ntmps24
  go_wp2_with fail
  refine (C1.out _).mono ?_
  rintro e w1 ⟨r1, rfl, h1, hx1⟩
  go_wp2_with fail
  refine (C2.out _).mono ?_
  rintro e w2 ⟨r2, rfl, h2, hx2⟩
  go_wp2_with fail
  refine (CN.out _ _ _ h2).mono ?_
  rintro e w3 ⟨rfl, hx3⟩
  go_wp2
  go_ret2
  exact ⟨rfl, hx1.trans (hx2.trans hx3)⟩

set_option maxHeartbeats 1000000 in
theorem rdiv_any {w : World} {u v : Value} {n m : Int} {d e : Nat} (hu : IsRat w u n d) (hv : IsRat w v m e) (b1 : n.natAbs < BIG) (b2 : d < BIG) (b3 : m.natAbs < BIG) (b4 : e < BIG) (b5 : (n * e).natAbs < BIG) (b6 : (d * m).natAbs < BIG) (hm : m ≠ 0) (hB : Bits w) :
    Calls Tryz.prog 26 #[u, v] w (RNewPost (n * e) (d * m) w) := by
  have hd0 : ((d : Int) * m) ≠ 0 := Int.mul_ne_zero (by have := hu.pos; omega) hm
  have C1 := Lib.hid (num_any hu)
  have C2 := Lib.hid (fun W (hW : Ext w W) => den_any (hv.ext hW))
  have C3 := Lib.hid (fun W (hW : Ext w W) => den_any (hu.ext hW))
  have C4 := Lib.hid (fun W (hW : Ext w W) => num_any (hv.ext hW))
  have M1 := Lib.hid (fun W x y (h1 : IntAt W x n) (h2 : IntAt W y (e : Int)) => times_any h1.is h2.is b1 (by simpa using b4))
  have M2 := Lib.hid (fun W x y (h1 : IntAt W x (d : Int)) (h2 : IntAt W y m) => times_any h1.is h2.is (by simpa using b2) b3)
  have CN := Lib.hid (fun W x y (h1 : IntAt W x (n * e)) (h2 : IntAt W y (d * m)) (hW : Ext w W) => rnew_any h1.is h2.is hd0 b5 b6 (hB.ext hW))
  clear b1 b2 b3 b4 b5 b6 hd0 hm hB
  go_enter Tryz.func26, Tryz.ntmps26
  go_wp2_with fail
  refine C1.out.mono ?_
  rintro x w1 ⟨r1, rfl, h1, hx1⟩
  go_wp2_with fail
  refine (C2.out _ hx1).mono ?_
  rintro x w2 ⟨r2, rfl, h2, hx2⟩
  go_wp2_with fail
  refine (M1.out _ _ _ (h1.ext hx2) h2).mono ?_
  rintro x w3 ⟨r3, rfl, h3, hx3⟩
  have hy := hx1.trans (hx2.trans hx3)
  clear h1 h2 hx1 hx2 hx3 C1 C2 M1
  go_wp2_with fail
  refine (C3.out _ hy).mono ?_
  rintro x w4 ⟨r4, rfl, h4, hx4⟩
  go_wp2_with fail
  refine (C4.out _ (hy.trans hx4)).mono ?_
  rintro x w5 ⟨r5, rfl, h5, hx5⟩
  go_wp2_with fail
  refine (M2.out _ _ _ (h4.ext hx5) h5).mono ?_
  rintro x w6 ⟨r6, rfl, h6, hx6⟩
  have hz := hx4.trans (hx5.trans hx6)
  go_wp2_with fail
  refine (CN.out _ _ _ (h3.ext hz) h6 (hy.trans hz)).mono ?_
  rintro x w7 ⟨r, N, D, rfl, g3, g4, g5, g6, hx7⟩
  go_wp2
  go_ret2
  exact ⟨r, N, D, rfl, g3, g4, g5, g6, hy.trans (hz.trans hx7)⟩
end Go.Proofs.YtdlcleecjeipnaaGreatDoor

/- rat.Pow of a fraction above nought, to a power that is not negative. -/
namespace Go.Proofs.YtdlcleecjeipnaaGreatDoor
open Go.RowKit Go.Proofs.YtdlcleecjeipnaaGreatDoorW.PrintWords Limbs
set_option linter.unusedVariables false

theorem u64_and1 (n : Nat) (h : n < 18446744073709551616) : bits .and .u64 (n : Int) 1 = ((n % 2 : Nat) : Int) := by
  have := bits_and_u64_nat n 1 h (by decide)
  rw [show ((1 : Nat) : Int) = 1 from rfl] at this
  rw [this, Nat.and_one_is_mod]

set_option maxHeartbeats 1000000 in
theorem rpow_pos {w : World} {v : Value} {m d k : Nat} (h : IsRat w v (m : Int) d) (hm : 0 < m) (hk : k ≤ 1000000) (b1 : m < BIG) (b2 : d < BIG) (b3 : m ^ k < BIG) (b4 : d ^ k < BIG) :
    Calls Tryz.prog 25 #[v, .int .i64 k] w (Ans2 (fun r e w' => RatAt w' r ((m ^ k : Nat) : Int) (d ^ k) ∧ e = .nilIface) w) := by
  have CN := Lib.hid (num_any h)
  have CD := Lib.hid (fun W (hW : Ext w W) => den_any (h.ext hW))
  have hd := h.pos
  have hcop := h.cop
  rw [Int.natAbs_natCast] at hcop
  have hcop2 : Nat.gcd (((m ^ k : Nat) : Int)).natAbs (d ^ k) = 1 := by rw [Int.natAbs_natCast]; exact Nat.Coprime.pow k k hcop
  have SN : Hid (∀ W x, IntAt W x (m : Int) → Calls Tryz.prog 97 #[x] W fun e w' => e = .returned (.int .i64 1) ∧ Ext W w') := Lib.hid (fun W x h1 => by have := sign_any h1.is; rwa [sgn_pos (by omega)] at this)
  have SD : Hid (∀ W x, IntAt W x (d : Int) → Calls Tryz.prog 97 #[x] W fun e w' => e = .returned (.int .i64 1) ∧ Ext W w') := Lib.hid (fun W x h1 => by have := sign_any h1.is; rwa [sgn_pos (by omega)] at this)
  have AN : Hid (∀ W x, IntAt W x (m : Int) → Calls Tryz.prog 99 #[x] W (Ans (fun r w' => IsNat w' r m) W)) := Lib.hid (fun W x h1 => by have := abs_any h1.is; rwa [Int.natAbs_natCast] at this)
  have AD : Hid (∀ W x, IntAt W x (d : Int) → Calls Tryz.prog 99 #[x] W (Ans (fun r w' => IsNat w' r d) W)) := Lib.hid (fun W x h1 => by have := abs_any h1.is; rwa [Int.natAbs_natCast] at this)
  have PN := Lib.hid (fun W x (h1 : IsNat W x m) => pow_any (k := k) h1 b1 b3 (by omega))
  have PD := Lib.hid (fun W x (h1 : IsNat W x d) => pow_any (k := k) h1 b2 b4 (by omega))
  have hdk : 0 < d ^ k := Nat.pow_pos hd
  have ek : IntKind.u64.wrap (k : Int) = k := by rw [IntKind.wrap_u64]; omega
  have ek2 : IntKind.i64.wrap (k : Int) = k := by rw [IntKind.wrap_i64]; omega
  have ea : bits .and .u64 (k : Int) 1 = ((k % 2 : Nat) : Int) := u64_and1 k (by omega)
  obtain ⟨par, hpar⟩ : ∃ par, k % 2 = par := ⟨_, rfl⟩
  have hp2 : par = 0 ∨ par = 1 := by omega
  rw [hpar] at ea
  have hkk : (k : Int) ≤ 1000000 := by omega
  obtain ⟨M, hM⟩ : ∃ M, m ^ k = M := ⟨_, rfl⟩
  obtain ⟨D, hD⟩ : ∃ D, d ^ k = D := ⟨_, rfl⟩
  rw [hM] at PN hcop2 ⊢
  rw [hD] at PD hcop2 hdk ⊢
  have HC := Lib.hid hcop2
  have HD := Lib.hid hdk
  clear b1 b2 b3 b4 hm hk hd hcop hcop2 hdk hM hD hpar
  rcases hp2 with rfl | rfl
  · go_enter Tryz.func25, Tryz.ntmps25
    go_wp2_with fail
    refine CN.out.mono ?_
    rintro e w1 ⟨r1, rfl, h1, hx1⟩
    go_wp2_with fail
    refine (CD.out _ hx1).mono ?_
    rintro e w2 ⟨r2, rfl, h2, hx2⟩
    replace h1 := h1.ext hx2
    go_wp2_with fail
    refine (SD.out _ _ h2).mono ?_
    rintro e w3 ⟨rfl, hx3⟩
    replace h1 := h1.ext hx3
    replace h2 := h2.ext hx3
    go_wp2_with fail
    refine (AN.out _ _ h1).mono ?_
    rintro e w4 ⟨r4, rfl, h4, hx4⟩
    go_wp2_with fail
    refine (PN.out _ _ h4).mono ?_
    rintro e w5 ⟨r5, rfl, h5, hx5⟩
    replace h2 := h2.ext (hx4.trans hx5)
    go_wp2_with fail
    refine (AD.out _ _ h2).mono ?_
    rintro e w6 ⟨r6, rfl, h6, hx6⟩
    go_wp2_with fail
    refine (PD.out _ _ h6).mono ?_
    rintro e w7 ⟨r7, rfl, h7, hx7⟩
    have hy := hx1.trans (hx2.trans (hx3.trans (hx4.trans (hx5.trans (hx6.trans hx7)))))
    have CN1 := Lib.hid (new_any (b := false) (h5.ext (hx6.trans hx7)).is)
    clear h1 h2 h4 h5 h6 hx1 hx2 hx3 hx4 hx5 hx6 hx7 CN CD SD AN PN AD PD
    go_wp2_with fail
    refine CN1.out.mono ?_
    rintro e w8 ⟨r8, rfl, h8, hx8⟩
    have CN2 := Lib.hid (new_any (b := false) (h7.ext hx8).is)
    go_wp2_with fail
    refine CN2.out.mono ?_
    rintro e w9 ⟨r9, rfl, h9, hx9⟩
    rw [sg_false] at h8 h9
    replace h8 := h8.ext hx9
    obtain ⟨p8, rfl⟩ := h8.is.ptr
    obtain ⟨p9, rfl⟩ := h9.is.ptr
    have HR : Hid (RatAt (w9.alloc (.cells #[.pointer p8, .pointer p9] 130)) (.pointer (some ⟨w9.heap.size, 0, none⟩)) (M : Int) D) := Lib.hid
      ⟨w9.heap.size, _, _, rfl, by simp, by simp, (h8.ext (Ext.alloc _ _)).is, .inr (h9.ext (Ext.alloc _ _)), HD.out, HC.out⟩
    have hz := hy.trans (hx8.trans hx9)
    clear CN1 CN2 h8 h9 h7 hy hx8 hx9
    go_wp2
    go_ret2
    exact ⟨_, _, rfl, ⟨HR.out, rfl⟩, hz.trans (Ext.alloc _ _)⟩
  · go_enter Tryz.func25, Tryz.ntmps25
    go_wp2_with fail
    refine CN.out.mono ?_
    rintro e w1 ⟨r1, rfl, h1, hx1⟩
    go_wp2_with fail
    refine (CD.out _ hx1).mono ?_
    rintro e w2 ⟨r2, rfl, h2, hx2⟩
    replace h1 := h1.ext hx2
    go_wp2_with fail
    refine (SD.out _ _ h2).mono ?_
    rintro e w3 ⟨rfl, hx3⟩
    replace h1 := h1.ext hx3
    replace h2 := h2.ext hx3
    go_wp2_with fail
    refine (AN.out _ _ h1).mono ?_
    rintro e w4 ⟨r4, rfl, h4, hx4⟩
    go_wp2_with fail
    refine (PN.out _ _ h4).mono ?_
    rintro e w5 ⟨r5, rfl, h5, hx5⟩
    replace h2 := h2.ext (hx4.trans hx5)
    replace h1 := h1.ext (hx4.trans hx5)
    go_wp2_with fail
    refine (AD.out _ _ h2).mono ?_
    rintro e w6 ⟨r6, rfl, h6, hx6⟩
    go_wp2_with fail
    refine (PD.out _ _ h6).mono ?_
    rintro e w7 ⟨r7, rfl, h7, hx7⟩
    have hy := hx1.trans (hx2.trans (hx3.trans (hx4.trans (hx5.trans (hx6.trans hx7)))))
    replace h1 := h1.ext (hx6.trans hx7)
    replace h2 := h2.ext (hx6.trans hx7)
    replace h5 := h5.ext (hx6.trans hx7)
    clear h4 h6 hx1 hx2 hx3 hx4 hx5 hx6 hx7 CN CD AN PN AD PD
    go_wp2_with fail
    refine (SN.out _ _ h1).mono ?_
    rintro e w8a ⟨rfl, hx8a⟩
    replace h2 := h2.ext hx8a
    go_wp2_with fail
    refine (SD.out _ _ h2).mono ?_
    rintro e w8b ⟨rfl, hx8b⟩
    replace hy := hy.trans (hx8a.trans hx8b)
    replace h7 := h7.ext (hx8a.trans hx8b)
    have CN1 := Lib.hid (new_any (b := false) (h5.ext (hx8a.trans hx8b)).is)
    clear h1 h2 h5 hx8a hx8b SN SD
    go_wp2_with fail
    refine CN1.out.mono ?_
    rintro e w8 ⟨r8, rfl, h8, hx8⟩
    have CN2 := Lib.hid (new_any (b := false) (h7.ext hx8).is)
    go_wp2_with fail
    refine CN2.out.mono ?_
    rintro e w9 ⟨r9, rfl, h9, hx9⟩
    rw [sg_false] at h8 h9
    replace h8 := h8.ext hx9
    obtain ⟨p8, rfl⟩ := h8.is.ptr
    obtain ⟨p9, rfl⟩ := h9.is.ptr
    have HR : Hid (RatAt (w9.alloc (.cells #[.pointer p8, .pointer p9] 130)) (.pointer (some ⟨w9.heap.size, 0, none⟩)) (M : Int) D) := Lib.hid
      ⟨w9.heap.size, _, _, rfl, by simp, by simp, (h8.ext (Ext.alloc _ _)).is, .inr (h9.ext (Ext.alloc _ _)), HD.out, HC.out⟩
    have hz := hy.trans (hx8.trans hx9)
    clear CN1 CN2 h8 h9 h7 hy hx8 hx9
    go_wp2
    go_ret2
    exact ⟨_, _, rfl, ⟨HR.out, rfl⟩, hz.trans (Ext.alloc _ _)⟩
end Go.Proofs.YtdlcleecjeipnaaGreatDoor

/- The shelf of library contracts at this dump, second part (written by the kit's tools, the rows that are used). -/
namespace Go.Proofs
open Go.Shelf
def Tryz.lays156_ren : Go.Shelf.Ren := ⟨fun | 156 => 163 | 165 => 208 | 166 => 209 | 169 => 211 | 240 => 245 | 241 => 246 | 276 => 266 | 277 => 267 | n => n, fun | 31 => 69 | 9 => 9 | 3 => 3 | 4 => 4 | 0 => 0 | 20 => 20 | 72 => 235 | 76 => 74 | 70 => 233 | 37 => 200 | 75 => 25 | 127 => 273 | 164 => 243 | 5 => 5 | 80 => 50 | n => n, fun | n => n⟩
theorem Tryz.lays156 : Go.Proofs.Lays.n156 Tryz.prog Tryz.lays156_ren := {
  mixed := by kernel_rfl
  f156 := Tryz.func163.trans (congrArg some (by kernel_rfl))
  f165 := Tryz.func208.trans (congrArg some (by kernel_rfl))
  f166 := Tryz.func209.trans (congrArg some (by kernel_rfl))
  f169 := Tryz.func211.trans (congrArg some (by kernel_rfl))
  f240 := Tryz.func245.trans (congrArg some (by kernel_rfl))
  f241 := Tryz.func246.trans (congrArg some (by kernel_rfl))
  f276 := Tryz.func266.trans (congrArg some (by kernel_rfl))
  f277 := Tryz.func267.trans (congrArg some (by kernel_rfl))
  t0 := Tryz.underlying0
  a0 := Tryz.isAgg0
  z0 := Tryz.sizeOf0
  v0 := Tryz.zeroValue0
  t3 := Tryz.underlying3
  a3 := Tryz.isAgg3
  z3 := Tryz.sizeOf3
  v3 := Tryz.zeroValue3
  t4 := Tryz.underlying4
  a4 := Tryz.isAgg4
  z4 := Tryz.sizeOf4
  v4 := Tryz.zeroValue4
  t9 := Tryz.underlying9
  a9 := Tryz.isAgg9
  z9 := Tryz.sizeOf9
  v9 := Tryz.zeroValue9
  t20 := Tryz.underlying20
  a20 := Tryz.isAgg20
  z20 := Tryz.sizeOf20
  v20 := Tryz.zeroValue20
  t31 := Tryz.underlying69
  a31 := Tryz.isAgg69
  z31 := Tryz.sizeOf69
  v31 := Tryz.zeroValue69
  t37 := Tryz.underlying200
  a37 := Tryz.isAgg200
  z37 := Tryz.sizeOf200
  v37 := Tryz.zeroValue200
  t70 := Tryz.underlying233
  a70 := Tryz.isAgg233
  z70 := Tryz.sizeOf233
  v70 := Tryz.zeroValue233
  t72 := Tryz.underlying235
  a72 := Tryz.isAgg235
  z72 := Tryz.sizeOf235
  v72 := Tryz.zeroValue235
  t75 := Tryz.underlying25
  a75 := Tryz.isAgg25
  z75 := Tryz.sizeOf25
  v75 := Tryz.zeroValue25
  t76 := Tryz.underlying74
  a76 := Tryz.isAgg74
  z76 := Tryz.sizeOf74
  v76 := Tryz.zeroValue74
  t127 := Tryz.underlying273
  a127 := Tryz.isAgg273
  z127 := Tryz.sizeOf273
  v127 := Tryz.zeroValue273
  t164 := Tryz.underlying243
  a164 := Tryz.isAgg243
  z164 := Tryz.sizeOf243
  v164 := Tryz.zeroValue243 }
theorem Tryz.Builder_Extra_156 : Builder.Extra Tryz.prog Tryz.lays156_ren := {
  sizeBuilder := by kernel_rfl
  liesBuilder := by kernel_rfl
  t5 := Tryz.underlying5
  a5 := Tryz.isAgg5
  z5 := Tryz.sizeOf5
  v5 := Tryz.zeroValue5
  infoByte := by kernel_rfl
  cellsByte := by kernel_rfl
  sizeByte := by kernel_rfl
  neB5 := by decide }
open Go.RowKit in
/-- No element: the empty string; the world is as it was. (Whatever the slice's address and capacity: a nil slice too.) (LAID: no walk: one application.) -/
theorem Tryz.strings_Join_none (a : Option Addr) (c : Nat) (sep : ByteArray) (w : World) :
    Calls Tryz.prog 163 #[.slice a 0 c, .string sep] w fun e w' => e = .returned (.string ⟨#[]⟩) ∧ w' = w := Any.strings_Join_none Tryz.lays156 Tryz.Builder_Extra_156 a c sep w
open Go.RowKit in
/-- strings.Join: "Join concatenates the elements of its first argument to create a single string. The separator string sep is placed between elements in the resulting string.": HOWEVER MANY ELEMENTS. Below the heap's end the world is as it was. (LAID: no walk: one application.) -/
theorem Tryz.strings_Join (bk o c : Nat) (xs : List ByteArray) (sep : ByteArray) (w : World) (hcells : ∀ (j : Nat) x, xs[j]? = some x → w.cell? ⟨bk, o + j, none⟩ = some (.string x)) (hbk : bk < w.heap.size) (hN : xs.length ≤ 140737488355328) (hcap : xs.length ≤ c) (hlen : (Lib.join (xs.map (·.data.toList)) sep.data.toList).length ≤ 140737488355328) :
    Calls Tryz.prog 163 #[.slice (some ⟨bk, o, none⟩) xs.length c, .string sep] w fun e w' => e = .returned (.string ⟨(Lib.join (xs.map (·.data.toList)) sep.data.toList).toArray⟩) ∧ Below w.heap.size w w' := Any.strings_Join Tryz.lays156 Tryz.Builder_Extra_156 bk o c xs sep w hcells hbk hN hcap hlen
def Tryz.lays161_ren : Go.Shelf.Ren := ⟨fun | 161 => 110 | 231 => 169 | 227 => 171 | 233 => 172 | 235 => 174 | 228 => 215 | 197 => 216 | 151 => 217 | 260 => 254 | 152 => 255 | 137 => 271 | 119 => 272 | 224 => 252 | 225 => 251 | 217 => 250 | 266 => 269 | n => n, fun | 9 => 9 | 4 => 4 | 3 => 3 | 5 => 5 | 117 => 204 | 116 => 203 | 0 => 0 | 124 => 207 | 105 => 240 | 21 => 21 | 119 => 307 | 46 => 137 | 139 => 310 | 138 => 309 | n => n, fun | 3 => 7 | 4 => 8 | n => n⟩
theorem Tryz.lays161 : Go.Proofs.Lays.n161 Tryz.prog Tryz.lays161_ren := {
  mixed := by kernel_rfl
  f119 := Tryz.func272.trans (congrArg some (by kernel_rfl))
  f137 := Tryz.func271.trans (congrArg some (by kernel_rfl))
  f151 := Tryz.func217.trans (congrArg some (by kernel_rfl))
  f152 := Tryz.func255.trans (congrArg some (by kernel_rfl))
  f161 := Tryz.func110.trans (congrArg some (by kernel_rfl))
  f197 := Tryz.func216.trans (congrArg some (by kernel_rfl))
  f217 := Tryz.func250.trans (congrArg some (by kernel_rfl))
  f224 := Tryz.func252.trans (congrArg some (by kernel_rfl))
  f225 := Tryz.func251.trans (congrArg some (by kernel_rfl))
  f227 := Tryz.func171.trans (congrArg some (by kernel_rfl))
  f228 := Tryz.func215.trans (congrArg some (by kernel_rfl))
  f231 := Tryz.func169.trans (congrArg some (by kernel_rfl))
  f233 := Tryz.func172.trans (congrArg some (by kernel_rfl))
  f235 := Tryz.func174.trans (congrArg some (by kernel_rfl))
  f260 := Tryz.func254.trans (congrArg some (by kernel_rfl))
  f266 := Tryz.func269.trans (congrArg some (by kernel_rfl))
  t0 := Tryz.underlying0
  a0 := Tryz.isAgg0
  z0 := Tryz.sizeOf0
  v0 := Tryz.zeroValue0
  t3 := Tryz.underlying3
  a3 := Tryz.isAgg3
  z3 := Tryz.sizeOf3
  v3 := Tryz.zeroValue3
  t4 := Tryz.underlying4
  a4 := Tryz.isAgg4
  z4 := Tryz.sizeOf4
  v4 := Tryz.zeroValue4
  t5 := Tryz.underlying5
  a5 := Tryz.isAgg5
  z5 := Tryz.sizeOf5
  v5 := Tryz.zeroValue5
  t9 := Tryz.underlying9
  a9 := Tryz.isAgg9
  z9 := Tryz.sizeOf9
  v9 := Tryz.zeroValue9
  t21 := Tryz.underlying21
  a21 := Tryz.isAgg21
  z21 := Tryz.sizeOf21
  v21 := Tryz.zeroValue21
  t46 := Tryz.underlying137
  a46 := Tryz.isAgg137
  z46 := Tryz.sizeOf137
  v46 := Tryz.zeroValue137
  t105 := Tryz.underlying240
  a105 := Tryz.isAgg240
  z105 := Tryz.sizeOf240
  v105 := Tryz.zeroValue240
  t116 := Tryz.underlying203
  a116 := Tryz.isAgg203
  z116 := Tryz.sizeOf203
  t117 := Tryz.underlying204
  a117 := Tryz.isAgg204
  z117 := Tryz.sizeOf204
  v117 := Tryz.zeroValue204
  t119 := Tryz.underlying307
  a119 := Tryz.isAgg307
  z119 := Tryz.sizeOf307
  t124 := Tryz.underlying207
  a124 := Tryz.isAgg207
  z124 := Tryz.sizeOf207
  v124 := Tryz.zeroValue207
  t138 := Tryz.underlying309
  a138 := Tryz.isAgg309
  z138 := Tryz.sizeOf309
  v138 := Tryz.zeroValue309
  t139 := Tryz.underlying310
  a139 := Tryz.isAgg310
  z139 := Tryz.sizeOf310
  v139 := Tryz.zeroValue310
  g3 := by kernel_rfl
  g4 := by kernel_rfl }
open Go.RowKit in
/-- strings.TrimLeft: "TrimLeft returns a slice of the string s with all leading Unicode code points contained in cutset removed.": AT A cutset OF ONE ASCII BYTE. The world is as it was. (LAID: no walk: one application.) -/
theorem Tryz.strings_TrimLeft_one (s : ByteArray) (c : UInt8) (hc : c.toNat < 128) (w : World) :
    Calls Tryz.prog 110 #[.string s, .string ⟨#[c]⟩] w fun e w' => e = .returned (.string ⟨(Lib.trimLeftB s.data.toList c).toArray⟩) ∧ w' = w := Any.strings_TrimLeft_one Tryz.lays161 s c hc w
def Tryz.lays160_ren : Go.Shelf.Ren := ⟨fun | 160 => 109 | 232 => 170 | 231 => 169 | 227 => 171 | 234 => 173 | 233 => 172 | 236 => 175 | 235 => 174 | 228 => 215 | 271 => 218 | 151 => 217 | 197 => 216 | 120 => 256 | 152 => 255 | 260 => 254 | 137 => 271 | 119 => 272 | 224 => 252 | 225 => 251 | 217 => 250 | 266 => 269 | n => n, fun | 9 => 9 | 4 => 4 | 3 => 3 | 5 => 5 | 117 => 204 | 116 => 203 | 0 => 0 | 124 => 207 | 21 => 21 | 105 => 240 | 46 => 137 | 119 => 307 | 139 => 310 | 138 => 309 | n => n, fun | 3 => 7 | 4 => 8 | n => n⟩
theorem Tryz.lays160 : Go.Proofs.Lays.n160 Tryz.prog Tryz.lays160_ren := {
  mixed := by kernel_rfl
  f119 := Tryz.func272.trans (congrArg some (by kernel_rfl))
  f120 := Tryz.func256.trans (congrArg some (by kernel_rfl))
  f137 := Tryz.func271.trans (congrArg some (by kernel_rfl))
  f151 := Tryz.func217.trans (congrArg some (by kernel_rfl))
  f152 := Tryz.func255.trans (congrArg some (by kernel_rfl))
  f160 := Tryz.func109.trans (congrArg some (by kernel_rfl))
  f197 := Tryz.func216.trans (congrArg some (by kernel_rfl))
  f217 := Tryz.func250.trans (congrArg some (by kernel_rfl))
  f224 := Tryz.func252.trans (congrArg some (by kernel_rfl))
  f225 := Tryz.func251.trans (congrArg some (by kernel_rfl))
  f227 := Tryz.func171.trans (congrArg some (by kernel_rfl))
  f228 := Tryz.func215.trans (congrArg some (by kernel_rfl))
  f231 := Tryz.func169.trans (congrArg some (by kernel_rfl))
  f232 := Tryz.func170.trans (congrArg some (by kernel_rfl))
  f233 := Tryz.func172.trans (congrArg some (by kernel_rfl))
  f234 := Tryz.func173.trans (congrArg some (by kernel_rfl))
  f235 := Tryz.func174.trans (congrArg some (by kernel_rfl))
  f236 := Tryz.func175.trans (congrArg some (by kernel_rfl))
  f260 := Tryz.func254.trans (congrArg some (by kernel_rfl))
  f266 := Tryz.func269.trans (congrArg some (by kernel_rfl))
  f271 := Tryz.func218.trans (congrArg some (by kernel_rfl))
  t0 := Tryz.underlying0
  a0 := Tryz.isAgg0
  z0 := Tryz.sizeOf0
  v0 := Tryz.zeroValue0
  t3 := Tryz.underlying3
  a3 := Tryz.isAgg3
  z3 := Tryz.sizeOf3
  v3 := Tryz.zeroValue3
  t4 := Tryz.underlying4
  a4 := Tryz.isAgg4
  z4 := Tryz.sizeOf4
  v4 := Tryz.zeroValue4
  t5 := Tryz.underlying5
  a5 := Tryz.isAgg5
  z5 := Tryz.sizeOf5
  v5 := Tryz.zeroValue5
  t9 := Tryz.underlying9
  a9 := Tryz.isAgg9
  z9 := Tryz.sizeOf9
  v9 := Tryz.zeroValue9
  t21 := Tryz.underlying21
  a21 := Tryz.isAgg21
  z21 := Tryz.sizeOf21
  v21 := Tryz.zeroValue21
  t46 := Tryz.underlying137
  a46 := Tryz.isAgg137
  z46 := Tryz.sizeOf137
  v46 := Tryz.zeroValue137
  t105 := Tryz.underlying240
  a105 := Tryz.isAgg240
  z105 := Tryz.sizeOf240
  v105 := Tryz.zeroValue240
  t116 := Tryz.underlying203
  a116 := Tryz.isAgg203
  z116 := Tryz.sizeOf203
  t117 := Tryz.underlying204
  a117 := Tryz.isAgg204
  z117 := Tryz.sizeOf204
  v117 := Tryz.zeroValue204
  t119 := Tryz.underlying307
  a119 := Tryz.isAgg307
  z119 := Tryz.sizeOf307
  t124 := Tryz.underlying207
  a124 := Tryz.isAgg207
  z124 := Tryz.sizeOf207
  v124 := Tryz.zeroValue207
  t138 := Tryz.underlying309
  a138 := Tryz.isAgg309
  z138 := Tryz.sizeOf309
  v138 := Tryz.zeroValue309
  t139 := Tryz.underlying310
  a139 := Tryz.isAgg310
  z139 := Tryz.sizeOf310
  v139 := Tryz.zeroValue310
  g3 := by kernel_rfl
  g4 := by kernel_rfl }
open Go.RowKit in
/-- strings.Trim: "Trim returns a slice of the string s with all leading and trailing Unicode code points contained in cutset removed.": AT A cutset OF ONE ASCII BYTE. THE WORLD BEHIND IT: as it was, or (where s is not empty) with ONE DRAW MORE off the tape: the statement 'return trimLeftByte(trimRightByte(s, c), c)' draws its order of evaluation. (LAID: no walk: one application.) -/
theorem Tryz.strings_Trim_one (s : ByteArray) (c : UInt8) (hc : c.toNat < 128) (w : World) (hs : s.size ≤ 9223372036854775807) :
    Calls Tryz.prog 109 #[.string s, .string ⟨#[c]⟩] w fun e w' => e = .returned (.string ⟨(Lib.trimB s.data.toList c).toArray⟩) ∧ (w' = w ∨ w' = w.drew) := Any.strings_Trim_one Tryz.lays160 s c hc w hs
def Tryz.lays210_ren : Go.Shelf.Ren := ⟨fun | 210 => 167 | 206 => 213 | n => n, fun | 9 => 9 | 4 => 4 | 3 => 3 | n => n, fun | n => n⟩
theorem Tryz.lays210 : Go.Proofs.Lays.n210 Tryz.prog Tryz.lays210_ren := {
  mixed := by kernel_rfl
  f206 := Tryz.func213.trans (congrArg some (by kernel_rfl))
  f210 := Tryz.func167.trans (congrArg some (by kernel_rfl))
  t3 := Tryz.underlying3
  a3 := Tryz.isAgg3
  z3 := Tryz.sizeOf3
  v3 := Tryz.zeroValue3
  t4 := Tryz.underlying4
  a4 := Tryz.isAgg4
  z4 := Tryz.sizeOf4
  v4 := Tryz.zeroValue4
  t9 := Tryz.underlying9
  a9 := Tryz.isAgg9
  z9 := Tryz.sizeOf9
  v9 := Tryz.zeroValue9 }
open Go.RowKit in
/-- internal/stringslite.CutPrefix (what strings.CutPrefix calls). (LAID: no walk: one application.) -/
theorem Tryz.stringslite_CutPrefix (s p : ByteArray) (w : World) :
    Calls Tryz.prog 167 #[.string s, .string p] w fun e w' => e = .returned (.tuple #[.string ⟨(Lib.trimPrefix s.data.toList p.data.toList).toArray⟩, .bool (Lib.hasPrefix s.data.toList p.data.toList)]) ∧ w' = w := Any.stringslite_CutPrefix Tryz.lays210 s p w
def Tryz.lays103_ren : Go.Shelf.Ren := ⟨fun | 103 => 107 | 210 => 167 | 206 => 213 | n => n, fun | 9 => 9 | 4 => 4 | 24 => 48 | 3 => 3 | n => n, fun | n => n⟩
theorem Tryz.lays103 : Go.Proofs.Lays.n103 Tryz.prog Tryz.lays103_ren := {
  mixed := by kernel_rfl
  f103 := Tryz.func107.trans (congrArg some (by kernel_rfl))
  f206 := Tryz.func213.trans (congrArg some (by kernel_rfl))
  f210 := Tryz.func167.trans (congrArg some (by kernel_rfl))
  t3 := Tryz.underlying3
  a3 := Tryz.isAgg3
  z3 := Tryz.sizeOf3
  v3 := Tryz.zeroValue3
  t4 := Tryz.underlying4
  a4 := Tryz.isAgg4
  z4 := Tryz.sizeOf4
  v4 := Tryz.zeroValue4
  t9 := Tryz.underlying9
  a9 := Tryz.isAgg9
  z9 := Tryz.sizeOf9
  v9 := Tryz.zeroValue9
  t24 := Tryz.underlying48
  a24 := Tryz.isAgg48
  z24 := Tryz.sizeOf48
  v24 := Tryz.zeroValue48 }
open Go.RowKit in
/-- strings.CutPrefix: "CutPrefix returns s without the provided leading prefix string and reports whether it found the prefix. If s doesn't start with prefix, CutPrefix returns s, false. If prefix is the empty string, CutPrefix returns s, true.": IT RETURNS '(Lib.trimPrefix s p, Lib.hasPrefix s p)'; the world is as it was. (LAID: no walk: one application.) -/
theorem Tryz.strings_CutPrefix (s p : ByteArray) (w : World) :
    Calls Tryz.prog 107 #[.string s, .string p] w fun e w' => e = .returned (.tuple #[.string ⟨(Lib.trimPrefix s.data.toList p.data.toList).toArray⟩, .bool (Lib.hasPrefix s.data.toList p.data.toList)]) ∧ w' = w := Any.strings_CutPrefix Tryz.lays103 s p w
def Tryz.laysM316_ren : Go.Shelf.Ren := ⟨fun | 316 => 260 | n => n, fun | 9 => 9 | 3 => 3 | 4 => 4 | 37 => 200 | 0 => 0 | 127 => 273 | 5 => 5 | n => n, fun | n => n⟩
theorem Tryz.laysM316 : Go.Proofs.LaysM.n316 Tryz.prog Tryz.laysM316_ren := {
  mixed := by kernel_rfl
  f316 := Tryz.func260.trans (congrArg some (by kernel_rfl))
  t0 := Tryz.underlying0
  a0 := Tryz.isAgg0
  z0 := Tryz.sizeOf0
  v0 := Tryz.zeroValue0
  t3 := Tryz.underlying3
  a3 := Tryz.isAgg3
  z3 := Tryz.sizeOf3
  v3 := Tryz.zeroValue3
  t4 := Tryz.underlying4
  a4 := Tryz.isAgg4
  z4 := Tryz.sizeOf4
  v4 := Tryz.zeroValue4
  t9 := Tryz.underlying9
  a9 := Tryz.isAgg9
  z9 := Tryz.sizeOf9
  v9 := Tryz.zeroValue9
  t37 := Tryz.underlying200
  a37 := Tryz.isAgg200
  z37 := Tryz.sizeOf200
  v37 := Tryz.zeroValue200
  t127 := Tryz.underlying273
  a127 := Tryz.isAgg273
  z127 := Tryz.sizeOf273
  v127 := Tryz.zeroValue273
  t5 := Tryz.underlying5
  a5 := Tryz.isAgg5
  z5 := Tryz.sizeOf5
  v5 := Tryz.zeroValue5
  i0 := by kernel_rfl
  i3 := by kernel_rfl
  i4 := by kernel_rfl
  i5 := by kernel_rfl
  i9 := by kernel_rfl
  i37 := by kernel_rfl
  i127 := by kernel_rfl }
open Go.RowKit in
/-- internal/stringslite.Clone (what strings.Clone calls): "Clone returns a fresh copy of s.": THE SAME BYTES. Of what was there nothing has turned (a new row is laid, and frozen, where s is not empty). (LAID: no walk: one application.) -/
theorem Tryz.stringslite_Clone (s : ByteArray) (w : World) (hlim : s.size ≤ 281474976710656) :
    Calls Tryz.prog 260 #[.string s] w fun e w' => e = .returned (.string s) ∧ Below w.heap.size w w' := Any.stringslite_Clone Tryz.laysM316 s w hlim
def Tryz.lays287_ren : Go.Shelf.Ren := ⟨fun | 287 => 193 | 321 => 234 | 322 => 235 | n => n, fun | 9 => 9 | 3 => 3 | 53 => 57 | 75 => 25 | 4 => 4 | 167 => 256 | 5 => 5 | 46 => 137 | 37 => 200 | 0 => 0 | 21 => 21 | 80 => 50 | n => n, fun | n => n⟩
theorem Tryz.lays287 : Go.Proofs.Lays.n287 Tryz.prog Tryz.lays287_ren := {
  mixed := by kernel_rfl
  f287 := Tryz.func193.trans (congrArg some (by kernel_rfl))
  f321 := Tryz.func234.trans (congrArg some (by kernel_rfl))
  f322 := Tryz.func235.trans (congrArg some (by kernel_rfl))
  t0 := Tryz.underlying0
  a0 := Tryz.isAgg0
  z0 := Tryz.sizeOf0
  v0 := Tryz.zeroValue0
  t3 := Tryz.underlying3
  a3 := Tryz.isAgg3
  z3 := Tryz.sizeOf3
  v3 := Tryz.zeroValue3
  t4 := Tryz.underlying4
  a4 := Tryz.isAgg4
  z4 := Tryz.sizeOf4
  v4 := Tryz.zeroValue4
  t5 := Tryz.underlying5
  a5 := Tryz.isAgg5
  z5 := Tryz.sizeOf5
  v5 := Tryz.zeroValue5
  t9 := Tryz.underlying9
  a9 := Tryz.isAgg9
  z9 := Tryz.sizeOf9
  v9 := Tryz.zeroValue9
  t21 := Tryz.underlying21
  a21 := Tryz.isAgg21
  z21 := Tryz.sizeOf21
  v21 := Tryz.zeroValue21
  t37 := Tryz.underlying200
  a37 := Tryz.isAgg200
  z37 := Tryz.sizeOf200
  v37 := Tryz.zeroValue200
  t46 := Tryz.underlying137
  a46 := Tryz.isAgg137
  z46 := Tryz.sizeOf137
  v46 := Tryz.zeroValue137
  t53 := Tryz.underlying57
  a53 := Tryz.isAgg57
  z53 := Tryz.sizeOf57
  v53 := Tryz.zeroValue57
  t75 := Tryz.underlying25
  a75 := Tryz.isAgg25
  z75 := Tryz.sizeOf25
  v75 := Tryz.zeroValue25
  t167 := Tryz.underlying256
  a167 := Tryz.isAgg256
  z167 := Tryz.sizeOf256
  v167 := Tryz.zeroValue256 }
open Go.RowKit in
/-- internal/strconv.ParseUint("", 10, 0): (0, ErrSyntax). The world is as it was. (LAID: no walk: one application.) -/
theorem Tryz.internal_strconv_ParseUint_10_empty (w : World) :
    Calls Tryz.prog 193 #[.string ⟨#[]⟩, .int .i64 10, .int .i64 0] w fun e w' => e = .returned (Lib.uintTuple 256 .syntax) ∧ w' = w := Any.internal_strconv_ParseUint_10_empty Tryz.lays287 w
def Tryz.laysPu14_ren : Go.Shelf.Ren := ⟨fun | 14 => 149 | 16 => 193 | 17 => 192 | 19 => 234 | 20 => 235 | 21 => 230 | 22 => 231 | 23 => 232 | 24 => 233 | 25 => 260 | 27 => 190 | 26 => 261 | 28 => 228 | 29 => 259 | 30 => 240 | 31 => 241 | 32 => 242 | 33 => 243 | 35 => 236 | 34 => 262 | 36 => 263 | 37 => 264 | 38 => 265 | 39 => 273 | 40 => 268 | n => n, fun | 9 => 9 | 3 => 3 | 22 => 57 | 24 => 25 | 25 => 177 | 4 => 4 | 34 => 256 | 5 => 5 | 36 => 137 | 37 => 200 | 0 => 0 | 39 => 258 | 21 => 21 | 44 => 294 | 47 => 273 | 50 => 314 | 48 => 312 | 2 => 2 | 52 => 266 | 55 => 268 | 59 => 301 | 60 => 270 | 20 => 20 | 61 => 302 | 65 => 317 | 66 => 316 | 67 => 50 | n => n, fun | 0 => 4 | 1 => 5 | 2 => 6 | 3 => 10 | 4 => 9 | n => n⟩
theorem Tryz.laysPu14 : Go.Proofs.LaysPu.n14 Tryz.prog Tryz.laysPu14_ren := {
  mixed := by kernel_rfl
  f14 := Tryz.func149.trans (congrArg some (by kernel_rfl))
  f16 := Tryz.func193.trans (congrArg some (by kernel_rfl))
  f17 := Tryz.func192.trans (congrArg some (by kernel_rfl))
  f19 := Tryz.func234.trans (congrArg some (by kernel_rfl))
  f20 := Tryz.func235.trans (congrArg some (by kernel_rfl))
  f21 := Tryz.func230.trans (congrArg some (by kernel_rfl))
  f22 := Tryz.func231.trans (congrArg some (by kernel_rfl))
  f23 := Tryz.func232.trans (congrArg some (by kernel_rfl))
  f24 := Tryz.func233.trans (congrArg some (by kernel_rfl))
  f25 := Tryz.func260.trans (congrArg some (by kernel_rfl))
  f26 := Tryz.func261.trans (congrArg some (by kernel_rfl))
  f27 := Tryz.func190.trans (congrArg some (by kernel_rfl))
  f28 := Tryz.func228.trans (congrArg some (by kernel_rfl))
  f29 := Tryz.func259.trans (congrArg some (by kernel_rfl))
  f30 := Tryz.func240.trans (congrArg some (by kernel_rfl))
  f31 := Tryz.func241.trans (congrArg some (by kernel_rfl))
  f32 := Tryz.func242.trans (congrArg some (by kernel_rfl))
  f33 := Tryz.func243.trans (congrArg some (by kernel_rfl))
  f34 := Tryz.func262.trans (congrArg some (by kernel_rfl))
  f35 := Tryz.func236.trans (congrArg some (by kernel_rfl))
  f36 := Tryz.func263.trans (congrArg some (by kernel_rfl))
  f37 := Tryz.func264.trans (congrArg some (by kernel_rfl))
  f38 := Tryz.func265.trans (congrArg some (by kernel_rfl))
  f39 := Tryz.func273.trans (congrArg some (by kernel_rfl))
  f40 := Tryz.func268.trans (congrArg some (by kernel_rfl))
  t0 := Tryz.underlying0
  a0 := Tryz.isAgg0
  z0 := Tryz.sizeOf0
  v0 := Tryz.zeroValue0
  i0 := by kernel_rfl
  t2 := Tryz.underlying2
  a2 := Tryz.isAgg2
  z2 := Tryz.sizeOf2
  v2 := Tryz.zeroValue2
  i2 := by kernel_rfl
  t3 := Tryz.underlying3
  a3 := Tryz.isAgg3
  z3 := Tryz.sizeOf3
  v3 := Tryz.zeroValue3
  i3 := by kernel_rfl
  t4 := Tryz.underlying4
  a4 := Tryz.isAgg4
  z4 := Tryz.sizeOf4
  v4 := Tryz.zeroValue4
  i4 := by kernel_rfl
  t5 := Tryz.underlying5
  a5 := Tryz.isAgg5
  z5 := Tryz.sizeOf5
  v5 := Tryz.zeroValue5
  i5 := by kernel_rfl
  t9 := Tryz.underlying9
  a9 := Tryz.isAgg9
  z9 := Tryz.sizeOf9
  v9 := Tryz.zeroValue9
  i9 := by kernel_rfl
  t20 := Tryz.underlying20
  a20 := Tryz.isAgg20
  z20 := Tryz.sizeOf20
  v20 := Tryz.zeroValue20
  i20 := by kernel_rfl
  t21 := Tryz.underlying21
  a21 := Tryz.isAgg21
  z21 := Tryz.sizeOf21
  v21 := Tryz.zeroValue21
  i21 := by kernel_rfl
  t22 := Tryz.underlying57
  a22 := Tryz.isAgg57
  z22 := Tryz.sizeOf57
  v22 := Tryz.zeroValue57
  i22 := by kernel_rfl
  t24 := Tryz.underlying25
  a24 := Tryz.isAgg25
  z24 := Tryz.sizeOf25
  v24 := Tryz.zeroValue25
  i24 := by kernel_rfl
  t25 := Tryz.underlying177
  a25 := Tryz.isAgg177
  z25 := Tryz.sizeOf177
  v25 := Tryz.zeroValue177
  i25 := by kernel_rfl
  t34 := Tryz.underlying256
  a34 := Tryz.isAgg256
  z34 := Tryz.sizeOf256
  v34 := Tryz.zeroValue256
  i34 := by kernel_rfl
  c34 := by kernel_rfl
  t36 := Tryz.underlying137
  a36 := Tryz.isAgg137
  z36 := Tryz.sizeOf137
  v36 := Tryz.zeroValue137
  i36 := by kernel_rfl
  t37 := Tryz.underlying200
  a37 := Tryz.isAgg200
  z37 := Tryz.sizeOf200
  v37 := Tryz.zeroValue200
  i37 := by kernel_rfl
  t39 := Tryz.underlying258
  a39 := Tryz.isAgg258
  z39 := Tryz.sizeOf258
  v39 := Tryz.zeroValue258
  i39 := by kernel_rfl
  t44 := Tryz.underlying294
  a44 := Tryz.isAgg294
  z44 := Tryz.sizeOf294
  v44 := Tryz.zeroValue294
  i44 := by kernel_rfl
  t47 := Tryz.underlying273
  a47 := Tryz.isAgg273
  z47 := Tryz.sizeOf273
  v47 := Tryz.zeroValue273
  i47 := by kernel_rfl
  t48 := Tryz.underlying312
  a48 := Tryz.isAgg312
  z48 := Tryz.sizeOf312
  v48 := Tryz.zeroValue312
  i48 := by kernel_rfl
  t50 := Tryz.underlying314
  a50 := Tryz.isAgg314
  z50 := Tryz.sizeOf314
  v50 := Tryz.zeroValue314
  i50 := by kernel_rfl
  t52 := Tryz.underlying266
  a52 := Tryz.isAgg266
  z52 := Tryz.sizeOf266
  v52 := Tryz.zeroValue266
  i52 := by kernel_rfl
  t55 := Tryz.underlying268
  a55 := Tryz.isAgg268
  z55 := Tryz.sizeOf268
  v55 := Tryz.zeroValue268
  i55 := by kernel_rfl
  t59 := Tryz.underlying301
  a59 := Tryz.isAgg301
  z59 := Tryz.sizeOf301
  v59 := Tryz.zeroValue301
  i59 := by kernel_rfl
  t60 := Tryz.underlying270
  a60 := Tryz.isAgg270
  z60 := Tryz.sizeOf270
  v60 := Tryz.zeroValue270
  i60 := by kernel_rfl
  t61 := Tryz.underlying302
  a61 := Tryz.isAgg302
  z61 := Tryz.sizeOf302
  t65 := Tryz.underlying317
  a65 := Tryz.isAgg317
  z65 := Tryz.sizeOf317
  v65 := Tryz.zeroValue317
  i65 := by kernel_rfl
  t66 := Tryz.underlying316
  a66 := Tryz.isAgg316
  z66 := Tryz.sizeOf316
  v66 := Tryz.zeroValue316
  i66 := by kernel_rfl
  t67 := Tryz.underlying50
  a67 := Tryz.isAgg50
  z67 := Tryz.sizeOf50
  v67 := Tryz.zeroValue50
  i67 := by kernel_rfl
  g0 := by kernel_rfl
  m0 := by kernel_rfl
  g1 := by kernel_rfl
  m1 := by kernel_rfl
  g2 := by kernel_rfl
  m2 := by kernel_rfl
  g3 := by kernel_rfl
  m3 := by kernel_rfl
  g4 := by kernel_rfl
  m4 := by kernel_rfl }
open Go.RowKit in
/-- strconv.ParseUint(s, 10, 64), AT EVERY STRING THAT SPELLS A uint64 ('Lib.parseUintB 64 s.data.toList = .ok u'): u, AND NO ERROR. (LAID: no walk: one application.) -/
theorem Tryz.strconv_ParseUint_10_at64_ok (s : ByteArray) (hmax : s.size ≤ 9223372036854775806) (u : Nat) (h : Lib.parseUintB 64 s.data.toList = .ok u) (w : World) :
    Calls Tryz.prog 149 #[.string s, .int .i64 10, .int .i64 64] w fun e w' => e = .returned (.tuple #[.int .u64 u, .nilIface]) ∧ (w' = w ∨ w' = Lib.bytesWorld w 5 s) := Any.strconv_ParseUint_10_at64_ok Tryz.laysPu14 s hmax u h w
def Tryz.lays206_ren : Go.Shelf.Ren := ⟨fun | 206 => 213 | n => n, fun | 9 => 9 | 4 => 4 | 3 => 3 | n => n, fun | n => n⟩
theorem Tryz.lays206 : Go.Proofs.Lays.n206 Tryz.prog Tryz.lays206_ren := {
  mixed := by kernel_rfl
  f206 := Tryz.func213.trans (congrArg some (by kernel_rfl))
  t3 := Tryz.underlying3
  a3 := Tryz.isAgg3
  z3 := Tryz.sizeOf3
  v3 := Tryz.zeroValue3
  t4 := Tryz.underlying4
  a4 := Tryz.isAgg4
  z4 := Tryz.sizeOf4
  v4 := Tryz.zeroValue4
  t9 := Tryz.underlying9
  a9 := Tryz.isAgg9
  z9 := Tryz.sizeOf9
  v9 := Tryz.zeroValue9 }
open Go.RowKit Go.Lib in
/-- internal/stringslite.HasPrefix (what strings.HasPrefix calls). (LAID: no walk: one application.) -/
theorem Tryz.stringslite_HasPrefix (s p : ByteArray) (w : World) :
    Calls Tryz.prog 213 #[.string s, .string p] w fun e w' => e = .returned (.bool (Lib.hasPrefix s.data.toList p.data.toList)) ∧ w' = w := Any.stringslite_HasPrefix Tryz.lays206 s p w
def Tryz.lays99_ren : Go.Shelf.Ren := ⟨fun | 99 => 207 | 206 => 213 | n => n, fun | 9 => 9 | 4 => 4 | 3 => 3 | n => n, fun | n => n⟩
theorem Tryz.lays99 : Go.Proofs.Lays.n99 Tryz.prog Tryz.lays99_ren := {
  mixed := by kernel_rfl
  f99 := Tryz.func207.trans (congrArg some (by kernel_rfl))
  f206 := Tryz.func213.trans (congrArg some (by kernel_rfl))
  t3 := Tryz.underlying3
  a3 := Tryz.isAgg3
  z3 := Tryz.sizeOf3
  v3 := Tryz.zeroValue3
  t4 := Tryz.underlying4
  a4 := Tryz.isAgg4
  z4 := Tryz.sizeOf4
  v4 := Tryz.zeroValue4
  t9 := Tryz.underlying9
  a9 := Tryz.isAgg9
  z9 := Tryz.sizeOf9
  v9 := Tryz.zeroValue9 }
open Go.RowKit Go.Lib in
/-- strings.HasPrefix: "HasPrefix reports whether the string s begins with prefix.": IT RETURNS 'Lib.hasPrefix s prefix'; the world is as it was. (LAID: no walk: one application.) -/
theorem Tryz.strings_HasPrefix (s p : ByteArray) (w : World) :
    Calls Tryz.prog 207 #[.string s, .string p] w fun e w' => e = .returned (.bool (Lib.hasPrefix s.data.toList p.data.toList)) ∧ w' = w := Any.strings_HasPrefix Tryz.lays99 s p w
def Tryz.lays105_ren : Go.Shelf.Ren := ⟨fun | 105 => 161 | 212 => 206 | 99 => 207 | 165 => 208 | 166 => 209 | 170 => 210 | 169 => 211 | 263 => 244 | 264 => 157 | 206 => 213 | 240 => 245 | 241 => 246 | 276 => 266 | 277 => 267 | n => n, fun | 9 => 9 | 3 => 3 | 4 => 4 | 20 => 20 | 0 => 0 | 46 => 137 | 109 => 230 | 5 => 5 | 72 => 235 | 76 => 74 | 51 => 270 | 146 => 271 | 53 => 57 | 148 => 188 | 70 => 233 | 37 => 200 | 75 => 25 | 127 => 273 | 164 => 243 | 80 => 50 | n => n, fun | n => n⟩
theorem Tryz.lays105 : Go.Proofs.Lays.n105 Tryz.prog Tryz.lays105_ren := {
  mixed := by kernel_rfl
  f99 := Tryz.func207.trans (congrArg some (by kernel_rfl))
  f105 := Tryz.func161.trans (congrArg some (by kernel_rfl))
  f165 := Tryz.func208.trans (congrArg some (by kernel_rfl))
  f166 := Tryz.func209.trans (congrArg some (by kernel_rfl))
  f169 := Tryz.func211.trans (congrArg some (by kernel_rfl))
  f170 := Tryz.func210.trans (congrArg some (by kernel_rfl))
  f206 := Tryz.func213.trans (congrArg some (by kernel_rfl))
  f212 := Tryz.func206.trans (congrArg some (by kernel_rfl))
  f240 := Tryz.func245.trans (congrArg some (by kernel_rfl))
  f241 := Tryz.func246.trans (congrArg some (by kernel_rfl))
  f263 := Tryz.func244.trans (congrArg some (by kernel_rfl))
  f264 := Tryz.func157.trans (congrArg some (by kernel_rfl))
  f276 := Tryz.func266.trans (congrArg some (by kernel_rfl))
  f277 := Tryz.func267.trans (congrArg some (by kernel_rfl))
  t0 := Tryz.underlying0
  a0 := Tryz.isAgg0
  z0 := Tryz.sizeOf0
  v0 := Tryz.zeroValue0
  t3 := Tryz.underlying3
  a3 := Tryz.isAgg3
  z3 := Tryz.sizeOf3
  v3 := Tryz.zeroValue3
  t4 := Tryz.underlying4
  a4 := Tryz.isAgg4
  z4 := Tryz.sizeOf4
  v4 := Tryz.zeroValue4
  t5 := Tryz.underlying5
  a5 := Tryz.isAgg5
  z5 := Tryz.sizeOf5
  v5 := Tryz.zeroValue5
  t9 := Tryz.underlying9
  a9 := Tryz.isAgg9
  z9 := Tryz.sizeOf9
  v9 := Tryz.zeroValue9
  t20 := Tryz.underlying20
  a20 := Tryz.isAgg20
  z20 := Tryz.sizeOf20
  v20 := Tryz.zeroValue20
  t37 := Tryz.underlying200
  a37 := Tryz.isAgg200
  z37 := Tryz.sizeOf200
  v37 := Tryz.zeroValue200
  t46 := Tryz.underlying137
  a46 := Tryz.isAgg137
  z46 := Tryz.sizeOf137
  v46 := Tryz.zeroValue137
  t51 := Tryz.underlying270
  a51 := Tryz.isAgg270
  z51 := Tryz.sizeOf270
  v51 := Tryz.zeroValue270
  t53 := Tryz.underlying57
  a53 := Tryz.isAgg57
  z53 := Tryz.sizeOf57
  v53 := Tryz.zeroValue57
  t70 := Tryz.underlying233
  a70 := Tryz.isAgg233
  z70 := Tryz.sizeOf233
  v70 := Tryz.zeroValue233
  t72 := Tryz.underlying235
  a72 := Tryz.isAgg235
  z72 := Tryz.sizeOf235
  v72 := Tryz.zeroValue235
  t75 := Tryz.underlying25
  a75 := Tryz.isAgg25
  z75 := Tryz.sizeOf25
  v75 := Tryz.zeroValue25
  t76 := Tryz.underlying74
  a76 := Tryz.isAgg74
  z76 := Tryz.sizeOf74
  v76 := Tryz.zeroValue74
  t109 := Tryz.underlying230
  a109 := Tryz.isAgg230
  z109 := Tryz.sizeOf230
  v109 := Tryz.zeroValue230
  t127 := Tryz.underlying273
  a127 := Tryz.isAgg273
  z127 := Tryz.sizeOf273
  v127 := Tryz.zeroValue273
  t146 := Tryz.underlying271
  a146 := Tryz.isAgg271
  z146 := Tryz.sizeOf271
  v146 := Tryz.zeroValue271
  t148 := Tryz.underlying188
  a148 := Tryz.isAgg188
  z148 := Tryz.sizeOf188
  v148 := Tryz.zeroValue188
  t164 := Tryz.underlying243
  a164 := Tryz.isAgg243
  z164 := Tryz.sizeOf243
  v164 := Tryz.zeroValue243 }
theorem Tryz.Builder_Extra_105 : Builder.Extra Tryz.prog Tryz.lays105_ren := {
  sizeBuilder := by kernel_rfl
  liesBuilder := by kernel_rfl
  t5 := Tryz.underlying5
  a5 := Tryz.isAgg5
  z5 := Tryz.sizeOf5
  v5 := Tryz.zeroValue5
  infoByte := by kernel_rfl
  cellsByte := by kernel_rfl
  sizeByte := by kernel_rfl
  neB5 := by decide }
open Go.RowKit Go.Lib in
/-- **strings.Repeat: count ≥ 0, the result within one allocation: count copies of s.** (LAID: no walk: one application.) -/
theorem Tryz.strings_Repeat (s : ByteArray) (c : Nat) (w : World) (hc : c ≤ 9223372036854775807) (hlen : s.size * c ≤ 140737488355328) :
    Calls Tryz.prog 161 #[.string s, .int .i64 c] w fun e w' => e = .returned (.string ⟨(Lib.repeatL s.data.toList c).toArray⟩) ∧ Below w.heap.size w w' := Any.strings_Repeat Tryz.lays105 Tryz.Builder_Extra_105 s c w hc hlen
end Go.Proofs

/- Decimal numerals as lists of bytes, and the number that such a list stands for. Plain lists; over the library's 'decDigits'. -/
namespace Go.Proofs.YtdlcleecjeipnaaGreatDoor.Decimal
open Go.Lib

/-- Just k digits, noughts ahead. -/
def pad : Nat → Nat → List UInt8
  | 0, _ => []
  | k + 1, r => pad k (r / 10) ++ [UInt8.ofNat (48 + r % 10)]

/-- The number of a list of digits. -/
def num (l : List UInt8) : Nat := l.foldl (fun a c => a * 10 + (c.toNat - 48)) 0

def isDig (c : UInt8) : Prop := 48 ≤ c.toNat ∧ c.toNat ≤ 57

theorem pad_length (k r : Nat) : (pad k r).length = k := by
  induction k generalizing r with
  | zero => rfl
  | succ k ih => simp [pad, ih]

theorem dec_small {u : Nat} (h : u < 10) : decDigits u = [UInt8.ofNat (48 + u)] := by rw [decDigits, dif_pos h]
theorem dec_big {u : Nat} (h : ¬ u < 10) : decDigits u = decDigits (u / 10) ++ [UInt8.ofNat (48 + u % 10)] := by rw [decDigits, dif_neg h]

theorem dec_split (k : Nat) : ∀ (q r : Nat), 0 < q → r < 10 ^ k → decDigits (q * 10 ^ k + r) = decDigits q ++ pad k r := by
  induction k with
  | zero => intro q r _ hr; simp [pad]; simp at hr; simp [hr]
  | succ k ih =>
    intro q r hq hr
    have hp : 0 < 10 ^ k := Nat.pow_pos (by omega)
    have h1 : 10 ≤ q * 10 ^ (k + 1) := by
      rw [Nat.pow_succ]
      have h2 : 1 ≤ q * 10 ^ k := Nat.mul_pos hq hp
      have : q * (10 ^ k * 10) = q * 10 ^ k * 10 := by rw [Nat.mul_assoc]
      omega
    rw [dec_big (by omega)]
    have h2 : (q * 10 ^ (k + 1) + r) / 10 = q * 10 ^ k + r / 10 := by
      rw [Nat.pow_succ, ← Nat.mul_assoc]; omega
    have h3 : (q * 10 ^ (k + 1) + r) % 10 = r % 10 := by
      rw [Nat.pow_succ, ← Nat.mul_assoc]; omega
    rw [h2, h3, ih q (r / 10) hq (by rw [Nat.pow_succ] at hr; omega), pad, List.append_assoc]

theorem pad_zero (k : Nat) : pad k 0 = List.replicate k 48 := by
  induction k with
  | zero => rfl
  | succ k ih => simp [pad, ih, List.replicate_succ']

theorem pad_eq (k : Nat) : ∀ r, r < 10 ^ k → 0 < k → pad k r = List.replicate (k - nDigits r) 48 ++ decDigits r := by
  induction k with
  | zero => intro r _ h; omega
  | succ k ih =>
    intro r hr _
    by_cases h : r < 10
    · rw [nDigits_small h, dec_small h, pad]
      have : r / 10 = 0 := by omega
      rw [this, pad_zero, Nat.mod_eq_of_lt h]
      rfl
    · rcases Nat.eq_zero_or_pos k with rfl | hk
      · simp at hr; omega
      · rw [pad, ih (r / 10) (by rw [Nat.pow_succ] at hr; omega) hk, nDigits_big h, dec_big h, ← List.append_assoc]
        congr 3
        omega

theorem ofNat_toNat {n : Nat} (h : n < 256) : (UInt8.ofNat n).toNat = n := by simp; omega

theorem num_append_one (l : List UInt8) (c : UInt8) : num (l ++ [c]) = num l * 10 + (c.toNat - 48) := by simp [num]

theorem num_foldl (l : List UInt8) (a : Nat) : l.foldl (fun a c => a * 10 + (c.toNat - 48)) a = a * 10 ^ l.length + num l := by
  induction l generalizing a with
  | nil => simp [num]
  | cons c l ih =>
    simp only [List.foldl_cons, num, List.length_cons]
    rw [ih, ih (0 * 10 + _), Nat.pow_succ]
    grind

theorem num_append (l m : List UInt8) : num (l ++ m) = num l * 10 ^ m.length + num m := by
  unfold num
  rw [List.foldl_append, num_foldl]
  rfl

theorem num_cons (c : UInt8) (l : List UInt8) : num (c :: l) = (c.toNat - 48) * 10 ^ l.length + num l := by
  rw [← List.singleton_append, num_append]; simp [num]

theorem num_lt {l : List UInt8} (h : ∀ c ∈ l, isDig c) : num l < 10 ^ l.length := by
  induction l with
  | nil => simp [num]
  | cons c l ih =>
    rw [num_cons, List.length_cons, Nat.pow_succ]
    have h1 := ih (fun x hx => h x (by simp [hx]))
    have h2 := h c (by simp)
    unfold isDig at h2
    have h3 : (c.toNat - 48) * 10 ^ l.length ≤ 9 * 10 ^ l.length := Nat.mul_le_mul_right _ (by omega)
    omega

theorem num_dec (u : Nat) : num (decDigits u) = u := by
  induction u using Nat.strongRecOn with
  | _ u ih =>
    by_cases h : u < 10
    · rw [dec_small h]; simp only [num, List.foldl_cons, List.foldl_nil]; rw [ofNat_toNat (by omega)]; omega
    · rw [dec_big h, num_append_one, ih (u / 10) (by omega), ofNat_toNat (by omega)]; omega

theorem dec_isDig (u : Nat) : ∀ c ∈ decDigits u, isDig c := by
  induction u using Nat.strongRecOn with
  | _ u ih =>
    intro c hc
    by_cases h : u < 10
    · rw [dec_small h] at hc
      have : c = UInt8.ofNat (48 + u) := by simpa using hc
      subst this
      unfold isDig; rw [ofNat_toNat (by omega)]; omega
    · rw [dec_big h] at hc
      rcases List.mem_append.1 hc with hc | hc
      · exact ih _ (by omega) c hc
      · have : c = UInt8.ofNat (48 + u % 10) := by simpa using hc
        subst this
        unfold isDig; rw [ofNat_toNat (by omega)]; omega

theorem dec_ne_nil (u : Nat) : decDigits u ≠ [] := by
  intro h
  have h1 := decDigits_length u
  have := nDigits_pos u
  rw [h] at h1
  simp at h1
  omega

/-- No nought ahead, but 0's own. -/
theorem dec_head (u : Nat) (h : 0 < u) : (decDigits u).head? ≠ some 48 := by
  induction u using Nat.strongRecOn with
  | _ u ih =>
    by_cases hs : u < 10
    · rw [dec_small hs]
      intro he
      have h1 : UInt8.ofNat (48 + u) = 48 := by simpa using he
      have h2 := congrArg UInt8.toNat h1
      rw [ofNat_toNat (by omega)] at h2
      have : (48 : UInt8).toNat = 48 := rfl
      omega
    · rw [dec_big hs]
      have h1 := ih (u / 10) (by omega) (by omega)
      cases hd : decDigits (u / 10) with
      | nil => exact absurd hd (dec_ne_nil _)
      | cons c l => rw [hd] at h1; simpa using h1

/-- A list of digits without noughts ahead is the numeral of its number. -/
theorem dec_num (l : List UInt8) (hd : ∀ c ∈ l, isDig c) (hl : l ≠ []) (h0 : l.head? ≠ some 48 ∨ l.length = 1) : decDigits (num l) = l := by
  -- by the last digit
  generalize hn : l.length = n
  induction n generalizing l with
  | zero => exact absurd (List.eq_nil_of_length_eq_zero hn) hl
  | succ n ih =>
    obtain ⟨m, c, rfl⟩ : ∃ m c, l = m ++ [c] := ⟨_, _, (List.dropLast_concat_getLast hl).symm⟩
    have hc := hd c (by simp)
    unfold isDig at hc
    rw [num_append_one]
    by_cases hm : m = []
    · subst hm
      have : num [] = 0 := rfl
      rw [this, dec_small (by omega)]
      simp only [List.nil_append, List.cons.injEq, and_true]
      apply UInt8.toNat_inj.1
      rw [ofNat_toNat (by omega)]; omega
    · have hml : m.length = n := by simpa using hn
      have hm0 : m.head? ≠ some 48 := by
        rcases h0 with h0 | h0
        · cases m with
          | nil => exact absurd rfl hm
          | cons x m => simpa using h0
        · simp at h0; exact absurd h0 hm
      have hdm : ∀ x ∈ m, isDig x := fun x hx => hd x (by simp [hx])
      have h1 := ih m hdm hm (.inl hm0) hml
      have hpos : 0 < num m := by
        rcases Nat.eq_zero_or_pos (num m) with h | h
        · exfalso
          rw [h] at h1
          have : decDigits 0 = [48] := by rw [dec_small (by omega)]; rfl
          rw [this] at h1
          rw [← h1] at hm0
          exact hm0 rfl
        · exact h
      rw [dec_big (by omega)]
      have e1 : (num m * 10 + (c.toNat - 48)) / 10 = num m := by omega
      have e2 : (num m * 10 + (c.toNat - 48)) % 10 = c.toNat - 48 := by omega
      rw [e1, e2, h1]
      congr 2
      apply UInt8.toNat_inj.1
      rw [ofNat_toNat (by omega)]; omega

theorem dec_inj {a b : Nat} (h : decDigits a = decDigits b) : a = b := by rw [← num_dec a, ← num_dec b, h]

end Go.Proofs.YtdlcleecjeipnaaGreatDoor.Decimal

/- strconv.FormatUint at base 10. -/
namespace Go.Proofs.YtdlcleecjeipnaaGreatDoor
open Go.RowKit Go.Proofs.YtdlcleecjeipnaaGreatDoorW.PrintWords Limbs Go.Sort Go.Lib
set_option linter.unusedVariables false

/-- The library's powers of ten stand in their variable. -/
def Tens (w : World) : Prop := Lib.TabIs Tryz.prog w "internal/strconv.uint64pow10" .u64 Lib.pow10Tab

/-- The text of a byte list. -/
def tx (l : List UInt8) : Value := .string ⟨l.toArray⟩

theorem holds_zero0 (w : World) (T : TypeId) (nd : Nat) (hs : nd ≤ 24) : Holds (fun (b : UInt8) => Value.int .u8 (b.toNat : Int)) (w.alloc (.cells zeros24 T)) w.heap.size 0 (Array.replicate nd (0 : UInt8)) := fun j hj => by
  have hj' : j < nd := by simpa using hj
  refine ⟨?_, World.frozen?_alloc_new _ _ _ _⟩
  rw [World.cell?_alloc_new, zeros24_at _ (by omega), getElem!_pos _ j hj]
  simp
theorem fin_pos0 (w : World) (o : Obj) (dk : Array UInt8) (k : Nat) : ∃ os, (putRow (fun (b : UInt8) => Value.int .u8 (b.toNat : Int)) (w.alloc o) w.heap.size 0 dk).drewN k = grow (w.drewN k) os := by
  rw [alloc_eq_grow]
  obtain ⟨os', _, e⟩ := putRow_grow_new (fun (b : UInt8) => Value.int .u8 (b.toNat : Int)) w #[o] w.heap.size 0 dk (Nat.le_refl _)
  exact ⟨os', by rw [e]; rfl⟩

set_option maxHeartbeats 3200000 in
set_option maxRecDepth 100000 in
theorem formatuint_in (u : Nat) (hu64 : u < 18446744073709551616) (w : World) (htab : Tens w) :
    Calls Tryz.prog 205 #[.int .u64 u, .int .i64 10] w fun e w' => e = .returned (tx (Lib.decDigits u)) ∧ Ext w w' := by
  by_cases hs : u < 100
  · go_enter Tryz.func205, Tryz.ntmps205
    go_wp2_with (go_at_call 240; refine (Tryz.internal_strconv_small u hs _).mono ?_; rintro e w' ⟨rfl, rfl⟩)
    go_ret
    exact ⟨rfl, Ext.refl _⟩
  · have hu1 : 1 ≤ u := by omega
    have hnd20 : Lib.nDigits u ≤ 20 := by have := Lib.numDigits_eq u hu1 hu64; split at this <;> omega
    have hal : Tryz.prog.arrayLen 266 = 24 := by simp [Program.arrayLen, Tryz.underlying266]
    have hsl1 : ∀ W, (Instr.sliceAt 266 (.pointer (some ⟨w.heap.size, 0, none⟩)) none (some (.int .i64 (Lib.nDigits u : Int))) none).run Tryz.prog W = .ok (.slice (some ⟨w.heap.size, 0, none⟩) (Lib.nDigits u) 24) W := fun W => by
      rw [run_sliceAt_array_h W 266 ⟨w.heap.size, 0, none⟩ (by simp [Program.arrayLen, Program.elem, Tryz.underlying266]) .i64 (Lib.nDigits u : Int) (by omega) (by rw [hal]; omega)]
      go_simp
    have hH0 := holds_zero0 w 266 (Lib.nDigits u) (by omega)
    have hfmt := Tryz.internal_strconv_formatBase10 w.heap.size 0 24 u (Array.replicate (Lib.nDigits u) 0) (w.alloc (.cells Lib.zeros24 266)) hH0 (by rw [Array.size_replicate]; exact Lib.lt_pow_nDigits u) hu64 (by rw [Array.size_replicate]; omega)
    rw [Array.size_replicate] at hfmt
    have HH0 := Lib.hid hH0
    clear hH0 hal
    go_enter Tryz.func205, Tryz.ntmps205
    go_wp2_with (first
      | (go_at_call 241; refine (Tryz.internal_strconv_numDigits u hu1 hu64 _ (Lib.tabIs_alloc htab _)).mono ?_; rintro e w' ⟨rfl, rfl⟩))
    refine hfmt.mono ?_
    rintro e w' ⟨rfl, k, v', dk, rfl, hF⟩
    have hcv : (convert 200 9 (.slice (some ⟨w.heap.size, 0, none⟩) (Lib.nDigits u) 24)).run Tryz.prog ((putRow (fun (b : UInt8) => Value.int .u8 (b.toNat : Int)) (w.alloc (.cells Lib.zeros24 266)) w.heap.size 0 dk).drewN k) = .ok (.string ⟨(Lib.decDigits u).toArray⟩) ((putRow (fun (b : UInt8) => Value.int .u8 (b.toNat : Int)) (w.alloc (.cells Lib.zeros24 266)) w.heap.size 0 dk).drewN k) := by
      have h := run_convert_bytes_back (P := Tryz.prog) ((putRow (fun (b : UInt8) => Value.int .u8 (b.toNat : Int)) (w.alloc (.cells Lib.zeros24 266)) w.heap.size 0 dk).drewN k) 200 9 5 ⟨w.heap.size, 0, none⟩ 24 (Lib.decDigits u) Tryz.underlying200 Tryz.underlying5 Tryz.underlying9 (fun j hj => by
        rw [Lib.row_is_numeral hF j hj, Lib.add_plain, World.cell?_drewN]
        exact cell?_putRow (fun (b : UInt8) => Value.int .u8 (b.toNat : Int)) _ w.heap.size 0 _ dk HH0.out (by rw [hF.size, Array.size_replicate]) j (by rw [hF.size]; rw [Lib.decDigits_length] at hj; exact hj))
      rw [Lib.decDigits_length] at h
      exact h
    obtain ⟨os, eo⟩ := fin_pos0 w (.cells Lib.zeros24 266) dk k
    have HE : Hid (Ext w ((putRow (fun (b : UInt8) => Value.int .u8 (b.toNat : Int)) (w.alloc (.cells Lib.zeros24 266)) w.heap.size 0 dk).drewN k)) := Lib.hid (by
      rw [eo]
      exact below_grow _ w (Nat.le_refl _) k os)
    clear eo hfmt hF
    go_wp2
    go_ret
    exact ⟨rfl, HE.out⟩

theorem formatuint_any (u : Nat) (hu : (u : Int) < B64) (w : World) (htab : Tens w) :
    Calls Tryz.prog 160 #[.int .u64 u, .int .i64 10] w fun e w' => e = .returned (tx (Lib.decDigits u)) ∧ Ext w w' := by
  have C := Lib.hid (formatuint_in u (by unfold B64 at hu; omega) w htab)
  clear hu htab
  go_enter Tryz.func160, Tryz.ntmps160
  go_wp2_with fail
  refine C.out.mono ?_
  rintro e w1 ⟨rfl, hx⟩
  go_wp2
  go_ret
  exact ⟨rfl, hx⟩
end Go.Proofs.YtdlcleecjeipnaaGreatDoor

/- nat.Text: the laws, and a copy of no words. -/
namespace Go.Proofs.YtdlcleecjeipnaaGreatDoor
open Go.RowKit Go.Proofs.YtdlcleecjeipnaaGreatDoorW.PrintWords Limbs Go.Sort Go.Lib
set_option linter.unusedVariables false

theorem info9 : (Tryz.prog.info? 9).map (fun i => (i.zero, i.size, i.bytes)) = some (some (.string ⟨#[]⟩), 1, 16) := by kernel_rfl

theorem tx_append (a b : List UInt8) : (⟨a.toArray⟩ ++ ⟨b.toArray⟩ : ByteArray) = ⟨(a ++ b).toArray⟩ := by
  apply ByteArray.ext
  simp [ByteArray.data_append]

/-- What stands between the rounds of Text: N is still to be written, ps is written, the lowest first. -/
structure TextInv (a N : Nat) (ps : List (List UInt8)) : Prop where
  eqn : (if N = 0 then [] else decDigits N) ++ ps.reverse.flatten = decDigits a
  le : N ≤ a
  len : 2 ^ (59 * ps.length) * N ≤ a
  cap : ps.length ≤ 16777217

theorem TextInv.start {a : Nat} (h : 0 < a) : TextInv a a [] := ⟨by rw [if_neg (by omega)]; simp, Nat.le_refl _, by simp, by simp⟩
theorem TextInv.room {a N : Nat} {ps : List (List UInt8)} (h : TextInv a N ps) (hN : 0 < N) (ha : a < BIG) : ps.length + 1 ≤ 16777217 := by
  have h1 := h.len
  have h2 : 2 ^ (59 * ps.length) * 1 ≤ 2 ^ (59 * ps.length) * N := Nat.mul_le_mul_left _ hN
  have h3 : 59 * ps.length < bigE := (Nat.pow_lt_pow_iff_right (a := 2) (by decide)).1 (by unfold BIG at ha; omega)
  unfold bigE at h3
  omega
theorem TextInv.more {a N : Nat} {ps : List (List UInt8)} (h : TextInv a N ps) (ha : a < BIG) (hq : 0 < N / 1000000000000000000) : TextInv a (N / 1000000000000000000) (ps ++ [List.replicate (18 - nDigits (N % 1000000000000000000)) 48 ++ decDigits (N % 1000000000000000000)]) := by
  have e := h.eqn
  rw [if_neg (by omega)] at e
  have hs := Decimal.dec_split 18 (N / 1000000000000000000) (N % 1000000000000000000) hq (by omega)
  rw [show N / 1000000000000000000 * 10 ^ 18 + N % 1000000000000000000 = N from by omega, Decimal.pad_eq 18 _ (by omega) (by omega)] at hs
  rw [hs] at e
  refine ⟨?_, by have := h.le; omega, ?_, by have := h.room (by omega) ha; simpa using this⟩
  · rw [if_neg (by omega), List.reverse_append]
    simp only [List.reverse_cons, List.reverse_nil, List.nil_append, List.singleton_append, List.flatten_cons]
    rw [← List.append_assoc]; exact e
  · have h1 := h.len
    have h2 : 2 ^ (59 * ps.length) * (2 ^ 59 * (N / 1000000000000000000)) ≤ 2 ^ (59 * ps.length) * N := Nat.mul_le_mul_left _ (by omega)
    rw [List.length_append, List.length_singleton, Nat.mul_add, Nat.mul_one, Nat.pow_add, Nat.mul_assoc]
    omega
theorem TextInv.last {a N : Nat} {ps : List (List UInt8)} (h : TextInv a N ps) (ha : a < BIG) (hN : 0 < N) (hq : N / 1000000000000000000 = 0) : TextInv a 0 (ps ++ [decDigits (N % 1000000000000000000)]) := by
  have e := h.eqn
  rw [if_neg (by omega)] at e
  refine ⟨?_, Nat.zero_le _, by simp, by have := h.room hN ha; simpa using this⟩
  · rw [if_pos rfl, List.reverse_append]
    simp only [List.reverse_cons, List.reverse_nil, List.nil_append, List.singleton_append, List.flatten_cons]
    rw [show N % 1000000000000000000 = N from by omega]
    exact e

theorem ndig_le (k : Nat) : ∀ a, a < 10 ^ k → 0 < k → nDigits a ≤ k := by
  induction k with
  | zero => intro a _ h; omega
  | succ k ih =>
    intro a ha _
    by_cases h : a < 10
    · rw [nDigits_small h]; omega
    · rw [nDigits_big h]
      rcases Nat.eq_zero_or_pos k with rfl | hk
      · simp at ha; omega
      · have := ih (a / 10) (by rw [Nat.pow_succ] at ha; omega) hk
        omega
theorem dec_len {a : Nat} (h : a < BIG) : (decDigits a).length ≤ 16777216 := by
  rw [decDigits_length]
  refine ndig_le bigE a (Nat.lt_of_lt_of_le h (Nat.pow_le_pow_left (by decide) _)) (by decide)

theorem join_none (ps : List (List UInt8)) : Lib.join ps [] = ps.flatten := by
  induction ps with
  | nil => rfl
  | cons x ps ih =>
    rw [join_cons]
    unfold joinTail
    simp

theorem clone_none (c : Nat) (w : World) : Calls Tryz.prog 159 #[.slice none 0 c] w fun e w' => e = .returned (.slice none 0 0) ∧ w = w' :=
  (Tryz.slices_Clone_nil 0 c w).mono fun e w' h => ⟨h.1, h.2.symm⟩
end Go.Proofs.YtdlcleecjeipnaaGreatDoor

/- nat.Text: the walk. -/
namespace Go.Proofs.YtdlcleecjeipnaaGreatDoor
open Go.RowKit Go.Proofs.YtdlcleecjeipnaaGreatDoorW.PrintWords Limbs Go.Sort Go.Lib
set_option linter.unusedVariables false

theorem Tens.ext {w w' : World} (h : Tens w) (he : Ext w w') : Tens w' := by
  unfold Tens TabIs World.var? at *
  cases hg : Tryz.prog.globalNamed "internal/strconv.uint64pow10" with
  | none => simp [hg] at h
  | some g =>
    simp only [hg, Option.bind_some] at h ⊢
    have hlt : g < w.heap.size := by
      rcases Nat.lt_or_ge g w.heap.size with h1 | h1
      · exact h1
      · rw [Array.getElem?_eq_none h1] at h; simp at h
    rw [Below.block he g hlt]
    exact h
theorem repeat_one (c : Nat) : repeatL [48] c = List.replicate c 48 := by
  induction c with
  | zero => rfl
  | succ c ih => rw [repeatL, ih, List.replicate_succ]; rfl
theorem Own.apart {w w' : World} {g o : Nat} {xs : List Int} {base n : Nat} {v : Value} {ys : List Value} (h : Own w g o xs) (hr : w.ownsRow base 9 1 v n ys) (hg : w.grownBy w' v.ownBlock) : Own w' g o xs := by
  have hlt := h.lt
  obtain ⟨cur, hc, -⟩ := id h
  exact h.block (hg.block g hlt (own_ne hr hc (by decide)))
theorem Arr.own {w : World} {g : Nat} {xs : List Int} (h : Arr w g xs) : Own w g 0 xs :=
  ⟨_, h, fun i hi => by simp [List.getD_eq_getElem?_getD, hi]⟩

/-- What short answers, of a number and 10^18. -/
theorem short18 {w : World} {g c : Nat} {xs : List Int} {N : Nat} (hc : xs.length ≤ c) (hO : Own w g 0 xs) (hL : Lim xs N) (hl : xs.length ≤ 262144) :
    Calls Tryz.prog 153 #[.slice (some ⟨g, 0, none⟩) xs.length c, .int .u64 1000000000000000000] w fun e w' => ∃ (g2 n2 : Nat) (zs : List Int), e = .returned (.tuple #[.slice (some ⟨g2, 0, none⟩) zs.length n2, .int .u64 ((N % 1000000000000000000 : Nat) : Int)]) ∧ zs.length ≤ n2 ∧ n2 ≤ 262144 ∧ Own w' g2 0 zs ∧ Dig B64 zs ∧ (Limbs.val B64 zs).toNat = N / 1000000000000000000 ∧ Ext w w' := by
  have := short_any (d := ((1000000000000000000 : Nat) : Int)) hc (hO.reads (by omega)) hL.dig (by omega) (by omega) (by unfold B64; omega)
  refine this.mono ?_
  rintro e w' ⟨g2, zs, r, rfl, hA, hg, hI, hx⟩
  obtain ⟨e1, e2⟩ := ShortInv.fin hI hL (by omega)
  have hzl := hI.len
  refine ⟨g2, xs.length, zs, by rw [e2, hzl], by omega, hl, hA.own, hI.dig, e1, hx⟩

set_option maxHeartbeats 4000000 in
theorem text_pos {w : World} {u : Value} {a : Nat} (hu : IsNat w u a) (h0 : 0 < a) (ha : a < BIG) (hT : Tens w) :
    Calls Tryz.prog 93 #[u] w fun e w' => e = .returned (tx (decDigits a)) ∧ Ext w w' := by
  obtain ⟨A, c, xs, ⟨h1, h2, h3⟩, c0⟩ := limbs_any hu
  have lx := h3.len_le ha
  have hxl : 0 < xs.length := by
    rcases Nat.eq_zero_or_pos xs.length with h | h
    · have := h3.len_zero.1 h; omega
    · exact h
  have CC := Lib.hid (clone_any (c := c) h2 hxl (by omega))
  have HL := Lib.hid h3
  have HA := Lib.hid (fun (_ : Unit) => ha)
  have hI0 := TextInv.start h0
  have HT : Hid (∀ W, Ext w W → Tens W) := Lib.hid (fun W hW => hT.ext hW)
  have h0' := Lib.hid h0
  clear h1 h2 h3 ha hT h0
  go_enter Tryz.func93, Tryz.ntmps93
  go_wp2_with (go_at_call 151; refine c0.mono ?_; rintro e w' ⟨rfl, rfl⟩)
  refine CC.out.mono ?_
  rintro e w1 ⟨g, c1, rfl, hc1, hcm, hO, hg, hx1⟩
  have hR0 : w1.ownsRow w.heap.size 9 1 (.slice none 0 0) ([] : List (List UInt8)).length (encs tx []) := own_nil _ _ _ _
  clear CC c0
  go_wp2_with fail
  go_loopg [3, 4] a (fun kq pv lv wr => ∃ (N : Nat) (xs : List Int) (g c : Nat) (ps : List (List UInt8)), lv = .slice (some ⟨g, 0, none⟩) xs.length c ∧ xs.length ≤ c ∧ Own wr g 0 xs ∧ Lim xs N ∧ wr.ownsRow w.heap.size 9 1 pv ps.length (encs tx ps) ∧ TextInv a N ps ∧ Ext w wr ∧ Hid (kq = N))
  case atStart => exact ⟨a, xs, g, c1, [], rfl, hc1, hO, HL.out, hR0, hI0, hx1, Lib.hid rfl⟩
  case round =>
    clear hI0 hR0 hO hx1
    obtain ⟨kg, xs, g, c, ps, rfl, hc, hO, hL, hR, hI, hx, hkq⟩ := hrel
    rcases Nat.eq_zero_or_pos xs.length with hz | hz
    · obtain rfl : kg = 0 := hL.len_zero.1 hz
      have hf := hI.eqn
      rw [if_pos rfl, List.nil_append] at hf
      have hpl : 0 < ps.length := by
        rcases Nat.eq_zero_or_pos ps.length with h | h
        · rw [List.length_eq_zero_iff.1 h] at hf
          exact absurd hf.symm (Decimal.dec_ne_nil a)
        · exact h
      have hpc := hI.cap
      obtain ⟨_, _, hvv, -, -⟩ := hR.form hpl
      obtain ⟨gp, cp, rfl, hgp, hgl, hle, -, -, hH⟩ := holds_of_ownsRow (enc := encStr) (zs := ps) hR (by rw [hvv]; intro h; cases h)
      clear hvv
      have b0 : ((ps.length : Int) == 0) = false := beq_eq_false_iff_ne.2 (by omega)
      have CR := Lib.hid (Tryz.slices_Reverse_string gp 0 cp ps wr hH (by omega))
      have HH := Lib.hid hH
      have HF := Lib.hid hf
      have HDL := Lib.hid (dec_len (HA.out ()))
      clear hI hL hR hf hH hO
      go_wp2_with fail
      refine CR.out.mono ?_
      rintro e w5 ⟨rfl, nd, rfl⟩
      have hx5 : Ext w (putRow encStr (Sort.ahead wr nd) gp 0 ps.reverse.toArray) := below_putRow hx hgp
      have CJ : Hid (Calls Tryz.prog 163 #[.slice (some ⟨gp, 0, none⟩) ps.length cp, .string ⟨#[]⟩] (putRow encStr (Sort.ahead wr nd) gp 0 ps.reverse.toArray) fun e w' => e = .returned (tx (decDigits a)) ∧ Ext (putRow encStr (Sort.ahead wr nd) gp 0 ps.reverse.toArray) w') := Lib.hid (by
        have hl : (ps.reverse.map (fun l => (⟨l.toArray⟩ : ByteArray))).length = ps.length := by simp
        have e1 : ((ps.reverse.map (fun l => (⟨l.toArray⟩ : ByteArray))).map (·.data.toList)) = ps.reverse := by
          rw [List.map_map]
          rw [show ((fun (x : ByteArray) => x.data.toList) ∘ fun (l : List UInt8) => (⟨l.toArray⟩ : ByteArray)) = id from rfl, List.map_id]
        have e2 : (join ((ps.reverse.map (fun l => (⟨l.toArray⟩ : ByteArray))).map (·.data.toList)) (⟨#[]⟩ : ByteArray).data.toList) = decDigits a := by
          rw [e1]
          show join ps.reverse [] = _
          rw [join_none, HF.out]
        have hcells : ∀ (j : Nat) x, (ps.reverse.map (fun l => (⟨l.toArray⟩ : ByteArray)))[j]? = some x → (putRow encStr (Sort.ahead wr nd) gp 0 ps.reverse.toArray).cell? ⟨gp, 0 + j, none⟩ = some (.string x) := by
          intro j x hj
          have hjl : j < ps.reverse.length := by have := (List.getElem?_eq_some_iff.1 hj).1; simpa using this
          have := cell?_putRow encStr (Sort.ahead wr nd) gp 0 ps.toArray ps.reverse.toArray (fun i hi => HH.out i hi) (by simp) j (by simpa using hjl)
          rw [this]
          rw [List.getElem?_map, List.getElem?_eq_getElem hjl] at hj
          simp only [Option.map_some, Option.some.injEq] at hj
          subst hj
          rw [getElem!_pos _ j (by simpa using hjl)]
          simp [encStr]
        have hj := Tryz.strings_Join gp 0 cp (ps.reverse.map (fun l => (⟨l.toArray⟩ : ByteArray))) ⟨#[]⟩ (putRow encStr (Sort.ahead wr nd) gp 0 ps.reverse.toArray) hcells (by rw [size_putRow]; exact hgl) (by rw [hl]; omega) (by rw [hl]; exact hle) (by rw [e2]; exact Nat.le_trans HDL.out (by decide))
        rw [hl, e2] at hj
        exact hj)
      clear CR HH HF HDL hx
      go_wp2_with fail
      refine CJ.out.mono ?_
      rintro e w6 ⟨rfl, hx6⟩
      go_wp2
      go_ret
      exact ⟨rfl, hx5.trans hx6⟩
    · have hN : 0 < kg := by
        rcases Nat.eq_zero_or_pos kg with h | h
        · have := hL.len_zero.2 h; omega
        · exact h
      have hNB : kg < BIG := Nat.lt_of_le_of_lt hI.le (HA.out ())
      have lx := hL.len_le hNB
      have CS := Lib.hid (short18 hc hO hL lx)
      obtain ⟨q, hq⟩ : ∃ q, kg / 1000000000000000000 = q := ⟨_, rfl⟩
      obtain ⟨r, hr⟩ : ∃ r, kg % 1000000000000000000 = r := ⟨_, rfl⟩
      have hr64 : (r : Int) < B64 := by unfold B64; omega
      have hr18 : r < 10 ^ 18 := by omega
      have hdec : q < kg := by omega
      have HM : Hid (0 < q → TextInv a q (ps ++ [List.replicate (18 - nDigits r) 48 ++ decDigits r])) := Lib.hid (fun h => by have := hI.more (HA.out ()) (by rw [hq]; exact h); rwa [hq, hr] at this)
      have HN : Hid (q = 0 → TextInv a 0 (ps ++ [decDigits r])) := Lib.hid (fun h => by have := hI.last (HA.out ()) hN (by rw [hq]; exact h); rwa [hr] at this)
      have hroom := hI.room hN (HA.out ())
      rw [hq, hr] at CS
      have CF : Hid (∀ W, Ext w W → Calls Tryz.prog 160 #[.int .u64 r, .int .i64 10] W fun e w' => e = .returned (tx (Lib.decDigits r)) ∧ Ext W w') := Lib.hid (fun W hW => formatuint_any r hr64 W (HT.out W hW))
      have hnd : nDigits r ≤ 18 := ndig_le 18 r hr18 (by decide)
      have hdl := decDigits_length r
      have HD := Lib.hid (fun (_ : Unit) => hdec)
      clear hI hL hN hNB lx hr64 hr18 hq hr hdec hO
      go_wp2_with fail
      refine CS.out.mono ?_
      rintro e w2 ⟨g2, n2, zs, rfl, hz1, hz2, hO2, hD2, hV2, hx2⟩
      have CM := Lib.hid (made_part hz1 hO2 hD2 (by omega))
      rw [hV2] at CM
      clear hO2 hD2 hV2 CS
      go_wp2_with fail
      refine CM.out.mono ?_
      rintro e w3 ⟨ys, rfl, hy1, hcl, hO3, hL3, hx3⟩
      have hx23 := hx2.trans hx3
      replace hR := pw_own_below hR hx23
      replace hx := hx.trans hx23
      clear CM hx2 hx3 hx23
      go_wp2_with fail
      refine (CF.out _ hx).mono ?_
      rintro e w4 ⟨rfl, hx4⟩
      replace hR := pw_own_below hR hx4
      replace hx := hx.trans hx4
      replace hO3 := hO3.ext hx4
      clear CF hx4 hcl
      obtain ⟨dl, hdl2⟩ : ∃ dl, decDigits r = dl := ⟨_, rfl⟩
      rw [hdl2] at hdl HM HN ⊢
      unfold tx
      rcases Nat.eq_zero_or_pos q with hq0 | hq0
      · subst hq0
        have hyz : ys.length = 0 := hL3.len_zero.2 rfl
        have HI := Lib.hid (HN.out rfl)
        clear HM HN
        rw [hyz]
        go_wp2_with (first | ((with_reducible refine gate_builtin (b := .append) (xs := #[.tmp 34, .tmp 36]) rfl ?_); at_builtin; refine print_append_of tx (w0 := w) w.heap.size rfl (.tmp 34) (.tmp 36) 69 9 (.string ⟨#[]⟩) 16 rfl Tryz.underlying69 info9 rfl (by decide) _ ps dl rfl rfl rfl hR hx (below_size hx) (by omega) ?_; intro v1 w5 ho hb hg hat))
        have hO5 := hO3.apart hR hg
        have hO5' : Own w5 g2 0 [] := by rw [List.length_eq_zero_iff.1 hyz] at hO5; exact hO5
        go_wp2
        go_roundg 0
        case measure => have := hkq.out; have := HD.out (); omega
        case rel => exact ⟨0, [], g2, n2, _, rfl, by simp, hO5', Lim.nil, ho, HI.out, hb, Lib.hid rfl⟩
      · have hyp : 0 < ys.length := by
          rcases Nat.eq_zero_or_pos ys.length with h | h
          · have := hL3.len_zero.1 h; omega
          · exact h
        have HI := Lib.hid (HM.out hq0)
        obtain ⟨cn, hcn⟩ : ∃ cn, 18 - nDigits r = cn := ⟨_, rfl⟩
        rw [hcn] at HI
        have ecn : (18 : Int) - (nDigits r : Int) = (cn : Nat) := by omega
        have CR : Hid (∀ W, Calls Tryz.prog 161 #[.string ⟨#[48]⟩, .int .i64 cn] W fun e w' => e = .returned (.string ⟨(List.replicate cn 48).toArray⟩) ∧ Ext W w') := Lib.hid (fun W => (Tryz.strings_Repeat ⟨#[48]⟩ cn W (by omega) (by show 1 * cn ≤ _; omega)).mono fun e w' h => ⟨by rw [h.1]; show Ending.returned (.string ⟨(repeatL [48] cn).toArray⟩) = _; rw [repeat_one], h.2⟩)
        obtain ⟨pc, hpc⟩ : ∃ pc, List.replicate cn (48 : UInt8) = pc := ⟨_, rfl⟩
        rw [hpc] at CR HI
        have hpl : pc.length + nDigits r ≤ 9223372036854775807 := by rw [← hpc, List.length_replicate]; omega
        clear hpc
        obtain ⟨cd, hcd⟩ : ∃ cd : ByteArray, Hid (⟨(pc ++ dl).toArray⟩ = cd) := ⟨_, Lib.hid rfl⟩
        have hcat : (⟨pc.toArray⟩ ++ ⟨dl.toArray⟩ : ByteArray) = cd := by rw [tx_append, hcd.out]
        have hsz : ((⟨dl.toArray⟩ : ByteArray).size : Int) = dl.length := rfl
        clear HM HN
        go_wp2_with fail
        refine (CR.out _).mono ?_
        rintro e w5 ⟨rfl, hx5⟩
        replace hR := pw_own_below hR hx5
        replace hx := hx.trans hx5
        replace hO3 := hO3.ext hx5
        clear CR hx5
        go_wp2_with (first | ((with_reducible refine gate_builtin (b := .append) (xs := #[.tmp 34, .tmp 36]) rfl ?_); at_builtin; rw [← hcd.out]; refine print_append_of tx (w0 := w) w.heap.size rfl (.tmp 34) (.tmp 36) 69 9 (.string ⟨#[]⟩) 16 rfl Tryz.underlying69 info9 rfl (by decide) _ ps (pc ++ dl) rfl rfl rfl hR hx (below_size hx) (by omega) ?_; intro v1 w6 ho hb hg hat))
        have hO5 := hO3.apart hR hg
        go_wp2
        go_roundg q
        case measure => have := hkq.out; have := HD.out (); omega
        case rel => exact ⟨q, ys, g2, n2, _, rfl, hy1, hO5, hL3, ho, HI.out, hb, Lib.hid rfl⟩
end Go.Proofs.YtdlcleecjeipnaaGreatDoor

/- nat.Text of nought; num.Text; rat.Text. -/
namespace Go.Proofs.YtdlcleecjeipnaaGreatDoor
open Go.RowKit Go.Proofs.YtdlcleecjeipnaaGreatDoorW.PrintWords Limbs Go.Sort Go.Lib
set_option linter.unusedVariables false

theorem info57' : (Tryz.prog.info? 57).map (fun i => (i.zero, i.size, i.bytes)) = some (some (.int .u64 0), 1, 8) := by kernel_rfl

theorem clone_empty (ad : Addr) (c : Nat) (w : World) : Calls Tryz.prog 159 #[.slice (some ad) 0 c] w fun e w' => (∃ A c', e = .returned (.slice A 0 c')) ∧ Ext w w' := by
  have q22 : ∀ (w : World) (a : Option Addr) (n c n' c' : Nat), (binOp .eql 33 (.slice a n c) (.slice none n' c')).run Tryz.prog w = .ok (.bool a.isNone) w := fun w a n c n' c' => Lib.run_eql_slice_nil w _ _ a n c n' c' Tryz.underlying33
  go_enter Tryz.func159, Tryz.ntmps159
  go_wp2_with (at_builtin; refine print_append_row_of (Value.int .u64) 0 (w0 := w) w.heap.size rfl (.tmp 5) (.tmp 6) 33 57 (.int .u64 0) 8 rfl Tryz.underlying33 info57' rfl (by decide) (fun _ => rfl) _ [] [] (some ad) 0 c rfl rfl (World.ownsRow_made w #[] 0 (Nat.le_refl _) (Nat.zero_le _) (by simp)) ⟨rfl, by decide, fun h => absurd h (by decide)⟩ (Ext.alloc w _) (by simp) (by decide) ?_)
  intro v1 w1 ho hb hg hat
  obtain ⟨A, c', rfl⟩ := own_slice ho
  have hb' : Ext w w1 := hb
  clear ho hb hg hat q22
  go_wp2
  go_ret
  exact ⟨⟨_, _, rfl⟩, hb'⟩

theorem text_zero {w : World} {u : Value} (hu : IsNat w u 0) : Calls Tryz.prog 93 #[u] w fun e w' => e = .returned (tx (decDigits 0)) ∧ Ext w w' := by
  obtain ⟨A, c, xs, ⟨h1, h2, h3⟩, c0⟩ := limbs_any hu
  have e0 : xs = [] := h3.zero_iff.2 rfl
  subst e0
  have ed : decDigits 0 = [48] := by rw [Decimal.dec_small (by omega)]; rfl
  rw [ed]
  have CC : Hid (Calls Tryz.prog 159 #[.slice A 0 c] w fun e w' => (∃ A c', e = .returned (.slice A 0 c')) ∧ Ext w w') := Lib.hid (by
    cases A with
    | none => exact (clone_none c w).mono fun e w' h => ⟨⟨_, _, h.1⟩, by rw [← h.2]; exact Ext.refl _⟩
    | some ad => exact clone_empty ad c w)
  clear h1 h2 h3
  go_enter Tryz.func93, Tryz.ntmps93
  go_wp2_with (go_at_call 151; refine c0.mono ?_; rintro e w' ⟨rfl, rfl⟩)
  refine CC.out.mono ?_
  rintro e w1 ⟨⟨A', c', rfl⟩, hx1⟩
  clear CC c0
  go_wp2_with fail
  go_loopw [3, 4] (fun pv lv wr => pv = .slice none 0 0 ∧ lv = .slice A' 0 c' ∧ wr = w1) (fun _ _ _ => 0)
  case atStart => exact ⟨rfl, rfl, rfl⟩
  case round =>
    obtain ⟨rfl, rfl, rfl⟩ := hrel
    go_wp2
    go_ret
    exact ⟨rfl, hx1⟩

theorem text_any {w : World} {u : Value} {a : Nat} (hu : IsNat w u a) (ha : a < BIG) (hT : Tens w) : Calls Tryz.prog 93 #[u] w fun e w' => e = .returned (tx (decDigits a)) ∧ Ext w w' := by
  rcases Nat.eq_zero_or_pos a with h | h
  · subst h; exact text_zero hu
  · exact text_pos hu h ha hT

/-- The text of an integer. -/
def ztx (z : Int) : List UInt8 := if z < 0 then 45 :: decDigits z.natAbs else decDigits z.natAbs

theorem dec_room {a : Nat} (h : a < BIG) : (decDigits a).length ≤ 16777216 := dec_len h

theorem ntext_any {w : World} {v : Value} {z : Int} (h : IsInt w v z) (hz : z.natAbs < BIG) (hT : Tens w) : Calls Tryz.prog 48 #[v] w fun e w' => e = .returned (tx (ztx z)) ∧ Ext w w' := by
  have CS := Lib.hid (sign_any h)
  have CA := Lib.hid (fun W (hW : Ext w W) => abs_any (h.ext hW))
  have CT := Lib.hid (fun W x (h1 : IsNat W x z.natAbs) (hW : Ext w W) => text_any h1 hz (hT.ext hW))
  have hl := dec_len hz
  obtain ⟨dl, hdl⟩ : ∃ dl, decDigits z.natAbs = dl := ⟨_, rfl⟩
  rcases Int.lt_or_le z 0 with hn | hn
  · have es := sgn_neg hn
    have EZ : Hid (ztx z = 45 :: dl) := Lib.hid (by unfold ztx; rw [if_pos hn, hdl])
    rw [es] at CS
    rw [hdl] at CT hl
    obtain ⟨cd, hcd⟩ : ∃ cd : ByteArray, Hid (⟨(45 :: dl).toArray⟩ = cd) := ⟨_, Lib.hid rfl⟩
    have hcat : (⟨#[45]⟩ ++ ⟨dl.toArray⟩ : ByteArray) = cd := by rw [← hcd.out]; exact tx_append [45] dl
    have hb : 1 + dl.length ≤ 9223372036854775807 := by omega
    clear hz hT hdl
    go_enter Tryz.func48, Tryz.ntmps48
    go_wp2_with fail
    refine CS.out.mono ?_
    rintro e w1 ⟨rfl, hx1⟩
    go_wp2_with fail
    refine (CA.out _ hx1).mono ?_
    rintro e w2 ⟨r, rfl, hr, hx2⟩
    go_wp2_with fail
    refine (CT.out _ _ hr (hx1.trans hx2)).mono ?_
    rintro e w3 ⟨rfl, hx3⟩
    unfold tx
    go_wp2
    go_ret
    exact ⟨by rw [EZ.out, ← hcd.out]; rfl, hx1.trans (hx2.trans hx3)⟩
  · obtain ⟨s, hs⟩ : ∃ s, sgn z = s := ⟨_, rfl⟩
    have hs0 : 0 ≤ s := by rcases sgn_cases z with ⟨h1, h2⟩ | ⟨h1, h2⟩ | ⟨h1, h2⟩ <;> omega
    have EZ : Hid (ztx z = dl) := Lib.hid (by unfold ztx; rw [if_neg (by omega), hdl])
    rw [hs] at CS
    rw [hdl] at CT hl
    clear hz hT hdl hs
    go_enter Tryz.func48, Tryz.ntmps48
    go_wp2_with fail
    refine CS.out.mono ?_
    rintro e w1 ⟨rfl, hx1⟩
    go_wp2_with fail
    refine (CA.out _ hx1).mono ?_
    rintro e w2 ⟨r, rfl, hr, hx2⟩
    go_wp2_with fail
    refine (CT.out _ _ hr (hx1.trans hx2)).mono ?_
    rintro e w3 ⟨rfl, hx3⟩
    go_wp2
    go_ret
    exact ⟨by rw [EZ.out]; rfl, hx1.trans (hx2.trans hx3)⟩
end Go.Proofs.YtdlcleecjeipnaaGreatDoor

/- rat.Text. -/
namespace Go.Proofs.YtdlcleecjeipnaaGreatDoor
open Go.RowKit Go.Proofs.YtdlcleecjeipnaaGreatDoorW.PrintWords Limbs Go.Sort Go.Lib
set_option linter.unusedVariables false

/-- The text of a fraction. -/
def rtx (n : Int) (d : Nat) : List UInt8 := if d = 1 then ztx n else ztx n ++ 47 :: decDigits d

theorem dec_one : decDigits 1 = [49] := by rw [Decimal.dec_small (by omega)]; rfl
theorem dec_ne_one {d : Nat} (h : d ≠ 1) : decDigits d ≠ [49] := fun e => h (Decimal.dec_inj (by rw [e, dec_one]))
theorem ba_ne {a b : List UInt8} (h : a ≠ b) : (⟨a.toArray⟩ : ByteArray) ≠ ⟨b.toArray⟩ := fun e => h (by simpa using congrArg (fun x : ByteArray => x.data.toList) e)
theorem ztx_len {z : Int} (h : z.natAbs < BIG) : (ztx z).length ≤ 16777217 := by
  have := dec_len h
  unfold ztx
  split
  · simp; omega
  · omega
theorem ztx_nat (d : Nat) : ztx (d : Int) = decDigits d := by unfold ztx; rw [if_neg (by omega)]; rfl

set_option maxHeartbeats 1000000 in
theorem rtext_any {w : World} {v : Value} {n : Int} {d : Nat} (h : IsRat w v n d) (hn : n.natAbs < BIG) (hd : d < BIG) (hT : Tens w) : Calls Tryz.prog 35 #[v] w fun e w' => e = .returned (tx (rtx n d)) ∧ Ext w w' := by
  have CD := Lib.hid (den_any h)
  have CN := Lib.hid (fun W (hW : Ext w W) => num_any (h.ext hW))
  have TD : Hid (∀ W x, IntAt W x (d : Int) → Ext w W → Calls Tryz.prog 48 #[x] W fun e w' => e = .returned (tx (decDigits d)) ∧ Ext W w') := Lib.hid (fun W x h1 hW => by
    have := ntext_any h1.is (by simpa using hd) (hT.ext hW)
    rwa [ztx_nat] at this)
  have TN := Lib.hid (fun W x (h1 : IntAt W x n) (hW : Ext w W) => ntext_any h1.is hn (hT.ext hW))
  have l1 := ztx_len hn
  have l2 := dec_len hd
  obtain ⟨nl, hnl⟩ : ∃ nl, ztx n = nl := ⟨_, rfl⟩
  obtain ⟨dl, hdl⟩ : ∃ dl, decDigits d = dl := ⟨_, rfl⟩
  rw [hnl] at TN l1
  rw [hdl] at TD l2
  rcases Nat.decEq d 1 with h1 | h1
  · have EZ : Hid (rtx n d = nl ++ 47 :: dl) := Lib.hid (by unfold rtx; rw [if_neg h1, hnl, hdl])
    have b1 : (dl == [49]) = false := beq_eq_false_iff_ne.2 (by rw [← hdl]; exact dec_ne_one h1)
    obtain ⟨cd, hcd⟩ : ∃ cd : ByteArray, Hid (⟨(nl ++ [47]).toArray⟩ = cd) := ⟨_, Lib.hid rfl⟩
    have hcat : (⟨nl.toArray⟩ ++ ⟨#[47]⟩ : ByteArray) = cd := by rw [← hcd.out]; exact tx_append nl [47]
    obtain ⟨ce, hce⟩ : ∃ ce : ByteArray, Hid (⟨(nl ++ 47 :: dl).toArray⟩ = ce) := ⟨_, Lib.hid rfl⟩
    have hcat2 : (cd ++ ⟨dl.toArray⟩ : ByteArray) = ce := by rw [← hce.out, ← hcd.out, tx_append]; simp
    have hs1 : cd.size = nl.length + 1 := by rw [← hcd.out]; simp [ByteArray.size]
    clear hn hd hT hnl hdl h1
    go_enter Tryz.func35, Tryz.ntmps35
    go_wp2_with fail
    refine CD.out.mono ?_
    rintro e w1 ⟨r1, rfl, hr1, hx1⟩
    go_wp2_with fail
    refine (TD.out _ _ hr1 hx1).mono ?_
    rintro e w2 ⟨rfl, hx2⟩
    unfold tx
    go_wp2_with fail
    refine (CN.out _ (hx1.trans hx2)).mono ?_
    rintro e w3 ⟨r3, rfl, hr3, hx3⟩
    go_wp2_with fail
    refine (TN.out _ _ hr3 (hx1.trans (hx2.trans hx3))).mono ?_
    rintro e w4 ⟨rfl, hx4⟩
    unfold tx
    have hsb : nl.length + 1 ≤ 9223372036854775807 := by omega
    have hsb2 : nl.length + 1 + dl.length ≤ 9223372036854775807 := by omega
    clear l1 l2
    go_wp2
    go_ret
    exact ⟨by rw [EZ.out, ← hce.out]; rfl, hx1.trans (hx2.trans (hx3.trans hx4))⟩
  · have EZ : Hid (rtx n d = nl) := Lib.hid (by unfold rtx; rw [if_pos h1, hnl])
    have e1 : dl = [49] := by rw [← hdl, h1]; exact dec_one
    clear hn hd hT hnl hdl l1 l2 h1
    subst e1
    go_enter Tryz.func35, Tryz.ntmps35
    go_wp2_with fail
    refine CD.out.mono ?_
    rintro e w1 ⟨r1, rfl, hr1, hx1⟩
    go_wp2_with fail
    refine (TD.out _ _ hr1 hx1).mono ?_
    rintro e w2 ⟨rfl, hx2⟩
    unfold tx
    go_wp2_with fail
    refine (CN.out _ (hx1.trans hx2)).mono ?_
    rintro e w3 ⟨r3, rfl, hr3, hx3⟩
    go_wp2_with fail
    refine (TN.out _ _ hr3 (hx1.trans (hx2.trans hx3))).mono ?_
    rintro e w4 ⟨rfl, hx4⟩
    go_wp2
    go_ret
    exact ⟨by rw [EZ.out]; rfl, hx1.trans (hx2.trans (hx3.trans hx4))⟩
end Go.Proofs.YtdlcleecjeipnaaGreatDoor
