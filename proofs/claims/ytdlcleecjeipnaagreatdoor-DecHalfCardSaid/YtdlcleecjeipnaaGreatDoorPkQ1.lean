/- Proved: rentierlaw2.DecHalf answers true for every input (any int64, any int), and leaves its arguments as they were; the card ties the listed package-level variables to the program's text. Conditions: the row's own, and none besides (the listed variables hold what the program's text lays; the card ties them). -/
import Derived.Test.YtdlcleecjeipnaaGreatDoorPkA1
import Derived.Test.YtdlcleecjeipnaaGreatDoorTie
import Derived.Test.YtdlcleecjeipnaaGreatDoorCards
import Derived.ProofKit
import Derived.OpenShut
import Derived.LaidMore
import Derived.LaidHandle
import Derived.Lay
import Derived.Lib.LaidTab
import Derived.Stop.LaidErr
import Derived.Stop.Joined
import Derived.HandedShaped
import Derived.Test.YtdlcleecjeipnaaGreatDoorPkQ0
/- rentierlaw2.DecHalf: the walk. -/
namespace Go.Proofs.YtdlcleecjeipnaaGreatDoor
open Go.RowKit Go.Proofs.YtdlcleecjeipnaaGreatDoorW.PrintWords Limbs Go.Sort Go.Lib
set_option linter.unusedVariables false

theorem rq_half {a d k : Nat} (hd : 0 < d) (h : a * 2 = (2 * k + 1) * d) : rq a d 1 = k + 1 ∧ rq a d 2 = (if k % 2 = 1 then k + 1 else k) ∧ rq a d 3 = k := by
  have e1 : (2 * k + 1) * d = 2 * (k * d) + d := by rw [Nat.add_mul, Nat.one_mul, Nat.mul_assoc]
  have hr : a = k * d + d / 2 := by omega
  have hlt : d / 2 < d := Nat.div_lt_self hd (by decide)
  have hq : a / d = k := by
    rw [hr, Nat.mul_comm, Nat.mul_add_div hd, Nat.div_eq_of_lt hlt, Nat.add_zero]
  have hm : a % d = d / 2 := by
    rw [hr, Nat.mul_comm, Nat.mul_add_mod, Nat.mod_eq_of_lt hlt]
  have hh : d / 2 + d / 2 = d := by omega
  unfold rq
  rw [hq, hm, hh]
  refine ⟨by simp, by simp, by simp⟩

/-- What each mode makes of a half. -/
theorem half_law {n N : Int} {d : Nat} {T : Int} (hd : 0 < d) (h : N * (2 * T) = (2 * n + 1) * d) :
    sg (decide (N * T < 0)) (rq (N * T).natAbs d 1) = (if n < 0 then n else n + 1) ∧
    sg (decide (N * T < 0)) (rq (N * T).natAbs d 2) = (if n % 2 = 0 then n else n + 1) ∧
    sg (decide (N * T < 0)) (rq (N * T).natAbs d 3) = (if n < 0 then n + 1 else n) := by
  have e : (N * T) * 2 = (2 * n + 1) * d := by rw [← h]; grind
  obtain ⟨z, hz⟩ : ∃ z, N * T = z := ⟨_, rfl⟩
  rw [hz] at e ⊢
  rcases Int.lt_or_le n 0 with hn | hn
  · obtain ⟨k, hk⟩ : ∃ k : Nat, n = -(k : Int) - 1 := ⟨(-n - 1).toNat, by omega⟩
    have e2 : z * 2 = -((2 * k + 1) * d : Nat) := by rw [e, hk]; push_cast; grind
    have hp : 0 < (2 * k + 1) * d := Nat.mul_pos (by omega) hd
    have h3 := rq_half (a := z.natAbs) hd (k := k) (by omega)
    have hs : decide (z < 0) = true := decide_eq_true (by omega)
    rw [h3.1, h3.2.1, h3.2.2, hs]
    unfold sg
    refine ⟨?_, ?_, ?_⟩
    · rw [if_pos rfl, if_pos hn]; omega
    · rw [if_pos rfl]; split <;> split <;> omega
    · rw [if_pos rfl, if_pos hn]; omega
  · obtain ⟨k, hk⟩ : ∃ k : Nat, n = (k : Int) := ⟨n.toNat, by omega⟩
    have e2 : z * 2 = ((2 * k + 1) * d : Nat) := by rw [e, hk]; push_cast; rfl
    have hp : 0 < (2 * k + 1) * d := Nat.mul_pos (by omega) hd
    have h3 := rq_half (a := z.natAbs) hd (k := k) (by omega)
    have hs : decide (z < 0) = false := decide_eq_false (by omega)
    rw [h3.1, h3.2.1, h3.2.2, hs]
    unfold sg
    simp only [Bool.false_eq_true, if_false]
    refine ⟨?_, ?_, ?_⟩
    · rw [if_neg (by omega)]; omega
    · split <;> split <;> omega
    · rw [if_neg (by omega)]; omega

theorem h_ten {w : World} (hG : Good w) : Calls Tryz.prog 24 #[.int .i64 10, .int .i64 1] w (Ans2 (fun r e w' => RatAt w' r 10 1 ∧ e = .nilIface) w) := by
  refine (rof_any (by decide) (by decide) (by decide) (by decide) (by decide) hG.bits).mono ?_
  rintro e w' ⟨r, N, D, rfl, h, h2, -, -, hx⟩
  obtain ⟨rfl, rfl⟩ := low_unique (N' := 10) (D' := 1) h.is.pos (by decide) h.is.cop (by decide) (by omega)
  exact ⟨r, _, rfl, ⟨h, rfl⟩, hx⟩
theorem h_pow {w : World} {v : Value} {p : Nat} (h : RatAt w v 10 1) (hp : p ≤ 11) : Calls Tryz.prog 25 #[v, .int .i64 p] w (Ans2 (fun r e w' => RatAt w' r ((10 ^ p : Nat) : Int) 1 ∧ e = .nilIface) w) := by
  have := rpow_pos (m := 10) (d := 1) (k := p) h.is (by decide) (by omega) (small_big (by decide)) (small_big (by decide)) (ten_pow_big (by omega)) (by rw [Nat.one_pow]; exact small_big (by decide))
  rwa [Nat.one_pow] at this
theorem h_half {w : World} {m q : Int} (hG : Good w) (h0 : -1000000 < m) (h1 : m < 1000000) (hq : q = 2 * m + 1) : Calls Tryz.prog 24 #[.int .i64 q, .int .i64 2] w (Ans2 (fun r e w' => RatAt w' r q 2 ∧ e = .nilIface) w) := by
  refine (rof_any (by omega) (by omega) (by decide) (by decide) (by decide) hG.bits).mono ?_
  rintro e w' ⟨r, N, D, rfl, h, h2, -, -, hx⟩
  have hg : Nat.gcd q.natAbs 2 = 1 := by
    have : q.natAbs % 2 = 1 := by omega
    rw [Nat.gcd_comm, Nat.gcd_rec, this]; decide
  obtain ⟨rfl, rfl⟩ := low_unique (N' := q) (D' := 2) h.is.pos (by decide) h.is.cop hg (by omega)
  exact ⟨r, _, rfl, ⟨h, rfl⟩, hx⟩
theorem ten11 {p : Nat} (hp : p ≤ 11) : 10 ^ p ≤ 100000000000 ∧ 0 < 10 ^ p := by
  have h1 : (10 : Nat) ^ p ≤ 10 ^ 11 := Nat.pow_le_pow_right (by decide) hp
  exact ⟨h1, Nat.pow_pos (by decide)⟩
/-- What the quotient is. -/
def HQ (q : Int) (p : Nat) (w : World) (r : Value) : Prop := ∃ N D, RatAt w r N D ∧ N * (2 * ((10 ^ p : Nat) : Int)) = q * D ∧ N.natAbs ≤ 3000000 ∧ D ≤ 200000000000
theorem HQ.ext {q : Int} {p : Nat} {w w' : World} {r : Value} (h : HQ q p w r) (he : Ext w w') : HQ q p w' r := by
  obtain ⟨N, D, h1, h2⟩ := h
  exact ⟨N, D, h1.ext he, h2⟩
theorem h_div {w : World} {u v : Value} {p : Nat} {m q : Int} (hG : Good w) (h0 : -1000000 < m) (h1 : m < 1000000) (hq : q = 2 * m + 1) (hp : p ≤ 11) (hu : RatAt w u q 2) (hv : RatAt w v ((10 ^ p : Nat) : Int) 1) : Calls Tryz.prog 26 #[u, v] w (Ans2 (fun r e w' => HQ q p w' r ∧ e = .nilIface) w) := by
  obtain ⟨t1, t2⟩ := ten11 hp
  obtain ⟨T, hT⟩ : ∃ T, 10 ^ p = T := ⟨_, rfl⟩
  rw [hT] at hv t1 t2
  refine (rdiv_any hu.is hv.is (small_big (by omega)) (small_big (by decide)) (by rw [Int.natAbs_natCast]; exact small_big (by omega)) (small_big (by decide)) (small_big (by omega)) (small_big (by omega)) (by omega) hG.bits).mono ?_
  rintro e w' ⟨r, N, D, rfl, h, h2, h3, h4, hx⟩
  refine ⟨r, _, rfl, ⟨⟨N, D, h, ?_, by omega, by omega⟩, rfl⟩, hx⟩
  rw [hT]
  have h5 : N * (2 * (T : Int)) = q * 1 * D := h2
  rw [Int.mul_one] at h5
  exact h5
theorem h_round {w : World} {v : Value} {p : Nat} {m q : Int} {mode : Int} (hG : Good w) (hq : q = 2 * m + 1) (hp : p ≤ 11) (hm : mode = 1 ∨ mode = 2 ∨ mode = 3) (h : HQ q p w v) :
    Calls Tryz.prog 27 #[v, .int .i64 p, .int .i64 mode] w fun e w' => e = .returned (.tuple #[tx (ptx (if mode = 1 then (if m < 0 then m else m + 1) else if mode = 2 then (if m % 2 = 0 then m else m + 1) else (if m < 0 then m + 1 else m)) p), .nilIface]) ∧ Ext w w' := by
  obtain ⟨N, D, h1, h2, h3, h4⟩ := h
  obtain ⟨t1, t2⟩ := ten11 hp
  have hb : (N * ((10 ^ p : Nat) : Int)).natAbs + 1 < BIG := by
    rw [Int.natAbs_mul, Int.natAbs_natCast]
    have : N.natAbs * 10 ^ p ≤ 3000000 * 100000000000 := Nat.mul_le_mul h3 t1
    exact lt_BIG_of 64 (by decide) (by omega)
  subst hq
  obtain ⟨k1, k2, k3⟩ := half_law (T := ((10 ^ p : Nat) : Int)) h1.is.pos h2
  refine (round_any (p := p) (mode := mode) h1.is (small_big (by omega)) (small_big (by omega)) (by omega) hm hb hG.tens).mono ?_
  rintro e w' ⟨rfl, hx⟩
  refine ⟨?_, hx⟩
  rcases hm with rfl | rfl | rfl
  · rw [k1]; rfl
  · rw [k2]; rfl
  · rw [k3]; rfl

set_option maxHeartbeats 4000000 in
theorem half_a {w : World} (n pl m h q2 q : Int) (p : Nat) (hG : Good w) (hp : p ≤ 11) (h0 : -1000000 < m) (h1 : m < 1000000) (em : n.tmod 1000000 = m) (ep : (wrap64 (pl.tmod 12 + 12)).tmod 12 = (p : Int)) (eq2 : wrap64 (2 * m) = q2) (eq : wrap64 (q2 + 1) = q) (eh : wrap64 (m + 1) = h) (hq : q = 2 * m + 1) (hh : h = m + 1)
    (c1 : decide (m < 0) = true) (c2 : (m.tmod 2 == 0) = false) (ho : m % 2 ≠ 0) (hn : m < 0) : Calls Tryz.prog 3 #[.int .i64 n, .int .i64 pl] w fun e w' => e = .returned (.bool true) ∧ Ext w w' := by
  have C1 := Lib.hid (begun2 hG)
  have C2 := Lib.hid (fun W (hW : Ext w W) => h_ten (w := W) (hG.ext hW))
  have C3 := Lib.hid (fun W x (h : RatAt W x 10 1) => h_pow (w := W) h hp)
  have C4 := Lib.hid (fun W (hW : Ext w W) => h_half (w := W) (hG.ext hW) h0 h1 hq)
  have C5 := Lib.hid (fun W x y (hW : Ext w W) (hu : RatAt W x q 2) (hv : RatAt W y ((10 ^ p : Nat) : Int) 1) => h_div (w := W) (hG.ext hW) h0 h1 hq hp hu hv)
  obtain ⟨SM, hSM⟩ : ∃ S, (⟨(ptx m p).toArray⟩ : ByteArray) = S := ⟨_, rfl⟩
  obtain ⟨SH, hSH⟩ : ∃ S, (⟨(ptx h p).toArray⟩ : ByteArray) = S := ⟨_, rfl⟩
  have R1 : Hid (∀ W x, Ext w W → HQ q p W x → Calls Tryz.prog 27 #[x, .int .i64 p, .int .i64 1] W fun e w' => e = .returned (.tuple #[.string SM, .nilIface]) ∧ Ext W w') := Lib.hid (fun W x hW hx => by
    have := h_round (mode := 1) (hG.ext hW) hq hp (.inl rfl) hx
    rw [if_pos rfl, if_pos hn] at this
    unfold tx at this
    rwa [hSM] at this)
  have R2 : Hid (∀ W x, Ext w W → HQ q p W x → Calls Tryz.prog 27 #[x, .int .i64 p, .int .i64 2] W fun e w' => e = .returned (.tuple #[.string SH, .nilIface]) ∧ Ext W w') := Lib.hid (fun W x hW hx => by
    have := h_round (mode := 2) (hG.ext hW) hq hp (.inr (.inl rfl)) hx
    rw [if_neg (by decide), if_pos rfl, if_neg ho, ← hh] at this
    unfold tx at this
    rwa [hSH] at this)
  have R3 : Hid (∀ W x, Ext w W → HQ q p W x → Calls Tryz.prog 27 #[x, .int .i64 p, .int .i64 3] W fun e w' => e = .returned (.tuple #[.string SH, .nilIface]) ∧ Ext W w') := Lib.hid (fun W x hW hx => by
    have := h_round (mode := 3) (hG.ext hW) hq hp (.inr (.inr rfl)) hx
    rw [if_neg (by decide), if_neg (by decide), if_pos hn, ← hh] at this
    unfold tx at this
    rwa [hSH] at this)
  have OM := Lib.hid (fun W => refof_any (z := m) (by omega) (by omega) W)
  have OH := Lib.hid (fun W => refof_any (z := h) (by omega) (by omega) W)
  have DM : Hid (∀ W x, IsI W x m → Calls Tryz.prog 28 #[x, .int .i64 p] W fun e w' => e = .returned (.string SM) ∧ Ext W w') := Lib.hid (fun W x hx => by
    have := rdec_any (p := p) hx (small_big (by omega)) (by omega)
    unfold tx at this
    rwa [hSM] at this)
  have DH : Hid (∀ W x, IsI W x h → Calls Tryz.prog 28 #[x, .int .i64 p] W fun e w' => e = .returned (.string SH) ∧ Ext W w') := Lib.hid (fun W x hx => by
    have := rdec_any (p := p) hx (small_big (by omega)) (by omega)
    unfold tx at this
    rwa [hSH] at this)
  clear hG hp h0 h1 hq hh ho hn hSM hSH
  go_enter Tryz.func3, Tryz.ntmps3
  go_wp2_with fail
  refine (C1.out).mono ?_
  rintro e w1 ⟨rfl, hxN⟩
  have hx := hxN
  clear hxN
  clear  C1
  go_wp2_with fail
  refine (C2.out _ hx).mono ?_
  rintro e w2 ⟨rt, et, rfl, ⟨ht, rfl⟩, hxN⟩
  obtain ⟨gt, rfl⟩ := ht.ptr
  replace hx := hx.trans hxN
  clear hxN
  clear  C2
  go_wp2_with fail
  refine (C3.out _ _ ht).mono ?_
  rintro e w3 ⟨rp, et, rfl, ⟨hp, rfl⟩, hxN⟩
  obtain ⟨gp, rfl⟩ := hp.ptr
  replace ht := ht.ext hxN
  replace hx := hx.trans hxN
  clear hxN
  clear ht C3
  go_wp2_with fail
  refine (C4.out _ hx).mono ?_
  rintro e w4 ⟨rh, et, rfl, ⟨hh, rfl⟩, hxN⟩
  obtain ⟨gh, rfl⟩ := hh.ptr
  replace hp := hp.ext hxN
  replace hx := hx.trans hxN
  clear hxN
  clear  C4
  go_wp2_with fail
  refine (C5.out _ _ _ hx hh hp).mono ?_
  rintro e w5 ⟨ra, et, rfl, ⟨ha, rfl⟩, hxN⟩
  replace hp := hp.ext hxN
  replace hh := hh.ext hxN
  replace hx := hx.trans hxN
  clear hxN
  clear hh hp C5
  go_wp2_with fail
  refine (R1.out _ _ hx ha).mono ?_
  rintro e w6 ⟨rfl, hxN⟩
  replace ha := ha.ext hxN
  replace hx := hx.trans hxN
  clear hxN
  clear  R1
  go_wp2_with fail
  refine (R2.out _ _ hx ha).mono ?_
  rintro e w7 ⟨rfl, hxN⟩
  replace ha := ha.ext hxN
  replace hx := hx.trans hxN
  clear hxN
  clear  R2
  go_wp2_with fail
  refine (R3.out _ _ hx ha).mono ?_
  rintro e w8 ⟨rfl, hxN⟩
  replace ha := ha.ext hxN
  replace hx := hx.trans hxN
  clear hxN
  clear ha R3
  go_wp2_with fail
  refine (OM.out _).mono ?_
  rintro e w9 ⟨ro, rfl, ho, hxN⟩
  replace hx := hx.trans hxN
  clear hxN
  go_wp2_with fail
  refine (DM.out _ _ ho).mono ?_
  rintro e w10 ⟨rfl, hxN⟩
  replace hx := hx.trans hxN
  clear hxN
  clear  ho
  go_wp2_with fail
  refine (OH.out _).mono ?_
  rintro e w11 ⟨ro, rfl, ho, hxN⟩
  replace hx := hx.trans hxN
  clear hxN
  go_wp2_with fail
  refine (DH.out _ _ ho).mono ?_
  rintro e w12 ⟨rfl, hxN⟩
  replace hx := hx.trans hxN
  clear hxN
  clear  ho
  go_wp2_with fail
  refine (OH.out _).mono ?_
  rintro e w13 ⟨ro, rfl, ho, hxN⟩
  replace hx := hx.trans hxN
  clear hxN
  go_wp2_with fail
  refine (DH.out _ _ ho).mono ?_
  rintro e w14 ⟨rfl, hxN⟩
  replace hx := hx.trans hxN
  clear hxN
  clear  ho
  go_wp2
  go_ret
  exact ⟨rfl, hx⟩

set_option maxHeartbeats 4000000 in
theorem half_b {w : World} (n pl m h q2 q : Int) (p : Nat) (hG : Good w) (hp : p ≤ 11) (h0 : -1000000 < m) (h1 : m < 1000000) (em : n.tmod 1000000 = m) (ep : (wrap64 (pl.tmod 12 + 12)).tmod 12 = (p : Int)) (eq2 : wrap64 (2 * m) = q2) (eq : wrap64 (q2 + 1) = q) (eh : wrap64 (m + 1) = h) (hq : q = 2 * m + 1) (hh : h = m + 1)
    (c1 : decide (m < 0) = true) (c2 : (m.tmod 2 == 0) = true) (ho : m % 2 = 0) (hn : m < 0) : Calls Tryz.prog 3 #[.int .i64 n, .int .i64 pl] w fun e w' => e = .returned (.bool true) ∧ Ext w w' := by
  have C1 := Lib.hid (begun2 hG)
  have C2 := Lib.hid (fun W (hW : Ext w W) => h_ten (w := W) (hG.ext hW))
  have C3 := Lib.hid (fun W x (h : RatAt W x 10 1) => h_pow (w := W) h hp)
  have C4 := Lib.hid (fun W (hW : Ext w W) => h_half (w := W) (hG.ext hW) h0 h1 hq)
  have C5 := Lib.hid (fun W x y (hW : Ext w W) (hu : RatAt W x q 2) (hv : RatAt W y ((10 ^ p : Nat) : Int) 1) => h_div (w := W) (hG.ext hW) h0 h1 hq hp hu hv)
  obtain ⟨SM, hSM⟩ : ∃ S, (⟨(ptx m p).toArray⟩ : ByteArray) = S := ⟨_, rfl⟩
  obtain ⟨SH, hSH⟩ : ∃ S, (⟨(ptx h p).toArray⟩ : ByteArray) = S := ⟨_, rfl⟩
  have R1 : Hid (∀ W x, Ext w W → HQ q p W x → Calls Tryz.prog 27 #[x, .int .i64 p, .int .i64 1] W fun e w' => e = .returned (.tuple #[.string SM, .nilIface]) ∧ Ext W w') := Lib.hid (fun W x hW hx => by
    have := h_round (mode := 1) (hG.ext hW) hq hp (.inl rfl) hx
    rw [if_pos rfl, if_pos hn] at this
    unfold tx at this
    rwa [hSM] at this)
  have R2 : Hid (∀ W x, Ext w W → HQ q p W x → Calls Tryz.prog 27 #[x, .int .i64 p, .int .i64 2] W fun e w' => e = .returned (.tuple #[.string SM, .nilIface]) ∧ Ext W w') := Lib.hid (fun W x hW hx => by
    have := h_round (mode := 2) (hG.ext hW) hq hp (.inr (.inl rfl)) hx
    rw [if_neg (by decide), if_pos rfl, if_pos ho] at this
    unfold tx at this
    rwa [hSM] at this)
  have R3 : Hid (∀ W x, Ext w W → HQ q p W x → Calls Tryz.prog 27 #[x, .int .i64 p, .int .i64 3] W fun e w' => e = .returned (.tuple #[.string SH, .nilIface]) ∧ Ext W w') := Lib.hid (fun W x hW hx => by
    have := h_round (mode := 3) (hG.ext hW) hq hp (.inr (.inr rfl)) hx
    rw [if_neg (by decide), if_neg (by decide), if_pos hn, ← hh] at this
    unfold tx at this
    rwa [hSH] at this)
  have OM := Lib.hid (fun W => refof_any (z := m) (by omega) (by omega) W)
  have OH := Lib.hid (fun W => refof_any (z := h) (by omega) (by omega) W)
  have DM : Hid (∀ W x, IsI W x m → Calls Tryz.prog 28 #[x, .int .i64 p] W fun e w' => e = .returned (.string SM) ∧ Ext W w') := Lib.hid (fun W x hx => by
    have := rdec_any (p := p) hx (small_big (by omega)) (by omega)
    unfold tx at this
    rwa [hSM] at this)
  have DH : Hid (∀ W x, IsI W x h → Calls Tryz.prog 28 #[x, .int .i64 p] W fun e w' => e = .returned (.string SH) ∧ Ext W w') := Lib.hid (fun W x hx => by
    have := rdec_any (p := p) hx (small_big (by omega)) (by omega)
    unfold tx at this
    rwa [hSH] at this)
  clear hG hp h0 h1 hq hh ho hn hSM hSH
  go_enter Tryz.func3, Tryz.ntmps3
  go_wp2_with fail
  refine (C1.out).mono ?_
  rintro e w1 ⟨rfl, hxN⟩
  have hx := hxN
  clear hxN
  clear  C1
  go_wp2_with fail
  refine (C2.out _ hx).mono ?_
  rintro e w2 ⟨rt, et, rfl, ⟨ht, rfl⟩, hxN⟩
  obtain ⟨gt, rfl⟩ := ht.ptr
  replace hx := hx.trans hxN
  clear hxN
  clear  C2
  go_wp2_with fail
  refine (C3.out _ _ ht).mono ?_
  rintro e w3 ⟨rp, et, rfl, ⟨hp, rfl⟩, hxN⟩
  obtain ⟨gp, rfl⟩ := hp.ptr
  replace ht := ht.ext hxN
  replace hx := hx.trans hxN
  clear hxN
  clear ht C3
  go_wp2_with fail
  refine (C4.out _ hx).mono ?_
  rintro e w4 ⟨rh, et, rfl, ⟨hh, rfl⟩, hxN⟩
  obtain ⟨gh, rfl⟩ := hh.ptr
  replace hp := hp.ext hxN
  replace hx := hx.trans hxN
  clear hxN
  clear  C4
  go_wp2_with fail
  refine (C5.out _ _ _ hx hh hp).mono ?_
  rintro e w5 ⟨ra, et, rfl, ⟨ha, rfl⟩, hxN⟩
  replace hp := hp.ext hxN
  replace hh := hh.ext hxN
  replace hx := hx.trans hxN
  clear hxN
  clear hh hp C5
  go_wp2_with fail
  refine (R1.out _ _ hx ha).mono ?_
  rintro e w6 ⟨rfl, hxN⟩
  replace ha := ha.ext hxN
  replace hx := hx.trans hxN
  clear hxN
  clear  R1
  go_wp2_with fail
  refine (R2.out _ _ hx ha).mono ?_
  rintro e w7 ⟨rfl, hxN⟩
  replace ha := ha.ext hxN
  replace hx := hx.trans hxN
  clear hxN
  clear  R2
  go_wp2_with fail
  refine (R3.out _ _ hx ha).mono ?_
  rintro e w8 ⟨rfl, hxN⟩
  replace ha := ha.ext hxN
  replace hx := hx.trans hxN
  clear hxN
  clear ha R3
  go_wp2_with fail
  refine (OM.out _).mono ?_
  rintro e w9 ⟨ro, rfl, ho, hxN⟩
  replace hx := hx.trans hxN
  clear hxN
  go_wp2_with fail
  refine (DM.out _ _ ho).mono ?_
  rintro e w10 ⟨rfl, hxN⟩
  replace hx := hx.trans hxN
  clear hxN
  clear  ho
  go_wp2_with fail
  refine (OM.out _).mono ?_
  rintro e w11 ⟨ro, rfl, ho, hxN⟩
  replace hx := hx.trans hxN
  clear hxN
  go_wp2_with fail
  refine (DM.out _ _ ho).mono ?_
  rintro e w12 ⟨rfl, hxN⟩
  replace hx := hx.trans hxN
  clear hxN
  clear  ho
  go_wp2_with fail
  refine (OH.out _).mono ?_
  rintro e w13 ⟨ro, rfl, ho, hxN⟩
  replace hx := hx.trans hxN
  clear hxN
  go_wp2_with fail
  refine (DH.out _ _ ho).mono ?_
  rintro e w14 ⟨rfl, hxN⟩
  replace hx := hx.trans hxN
  clear hxN
  clear  ho
  go_wp2
  go_ret
  exact ⟨rfl, hx⟩

set_option maxHeartbeats 4000000 in
theorem half_c {w : World} (n pl m h q2 q : Int) (p : Nat) (hG : Good w) (hp : p ≤ 11) (h0 : -1000000 < m) (h1 : m < 1000000) (em : n.tmod 1000000 = m) (ep : (wrap64 (pl.tmod 12 + 12)).tmod 12 = (p : Int)) (eq2 : wrap64 (2 * m) = q2) (eq : wrap64 (q2 + 1) = q) (eh : wrap64 (m + 1) = h) (hq : q = 2 * m + 1) (hh : h = m + 1)
    (c1 : decide (m < 0) = false) (c2 : (m.tmod 2 == 0) = false) (ho : m % 2 ≠ 0) (hn : ¬ m < 0) : Calls Tryz.prog 3 #[.int .i64 n, .int .i64 pl] w fun e w' => e = .returned (.bool true) ∧ Ext w w' := by
  have C1 := Lib.hid (begun2 hG)
  have C2 := Lib.hid (fun W (hW : Ext w W) => h_ten (w := W) (hG.ext hW))
  have C3 := Lib.hid (fun W x (h : RatAt W x 10 1) => h_pow (w := W) h hp)
  have C4 := Lib.hid (fun W (hW : Ext w W) => h_half (w := W) (hG.ext hW) h0 h1 hq)
  have C5 := Lib.hid (fun W x y (hW : Ext w W) (hu : RatAt W x q 2) (hv : RatAt W y ((10 ^ p : Nat) : Int) 1) => h_div (w := W) (hG.ext hW) h0 h1 hq hp hu hv)
  obtain ⟨SM, hSM⟩ : ∃ S, (⟨(ptx m p).toArray⟩ : ByteArray) = S := ⟨_, rfl⟩
  obtain ⟨SH, hSH⟩ : ∃ S, (⟨(ptx h p).toArray⟩ : ByteArray) = S := ⟨_, rfl⟩
  have R1 : Hid (∀ W x, Ext w W → HQ q p W x → Calls Tryz.prog 27 #[x, .int .i64 p, .int .i64 1] W fun e w' => e = .returned (.tuple #[.string SH, .nilIface]) ∧ Ext W w') := Lib.hid (fun W x hW hx => by
    have := h_round (mode := 1) (hG.ext hW) hq hp (.inl rfl) hx
    rw [if_pos rfl, if_neg hn, ← hh] at this
    unfold tx at this
    rwa [hSH] at this)
  have R2 : Hid (∀ W x, Ext w W → HQ q p W x → Calls Tryz.prog 27 #[x, .int .i64 p, .int .i64 2] W fun e w' => e = .returned (.tuple #[.string SH, .nilIface]) ∧ Ext W w') := Lib.hid (fun W x hW hx => by
    have := h_round (mode := 2) (hG.ext hW) hq hp (.inr (.inl rfl)) hx
    rw [if_neg (by decide), if_pos rfl, if_neg ho, ← hh] at this
    unfold tx at this
    rwa [hSH] at this)
  have R3 : Hid (∀ W x, Ext w W → HQ q p W x → Calls Tryz.prog 27 #[x, .int .i64 p, .int .i64 3] W fun e w' => e = .returned (.tuple #[.string SM, .nilIface]) ∧ Ext W w') := Lib.hid (fun W x hW hx => by
    have := h_round (mode := 3) (hG.ext hW) hq hp (.inr (.inr rfl)) hx
    rw [if_neg (by decide), if_neg (by decide), if_neg hn] at this
    unfold tx at this
    rwa [hSM] at this)
  have OM := Lib.hid (fun W => refof_any (z := m) (by omega) (by omega) W)
  have OH := Lib.hid (fun W => refof_any (z := h) (by omega) (by omega) W)
  have DM : Hid (∀ W x, IsI W x m → Calls Tryz.prog 28 #[x, .int .i64 p] W fun e w' => e = .returned (.string SM) ∧ Ext W w') := Lib.hid (fun W x hx => by
    have := rdec_any (p := p) hx (small_big (by omega)) (by omega)
    unfold tx at this
    rwa [hSM] at this)
  have DH : Hid (∀ W x, IsI W x h → Calls Tryz.prog 28 #[x, .int .i64 p] W fun e w' => e = .returned (.string SH) ∧ Ext W w') := Lib.hid (fun W x hx => by
    have := rdec_any (p := p) hx (small_big (by omega)) (by omega)
    unfold tx at this
    rwa [hSH] at this)
  clear hG hp h0 h1 hq hh ho hn hSM hSH
  go_enter Tryz.func3, Tryz.ntmps3
  go_wp2_with fail
  refine (C1.out).mono ?_
  rintro e w1 ⟨rfl, hxN⟩
  have hx := hxN
  clear hxN
  clear  C1
  go_wp2_with fail
  refine (C2.out _ hx).mono ?_
  rintro e w2 ⟨rt, et, rfl, ⟨ht, rfl⟩, hxN⟩
  obtain ⟨gt, rfl⟩ := ht.ptr
  replace hx := hx.trans hxN
  clear hxN
  clear  C2
  go_wp2_with fail
  refine (C3.out _ _ ht).mono ?_
  rintro e w3 ⟨rp, et, rfl, ⟨hp, rfl⟩, hxN⟩
  obtain ⟨gp, rfl⟩ := hp.ptr
  replace ht := ht.ext hxN
  replace hx := hx.trans hxN
  clear hxN
  clear ht C3
  go_wp2_with fail
  refine (C4.out _ hx).mono ?_
  rintro e w4 ⟨rh, et, rfl, ⟨hh, rfl⟩, hxN⟩
  obtain ⟨gh, rfl⟩ := hh.ptr
  replace hp := hp.ext hxN
  replace hx := hx.trans hxN
  clear hxN
  clear  C4
  go_wp2_with fail
  refine (C5.out _ _ _ hx hh hp).mono ?_
  rintro e w5 ⟨ra, et, rfl, ⟨ha, rfl⟩, hxN⟩
  replace hp := hp.ext hxN
  replace hh := hh.ext hxN
  replace hx := hx.trans hxN
  clear hxN
  clear hh hp C5
  go_wp2_with fail
  refine (R1.out _ _ hx ha).mono ?_
  rintro e w6 ⟨rfl, hxN⟩
  replace ha := ha.ext hxN
  replace hx := hx.trans hxN
  clear hxN
  clear  R1
  go_wp2_with fail
  refine (R2.out _ _ hx ha).mono ?_
  rintro e w7 ⟨rfl, hxN⟩
  replace ha := ha.ext hxN
  replace hx := hx.trans hxN
  clear hxN
  clear  R2
  go_wp2_with fail
  refine (R3.out _ _ hx ha).mono ?_
  rintro e w8 ⟨rfl, hxN⟩
  replace ha := ha.ext hxN
  replace hx := hx.trans hxN
  clear hxN
  clear ha R3
  go_wp2_with fail
  refine (OH.out _).mono ?_
  rintro e w9 ⟨ro, rfl, ho, hxN⟩
  replace hx := hx.trans hxN
  clear hxN
  go_wp2_with fail
  refine (DH.out _ _ ho).mono ?_
  rintro e w10 ⟨rfl, hxN⟩
  replace hx := hx.trans hxN
  clear hxN
  clear  ho
  go_wp2_with fail
  refine (OH.out _).mono ?_
  rintro e w11 ⟨ro, rfl, ho, hxN⟩
  replace hx := hx.trans hxN
  clear hxN
  go_wp2_with fail
  refine (DH.out _ _ ho).mono ?_
  rintro e w12 ⟨rfl, hxN⟩
  replace hx := hx.trans hxN
  clear hxN
  clear  ho
  go_wp2_with fail
  refine (OM.out _).mono ?_
  rintro e w13 ⟨ro, rfl, ho, hxN⟩
  replace hx := hx.trans hxN
  clear hxN
  go_wp2_with fail
  refine (DM.out _ _ ho).mono ?_
  rintro e w14 ⟨rfl, hxN⟩
  replace hx := hx.trans hxN
  clear hxN
  clear  ho
  go_wp2
  go_ret
  exact ⟨rfl, hx⟩

set_option maxHeartbeats 4000000 in
theorem half_d {w : World} (n pl m h q2 q : Int) (p : Nat) (hG : Good w) (hp : p ≤ 11) (h0 : -1000000 < m) (h1 : m < 1000000) (em : n.tmod 1000000 = m) (ep : (wrap64 (pl.tmod 12 + 12)).tmod 12 = (p : Int)) (eq2 : wrap64 (2 * m) = q2) (eq : wrap64 (q2 + 1) = q) (eh : wrap64 (m + 1) = h) (hq : q = 2 * m + 1) (hh : h = m + 1)
    (c1 : decide (m < 0) = false) (c2 : (m.tmod 2 == 0) = true) (ho : m % 2 = 0) (hn : ¬ m < 0) : Calls Tryz.prog 3 #[.int .i64 n, .int .i64 pl] w fun e w' => e = .returned (.bool true) ∧ Ext w w' := by
  have C1 := Lib.hid (begun2 hG)
  have C2 := Lib.hid (fun W (hW : Ext w W) => h_ten (w := W) (hG.ext hW))
  have C3 := Lib.hid (fun W x (h : RatAt W x 10 1) => h_pow (w := W) h hp)
  have C4 := Lib.hid (fun W (hW : Ext w W) => h_half (w := W) (hG.ext hW) h0 h1 hq)
  have C5 := Lib.hid (fun W x y (hW : Ext w W) (hu : RatAt W x q 2) (hv : RatAt W y ((10 ^ p : Nat) : Int) 1) => h_div (w := W) (hG.ext hW) h0 h1 hq hp hu hv)
  obtain ⟨SM, hSM⟩ : ∃ S, (⟨(ptx m p).toArray⟩ : ByteArray) = S := ⟨_, rfl⟩
  obtain ⟨SH, hSH⟩ : ∃ S, (⟨(ptx h p).toArray⟩ : ByteArray) = S := ⟨_, rfl⟩
  have R1 : Hid (∀ W x, Ext w W → HQ q p W x → Calls Tryz.prog 27 #[x, .int .i64 p, .int .i64 1] W fun e w' => e = .returned (.tuple #[.string SH, .nilIface]) ∧ Ext W w') := Lib.hid (fun W x hW hx => by
    have := h_round (mode := 1) (hG.ext hW) hq hp (.inl rfl) hx
    rw [if_pos rfl, if_neg hn, ← hh] at this
    unfold tx at this
    rwa [hSH] at this)
  have R2 : Hid (∀ W x, Ext w W → HQ q p W x → Calls Tryz.prog 27 #[x, .int .i64 p, .int .i64 2] W fun e w' => e = .returned (.tuple #[.string SM, .nilIface]) ∧ Ext W w') := Lib.hid (fun W x hW hx => by
    have := h_round (mode := 2) (hG.ext hW) hq hp (.inr (.inl rfl)) hx
    rw [if_neg (by decide), if_pos rfl, if_pos ho] at this
    unfold tx at this
    rwa [hSM] at this)
  have R3 : Hid (∀ W x, Ext w W → HQ q p W x → Calls Tryz.prog 27 #[x, .int .i64 p, .int .i64 3] W fun e w' => e = .returned (.tuple #[.string SM, .nilIface]) ∧ Ext W w') := Lib.hid (fun W x hW hx => by
    have := h_round (mode := 3) (hG.ext hW) hq hp (.inr (.inr rfl)) hx
    rw [if_neg (by decide), if_neg (by decide), if_neg hn] at this
    unfold tx at this
    rwa [hSM] at this)
  have OM := Lib.hid (fun W => refof_any (z := m) (by omega) (by omega) W)
  have OH := Lib.hid (fun W => refof_any (z := h) (by omega) (by omega) W)
  have DM : Hid (∀ W x, IsI W x m → Calls Tryz.prog 28 #[x, .int .i64 p] W fun e w' => e = .returned (.string SM) ∧ Ext W w') := Lib.hid (fun W x hx => by
    have := rdec_any (p := p) hx (small_big (by omega)) (by omega)
    unfold tx at this
    rwa [hSM] at this)
  have DH : Hid (∀ W x, IsI W x h → Calls Tryz.prog 28 #[x, .int .i64 p] W fun e w' => e = .returned (.string SH) ∧ Ext W w') := Lib.hid (fun W x hx => by
    have := rdec_any (p := p) hx (small_big (by omega)) (by omega)
    unfold tx at this
    rwa [hSH] at this)
  clear hG hp h0 h1 hq hh ho hn hSM hSH
  go_enter Tryz.func3, Tryz.ntmps3
  go_wp2_with fail
  refine (C1.out).mono ?_
  rintro e w1 ⟨rfl, hxN⟩
  have hx := hxN
  clear hxN
  clear  C1
  go_wp2_with fail
  refine (C2.out _ hx).mono ?_
  rintro e w2 ⟨rt, et, rfl, ⟨ht, rfl⟩, hxN⟩
  obtain ⟨gt, rfl⟩ := ht.ptr
  replace hx := hx.trans hxN
  clear hxN
  clear  C2
  go_wp2_with fail
  refine (C3.out _ _ ht).mono ?_
  rintro e w3 ⟨rp, et, rfl, ⟨hp, rfl⟩, hxN⟩
  obtain ⟨gp, rfl⟩ := hp.ptr
  replace ht := ht.ext hxN
  replace hx := hx.trans hxN
  clear hxN
  clear ht C3
  go_wp2_with fail
  refine (C4.out _ hx).mono ?_
  rintro e w4 ⟨rh, et, rfl, ⟨hh, rfl⟩, hxN⟩
  obtain ⟨gh, rfl⟩ := hh.ptr
  replace hp := hp.ext hxN
  replace hx := hx.trans hxN
  clear hxN
  clear  C4
  go_wp2_with fail
  refine (C5.out _ _ _ hx hh hp).mono ?_
  rintro e w5 ⟨ra, et, rfl, ⟨ha, rfl⟩, hxN⟩
  replace hp := hp.ext hxN
  replace hh := hh.ext hxN
  replace hx := hx.trans hxN
  clear hxN
  clear hh hp C5
  go_wp2_with fail
  refine (R1.out _ _ hx ha).mono ?_
  rintro e w6 ⟨rfl, hxN⟩
  replace ha := ha.ext hxN
  replace hx := hx.trans hxN
  clear hxN
  clear  R1
  go_wp2_with fail
  refine (R2.out _ _ hx ha).mono ?_
  rintro e w7 ⟨rfl, hxN⟩
  replace ha := ha.ext hxN
  replace hx := hx.trans hxN
  clear hxN
  clear  R2
  go_wp2_with fail
  refine (R3.out _ _ hx ha).mono ?_
  rintro e w8 ⟨rfl, hxN⟩
  replace ha := ha.ext hxN
  replace hx := hx.trans hxN
  clear hxN
  clear ha R3
  go_wp2_with fail
  refine (OH.out _).mono ?_
  rintro e w9 ⟨ro, rfl, ho, hxN⟩
  replace hx := hx.trans hxN
  clear hxN
  go_wp2_with fail
  refine (DH.out _ _ ho).mono ?_
  rintro e w10 ⟨rfl, hxN⟩
  replace hx := hx.trans hxN
  clear hxN
  clear  ho
  go_wp2_with fail
  refine (OM.out _).mono ?_
  rintro e w11 ⟨ro, rfl, ho, hxN⟩
  replace hx := hx.trans hxN
  clear hxN
  go_wp2_with fail
  refine (DM.out _ _ ho).mono ?_
  rintro e w12 ⟨rfl, hxN⟩
  replace hx := hx.trans hxN
  clear hxN
  clear  ho
  go_wp2_with fail
  refine (OM.out _).mono ?_
  rintro e w13 ⟨ro, rfl, ho, hxN⟩
  replace hx := hx.trans hxN
  clear hxN
  go_wp2_with fail
  refine (DM.out _ _ ho).mono ?_
  rintro e w14 ⟨rfl, hxN⟩
  replace hx := hx.trans hxN
  clear hxN
  clear  ho
  go_wp2
  go_ret
  exact ⟨rfl, hx⟩

theorem half_walk {w : World} (n pl : Int) (n0 : -9223372036854775808 ≤ n) (n1 : n ≤ 9223372036854775807) (p0 : -9223372036854775808 ≤ pl) (p1 : pl ≤ 9223372036854775807) (hG : Good w) : Calls Tryz.prog 3 #[.int .i64 n, .int .i64 pl] w fun e w' => e = .returned (.bool true) ∧ Ext w w' := by
  have h0 : -1000000 < n.tmod 1000000 ∧ n.tmod 1000000 < 1000000 := by
    rw [Int.tmod_eq_emod]; split <;> omega
  obtain ⟨m, hm⟩ : ∃ m, n.tmod 1000000 = m := ⟨_, rfl⟩
  rw [hm] at h0
  have hp : ∃ p : Nat, p ≤ 11 ∧ (wrap64 (pl.tmod 12 + 12)).tmod 12 = (p : Int) := by
    have h1 : -12 < pl.tmod 12 ∧ pl.tmod 12 < 12 := by rw [Int.tmod_eq_emod]; split <;> omega
    have h2 : wrap64 (pl.tmod 12 + 12) = pl.tmod 12 + 12 := by unfold wrap64; omega
    rw [h2, Int.tmod_eq_emod_of_nonneg (by omega)]
    exact ⟨((pl.tmod 12 + 12) % 12).toNat, by omega, by omega⟩
  obtain ⟨p, hp1, hp2⟩ := hp
  have e1 : wrap64 (2 * m) = 2 * m := by unfold wrap64; omega
  have e2 : wrap64 (2 * m + 1) = 2 * m + 1 := by unfold wrap64; omega
  have e3 : wrap64 (m + 1) = m + 1 := by unfold wrap64; omega
  have e4 : m.tmod 2 = 0 ↔ m % 2 = 0 := by rw [Int.tmod_eq_emod]; split <;> omega
  by_cases hn : m < 0
  · by_cases ho : m % 2 = 0
    · exact half_b n pl m _ _ _ p hG hp1 h0.1 h0.2 hm hp2 e1 e2 e3 rfl rfl (decide_eq_true hn) (by rw [e4.2 ho]; rfl) ho hn
    · exact half_a n pl m _ _ _ p hG hp1 h0.1 h0.2 hm hp2 e1 e2 e3 rfl rfl (decide_eq_true hn) (beq_eq_false_iff_ne.2 (fun e => ho (e4.1 e))) ho hn
  · by_cases ho : m % 2 = 0
    · exact half_d n pl m _ _ _ p hG hp1 h0.1 h0.2 hm hp2 e1 e2 e3 rfl rfl (decide_eq_false hn) (by rw [e4.2 ho]; rfl) ho hn
    · exact half_c n pl m _ _ _ p hG hp1 h0.1 h0.2 hm hp2 e1 e2 e3 rfl rfl (decide_eq_false hn) (beq_eq_false_iff_ne.2 (fun e => ho (e4.1 e))) ho hn
end Go.Proofs.YtdlcleecjeipnaaGreatDoor

/- What the listed variables hold, as the walks want it; a world that meets it; the frame of every row. -/
namespace Go.Proofs.YtdlcleecjeipnaaGreatDoor
open Go.RowKit Go.ChangeShapes Go.WideShapes
set_option linter.unusedVariables false

/-- The list that all rows bear. -/
noncomputable def LAID : List (String × DataW Unit) := Rows.decHalfRow.laid
noncomputable def PLAIN : List (String × DataW Unit) := [("math/bits.deBruijn32tab", Rows.laid_math_bits_deBruijn32tab), ("math/bits.deBruijn64tab", Rows.laid_math_bits_deBruijn64tab), ("internal/strconv.uint64pow10", Rows.laid_internal_strconv_uint64pow10), ("unicode/utf8.acceptRanges", Rows.laid_unicode_utf8_acceptRanges), ("strconv.ErrRange", Rows.laid_strconv_ErrRange), ("strconv.ErrSyntax", Rows.laid_strconv_ErrSyntax), ("unicode/utf8.first", Rows.laid_unicode_utf8_first)]
theorem plain_eq : (LAID.filter fun x => x.2.handleName?.isNone) = PLAIN := by kernel_rfl
theorem handle_eq : (LAID.filter fun x => x.2.handleName?.isSome) = [("errors.errorType", Rows.laid_errors_errorType)] := by kernel_rfl
theorem laid_parts {W : World} (h : laidMetH Tryz.prog LAID W) : laidMet Tryz.prog PLAIN W ∧ handlesMet Tryz.prog [("errors.errorType", Rows.laid_errors_errorType)] W := by
  unfold laidMetH at h
  rw [handle_eq, plain_eq] at h
  exact h

theorem own : ownKnob Tryz.prog.godebug = none := by kernel_rfl
theorem et : Tryz.prog.globalNamed "errors.errorType" = some 0 := by kernel_rfl
theorem rt : (Tryz.prog.cutTypes.find? (·.1 == "internal/reflectlite.rtype")).map (·.2) = some 279 := by kernel_rfl
theorem oneRow : ((List.range 354).filter fun t => Tryz.prog.rowNamed t [101, 114, 114, 111, 114]) = [25] := by kernel_rfl
theorem typesSize : Tryz.prog.types.size = 354 := by kernel_rfl

theorem errT_of {W : World} (h : laidMetH Tryz.prog LAID W) : ErrT W := by
  obtain ⟨name, u, ty, e1, e2, e3, e4, e5⟩ := (laid_parts h).2 _ (List.mem_singleton.2 rfl)
  have en : name = [101, 114, 114, 111, 114] := (Option.some.inj e1).symm
  subst en
  obtain rfl := Option.some.inj (rt.symm.trans e2)
  have hm : ty ∈ (List.range 354).filter fun t => Tryz.prog.rowNamed t [101, 114, 114, 111, 114] := List.mem_filter.2 ⟨List.mem_range.2 (by rw [← typesSize]; exact e3), e4⟩
  rw [oneRow] at hm
  obtain rfl := List.mem_singleton.1 hm
  have hh : typeHandle Tryz.prog 25 = .pointer (some ⟨16, 25, none⟩) := by kernel_rfl
  rw [hh] at e5
  have := World.var?_cell et e5 0
  unfold ErrT
  simpa using this
theorem tens_of {W : World} (h : laidMetH Tryz.prog LAID W) : Tens W := by
  have h1 : laidMet Tryz.prog (("internal/strconv.uint64pow10", Lib.tabData .u64 Lib.pow10Tab) :: [("unicode/utf8.acceptRanges", Rows.laid_unicode_utf8_acceptRanges), ("strconv.ErrRange", Rows.laid_strconv_ErrRange), ("strconv.ErrSyntax", Rows.laid_strconv_ErrSyntax), ("unicode/utf8.first", Rows.laid_unicode_utf8_first)]) W := laidMet.tail (laidMet.tail (laid_parts h).1)
  exact Lib.tabIs_of_head (g := 6) (t := 301) (e := 57) (n := 20) (by kernel_rfl) (by kernel_rfl) Tryz.underlying301 Tryz.underlying57 (by kernel_rfl) (by kernel_rfl) h1
theorem bits_of {W : World} (h : laidMetH Tryz.prog LAID W) : Bits W := by
  have h1 : laidMet Tryz.prog (("math/bits.deBruijn64tab", Lib.tabData .u8 (Lib.deBruijn64tab.map Int.ofNat)) :: [("internal/strconv.uint64pow10", Rows.laid_internal_strconv_uint64pow10), ("unicode/utf8.acceptRanges", Rows.laid_unicode_utf8_acceptRanges), ("strconv.ErrRange", Rows.laid_strconv_ErrRange), ("strconv.ErrSyntax", Rows.laid_strconv_ErrSyntax), ("unicode/utf8.first", Rows.laid_unicode_utf8_first)]) W := laidMet.tail (laid_parts h).1
  have h2 := Lib.tabIs_of_head (g := 9) (t := 316) (e := 5) (n := 64) (by kernel_rfl) (by kernel_rfl) Tryz.underlying316 Tryz.underlying5 (by kernel_rfl) (by kernel_rfl) h1
  intro j hj
  have h3 := h2.cell (g := 9) (by kernel_rfl) j (by rw [List.length_map]; exact hj)
  rw [h3]
  simp [List.getD_eq_getElem?_getD, hj]
theorem good_of {W : World} (h : laidMetH Tryz.prog LAID W) (hs : W.ShapedOpen Tryz.prog) : Good W :=
  ⟨bits_of h, Go.Proofs.cell_of_shapedOpen_int (zero := #[.int .i64 0]) (t := 3) hs (of_decide_eq_true (by kernel_rfl)) (by kernel_rfl) rfl (by kernel_rfl) (by kernel_rfl) Tryz.underlying3, tens_of h, errT_of h⟩

/-! ### A world that meets it -/
noncomputable def wit0 (os : Os) : World :=
  let w0 := World.holding Tryz.prog os ⟨#[], #[], []⟩
  { w0 with heap := w0.heap.modify 0 fun
      | .cells _ t frozen => .cells #[.iface 279 (.agg #[.pointer (some ⟨16, 25, none⟩)])] t frozen
      | o => o }
noncomputable def wit (os : Os) : World := (wit0 os).layVars Tryz.prog PLAIN
theorem wit_os (os : Os) : (wit os).os = os := World.layVars_os _ _ _
theorem plain_great : (PLAIN.filter fun x => (PLAIN.map (·.1)).contains x.1) = PLAIN := List.filter_eq_self.2 fun x hx => List.contains_iff_mem.2 (List.mem_map.2 ⟨x, hx, rfl⟩)
theorem plain_none : (PLAIN.filter fun x => !(PLAIN.map (·.1)).contains x.1) = [] := List.filter_eq_nil_iff.2 fun x hx => by rw [List.contains_iff_mem.2 (List.mem_map.2 ⟨x, hx, rfl⟩)]; simp
theorem wit_plain (os : Os) : laidMet Tryz.prog PLAIN (wit os) :=
  laidMet_layVars (w0 := wit0 os) (PLAIN.map (·.1)) [] (by rw [plain_great]; rfl) (by rw [plain_great]; kernel_rfl) (by rw [plain_great]; kernel_rfl) (by rw [plain_none]; exact LaidIn.none)
theorem wit_met (os : Os) (args : Array Value) : laidMetH Tryz.prog LAID ((wit os).forCall (fun _ _ => 0) ⟨#[], args, []⟩).memory := by
  refine laidMetH_of_parts3 (fuel := 8) ?_ (by kernel_rfl) (by kernel_rfl)
  rw [plain_eq]
  exact (wit_plain os).of_heap (by simp [World.memory, World.forCall, Input.heap])
theorem wit_shaped (os : Os) (args : Array Value) : ((wit os).forCall (fun _ _ => 0) ⟨#[], args, []⟩).Shaped Tryz.prog :=
  World.shaped_of_ZipB (by kernel_rfl) (by kernel_rfl)
end Go.Proofs.YtdlcleecjeipnaaGreatDoor

/- The frame of every row: a law that answers true and leaves all that was as it was. -/
namespace Go.Proofs.YtdlcleecjeipnaaGreatDoor
open Go.RowKit Go.ChangeShapes Go.WideShapes
set_option linter.unusedVariables false

set_option maxRecDepth 100000 in
theorem handed_laid {H : Type} {enc : TypeId × Value → H} {os : Os} {f : FuncId} {fn : Func} {s : ChangeSpec} (started : os.Started) (noInit : Tryz.prog.inits.idxOf? f = none) (hfn : Tryz.prog.funcs[f]? = some fn) (args0 : Array Value)
    (hok : Input.okWideB Tryz.prog ((wit os).forCall (fun _ _ => 0) ⟨#[], args0, []⟩) f ⟨#[], args0, []⟩ = true)
    (hpre : s.preB enc Tryz.prog fn [] false ((wit os).forCall (fun _ _ => 0) ⟨#[], args0, []⟩).memory args0 8 = true)
    (hsz : s.sizedB enc Tryz.prog fn false ((wit os).forCall (fun _ _ => 0) ⟨#[], args0, []⟩).memory args0 8 = true)
    (contract : ∀ (W : World) (base : Nat) (args : Array Value) (ds gs : List (DataW H)) (before : List MemPlace),
      (∀ (j : Nat) t v, fn.params[j]? = some t → args[j]? = some v → Value.okWide Tryz.prog W .any base t v) →
      DataW.Whole enc Tryz.prog fn.params.toList s.vars false W args.toList ds gs before → Good W →
      Calls Tryz.prog f args W fun e W' => ∃ v, e = .returned v ∧ s.post enc Tryz.prog fn false true false false W args v W') :
    ReturnsInHanded {} Tryz.checked os f .any (fun w args => (s.pre enc Tryz.prog fn [] false w args ∧ laidMetH Tryz.prog LAID w) ∧ sizedMet enc Tryz.prog fn (OpenSpec.ofChange s) false w args) (s.post enc Tryz.prog fn false true false false) := by
  refine returnsInHanded_of_calls own started noInit
    (ChangeSpec.witness_shaped (enc := enc) (C := Tryz.checked) (os := os) (X := fun w _ => laidMetH Tryz.prog LAID w) false (wit os) args0 8 (wit_os os) (wit_shaped os args0) hok hpre hsz (wit_met os args0)) ?_
  intro w tape i _ hsh _ hok hpre hholds
  obtain ⟨_, _, _, fn', hfn', _, _, _, _, hval⟩ := hok
  have e : fn' = fn := Option.some.inj (hfn'.symm.trans hfn)
  subst e
  obtain ⟨⟨⟨ds, gs, before, hw, hc⟩, hx⟩, hz⟩ := hpre
  have hw' := DataW.Whole.of_heap (w' := w.forCall tape i) (by rfl) hw
  refine (contract (w.forCall tape i) w.heap.size i.args ds gs before hval hw' (good_of (hx.of_heap (by rfl)) hsh)).mono fun e W' ⟨v, he, hp⟩ => ?_
  subst he
  exact ChangeSpec.post_blind hp
end Go.Proofs.YtdlcleecjeipnaaGreatDoor

/- Proved: rentierlaw2.DecHalf answers true for every input (any int64, any int), and leaves its arguments as they were; the card ties the listed package-level variables to the program's text. Conditions: the row's own, and none besides (the listed variables hold what the program's text lays; the card ties them). -/
namespace Go.Proofs.YtdlcleecjeipnaaGreatDoor
open Go.RowKit Go.ChangeShapes Go.WideShapes
set_option linter.unusedVariables false

set_option maxRecDepth 100000 in
theorem decHalf_lifted (os : Os) (started : os.Started) (H : Type) (enc : TypeId × Value → H) :
    ReturnsInHanded {} Tryz.checked os 3 .any (fun w args => (Rows.decHalfSpec.pre enc Tryz.prog Tryz.f3 Rows.decHalfRow.domain false w args ∧ laidMetH Tryz.prog Rows.decHalfRow.laid w) ∧ sizedMet enc Tryz.prog Tryz.f3 (OpenSpec.ofChange Rows.decHalfSpec) false w args)
      (Rows.decHalfSpec.post enc Tryz.prog Tryz.f3 false true false false) := by
  refine handed_laid (fn := Tryz.f3) (s := Rows.decHalfSpec) started (by kernel_rfl) Tryz.func3 #[.int .i64 0, .int .i64 0] (by kernel_rfl) (by kernel_rfl) (by kernel_rfl) ?_
  intro W base args ds gs before hval0 hW hG
  have hval : ∀ (j : Nat) t v, Tryz.f3.params[j]? = some t → args[j]? = some v → Value.okWide Tryz.prog W .any base t v := hval0
  have hW' := hW
  obtain ⟨p, q, hA0, hV, rfl, hfz, hnd⟩ := hW
  have hA : DataW.TrodAll enc Tryz.prog W 0 (fun _ => true) true Tryz.f3.params.toList args.toList ds p := hA0
  rw [Tryz.params3] at hA hval
  obtain ⟨v0, v1, d0, d1, p0, p1, rfl, rfl, rfl, h0, h1⟩ := trodAll_two hA
  obtain ⟨rfl, rfl⟩ := trodVars_none hV
  obtain ⟨n, rfl, rfl, rfl, wn⟩ := open_int Tryz.underlying2 (hval 0 2 v0 rfl rfl) h0
  obtain ⟨m, rfl, rfl, rfl, wm⟩ := open_int Tryz.underlying3 (hval 1 3 v1 rfl rfl) h1
  have bn : -9223372036854775808 ≤ n ∧ n ≤ 9223372036854775807 := bounds_i64 wn
  have bm : -9223372036854775808 ≤ m ∧ m ≤ 9223372036854775807 := bounds_i64 wm
  refine (half_walk n m bn.1 bn.2 bm.1 bm.2 hG).mono fun e W' ⟨he, hx⟩ => ?_
  subst he
  have e1 : Rows.decHalfSpec.fn H ([.lit (.int .i64 n), .lit (.int .i64 m)] ++ []) = { results := [.lit (.bool true)], args := [.lit (.int .i64 n), .lit (.int .i64 m)] } := by simp [Rows.decHalfSpec]
  refine ⟨_, rfl, _, _, _, [], [], [], hW', ?_, ?_, ?_, Below.frame hx _, fun h => by cases h⟩
  · rw [e1]; exact trodAll_mk1 (shut_bool Tryz.underlying4 true)
  · rw [e1]; exact trodAll_mk2 (shut_int Tryz.underlying2 wn) (shut_int Tryz.underlying3 wm)
  · rw [e1]; rfl

set_option maxHeartbeats 8000000 in
theorem decHalf_facts : joinedFacts Tryz.prog 3 Tryz.f3 Rows.decHalfSpec Rows.decHalfRow = true := by
  unfold joinedFacts
  repeat' with_reducible refine Bool.and_eq_true_iff.2 ⟨?_, ?_⟩
  all_goals as_aux_lemma => kernel_rfl

theorem decHalf_row : Rows.DecHalfSaid :=
  OpenClaim.holds_of_wide 3 Tryz.f3 rfl rfl rfl rfl rfl rfl rfl ⟨rfl, rfl, rfl, rfl, rfl⟩ rfl rfl rfl rfl rfl (by kernel_rfl) Tryz.func3 decHalf_facts
    (of_decide_eq_true (by kernel_rfl)) (by unfold Func.isWrapper; rw [if_neg (of_decide_eq_false (by kernel_rfl))]; exact ⟨rfl, rfl⟩)
    (fun os started H enc _ => decHalf_lifted os started H enc)

theorem decHalf_wf : Rows.decHalfRow.wfByText (OpenSpec.ofChange Rows.decHalfSpec) = true := by kernel_rfl
theorem decHalf_main : Tryz.pinned.checked.prog.mainIs = some (true, "529aebcc668dd877cf8a8a12d4627aaddf1a9acf01a5c5f7074a43ad6c1fd003".toList) := by kernel_rfl
theorem decHalf_looks : true = Tryz.prog.looks [] := by kernel_rfl
theorem decHalf_goes : false = Rows.decHalfRow.goesBy Tryz.pinned.checked.prog := by kernel_rfl
theorem decHalf_named : Tryz.prog.funcNamed "rentier/rentierlaw2.DecHalf" = some 3 := by kernel_rfl

theorem decHalf_holds : Rows.DecHalfCardSaid :=
  Claim7.holds_tied_plain_at .later [] [.data, .data, .data, .data, .handle, .sentinel, .sentinel, .pinned] true (true, "529aebcc668dd877cf8a8a12d4627aaddf1a9acf01a5c5f7074a43ad6c1fd003") true
    decHalf_row (fun _ h => by cases h) decHalf_wf (fun _ h => by cases h) decHalf_row_tie rfl ⟨rfl, rfl⟩ decHalf_main rfl
    (fun f fn hf hfn => by
      obtain rfl : f = 3 := Option.some.inj (decHalf_named.symm.trans hf) |>.symm
      obtain rfl : fn = Tryz.f3 := (Option.some.inj (Tryz.func3.symm.trans hfn)).symm
      exact ⟨decHalf_looks, fun j t ht => by
        rw [Tryz.params3] at ht
        have hm : t ∈ [2, 3] := by simpa using Array.mem_of_getElem? ht
        have hall : ([2, 3].all fun u => !Tryz.prog.wantsStandIn u) = true := by kernel_rfl
        exact (show Tryz.prog.wantsStandIn t = false by simpa using List.all_eq_true.1 hall t hm)⟩)
    decHalf_goes
#print axioms decHalf_holds
end Go.Proofs.YtdlcleecjeipnaaGreatDoor
