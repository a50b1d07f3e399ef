/- What the laws' proofs stand on, part A0. -/
import Derived.Test.YtdlcleecjeipnaaGreatDoorProg
import Derived.Below
import Derived.Deep.Draws
import Derived.Deep.AppendLies
import Derived.Maps.AppendAt
import Derived.OwnWalk
import Derived.Laws.BytesArg
import Derived.Laws.MakeOwn
import Derived.Laws.OwnMore
import Derived.Deep.OwnRows
import Derived.Tactics
import Derived.Lib.ConvBytes
import Derived.Laws.Slices
import Derived.WalkKit
import Derived.KernelRfl
import Derived.RowKit3
import Derived.Deep.LoopGhost
import Derived.Deep.QuietTactic
import Derived.BigQuiet
import Derived.WideLaws
import Derived.Deep.DeepCutAuto
import Derived.Deep.CutBlock
import Derived.Deep.RegionHeld3
import Derived.Laws.Rows
import Derived.Lib.AppendStr
import Derived.ArgAppend
import Derived.Laws.IdiomCopy
import Derived.OrdersHeld
import Derived.Laws.BitsLemmas
import Derived.RowKit
import Derived.Test.YtdlcleecjeipnaaGreatDoorWWords
import Derived.Test.YtdlcleecjeipnaaGreatDoorWLast
import Derived.Test.YtdlcleecjeipnaaGreatDoorWTab
import Derived.Test.YtdlcleecjeipnaaGreatDoorWFour
import Derived.Test.YtdlcleecjeipnaaGreatDoorWQPut
import Derived.Test.YtdlcleecjeipnaaGreatDoorWApart
import Derived.Test.YtdlcleecjeipnaaGreatDoorWArr
import Derived.Test.YtdlcleecjeipnaaGreatDoorWZeros
import Derived.Test.YtdlcleecjeipnaaGreatDoorWFoot
import Derived.Test.YtdlcleecjeipnaaGreatDoorWKept
import Derived.Test.YtdlcleecjeipnaaGreatDoorWShare
import Derived.Test.YtdlcleecjeipnaaGreatDoorWN
import Derived.Test.YtdlcleecjeipnaaGreatDoorWFootNe
import Derived.Test.YtdlcleecjeipnaaGreatDoorWAt
import Derived.Test.YtdlcleecjeipnaaGreatDoorWEqStruct
import Derived.Test.YtdlcleecjeipnaaGreatDoorWRepsOne
import Derived.Test.YtdlcleecjeipnaaGreatDoorWInv
import Derived.Test.YtdlcleecjeipnaaGreatDoorWInvWords
import Derived.Test.YtdlcleecjeipnaaGreatDoorWGuard
import Derived.Test.YtdlcleecjeipnaaGreatDoorWNEv
import Derived.Test.YtdlcleecjeipnaaGreatDoorWMore
import Derived.Handy
import Derived.Lib.Hide
import Derived.Lib.ItoaNum
import Derived.Laws.Externs
import Derived.Shelf.Strings.Builder1
import Derived.Shelf.Strings.Builder2
import Derived.Shelf.Small.Utf8
import Derived.Shelf.Small.Bits
import Derived.Shelf.Small.Strs
import Derived.Shelf.Strconv.Itoa0
import Derived.Shelf.Strconv.Itoa1
import Derived.Shelf.LaysM
import Derived.Shelf.Strconv.Itoa2
import Derived.Shelf.Strconv.Itoa3
import Derived.Shelf.Strings.Search1
import Derived.Shelf.Strings.Search2
import Derived.Shelf.Strings.Cut
import Derived.Shelf.Strings.Shaped
import Derived.Shelf.Unicode.Decode
import Derived.Shelf.Strings.Runes
import Derived.Shelf.Strings.AsciiSet
import Derived.Shelf.Bits.Mul64
import Derived.Shelf.Unicode.DecodeSlow
import Derived.Shelf.Unicode.DecodeAny
import Derived.Shelf.Unicode.DecodeLast
import Derived.Ground.Names2Prog
import Derived.Shelf.Slices.ReverseS
import Derived.Shelf.Slices.Cells
import Derived.Ground.SlgnProg
import Derived.Shelf.SlicesE.Clone
import Derived.StillTailTactics
import Derived.BigRegion
-- PRINTED by print.py out of the translation, by the session's own call, and taken apart by split.py. Not trusted: Lean checks it.
namespace Go.Proofs.YtdlcleecjeipnaaGreatDoor.PAll
open Go.RowKit Go.Proofs.YtdlcleecjeipnaaGreatDoorW.PrintWords Go.Proofs.YtdlcleecjeipnaaGreatDoorW.PrintLast Go.Proofs.YtdlcleecjeipnaaGreatDoorW.PrintMore
attribute [local go_sem] max2_int min2_int max_two min_two max_three min_three max_four min_four   -- for this text's walks alone
set_option linter.unusedVariables false
set_option linter.unusedSimpArgs false



def errW : Option Int → Value
  | none => .nilIface
  | some c => .iface 199 (.int .i64 c)
theorem errW_none : errW none = .nilIface := rfl
theorem errW_some (c : Int) : errW (some c) = .iface 199 (.int .i64 c) := rfl

theorem info3 : (Tryz.prog.info? 3).map (fun i => (i.zero, i.size, i.bytes)) = some (some (.int .i64 0), 1, 8) := by kernel_rfl
theorem info5 : (Tryz.prog.info? 5).map (fun i => (i.zero, i.size, i.bytes)) = some (some (.int .u8 0), 1, 1) := by kernel_rfl
theorem info57 : (Tryz.prog.info? 57).map (fun i => (i.zero, i.size, i.bytes)) = some (some (.int .u64 0), 1, 8) := by kernel_rfl
theorem info86 : (Tryz.prog.info? 86).map (fun i => (i.zero, i.size, i.bytes)) = some (some (.agg #[(.int .i64 0), (.int .i64 0), (.int .i64 0), (.int .i64 0), (.int .i64 0), (.bool false)]), 6, 48) := by kernel_rfl
-- the values' own types
/-! #### struct type 86 -/
structure S86 where
  f0 : Int
  f1 : Int
  f2 : Int
  f3 : Int
  f4 : Int
  f5 : Bool
def z86 : S86 := ⟨(0 : Int), (0 : Int), (0 : Int), (0 : Int), (0 : Int), false⟩
def k86 : Kd S86 := Kd.iso (Kd.pair (Kd.int .i64) (Kd.pair (Kd.int .i64) (Kd.pair (Kd.int .i64) (Kd.pair (Kd.int .i64) (Kd.pair (Kd.int .i64) Kd.bool))))) (fun x : S86 => (x.f0, x.f1, x.f2, x.f3, x.f4, x.f5))
theorem k86_open {w : World} {x : S86} {cs : List Value} (h : k86.K w x cs) : cs = [.int .i64 x.f0, .int .i64 x.f1, .int .i64 x.f2, .int .i64 x.f3, .int .i64 x.f4, .bool x.f5] := by
  obtain ⟨_, _, rfl, rfl, ⟨_, _, rfl, rfl, ⟨_, _, rfl, rfl, ⟨_, _, rfl, rfl, ⟨_, _, rfl, rfl, rfl⟩⟩⟩⟩⟩ := h
  exact rfl
theorem k86_openM {w : World} {base : Nat} {ok : Nat → Prop} {x : S86} {cs : List Value} (h : k86.M w base ok x cs) : cs = [.int .i64 x.f0, .int .i64 x.f1, .int .i64 x.f2, .int .i64 x.f3, .int .i64 x.f4, .bool x.f5] := by
  obtain ⟨_, _, rfl, rfl, ⟨_, _, rfl, rfl, ⟨_, _, rfl, rfl, ⟨_, _, rfl, rfl, ⟨_, _, rfl, rfl, rfl⟩⟩⟩⟩⟩ := h
  exact rfl
theorem k86_mk (w : World) (x : S86)  : k86.K w x [.int .i64 x.f0, .int .i64 x.f1, .int .i64 x.f2, .int .i64 x.f3, .int .i64 x.f4, .bool x.f5] := ⟨[.int .i64 x.f0], [.int .i64 x.f1, .int .i64 x.f2, .int .i64 x.f3, .int .i64 x.f4, .bool x.f5], rfl, rfl, ⟨[.int .i64 x.f1], [.int .i64 x.f2, .int .i64 x.f3, .int .i64 x.f4, .bool x.f5], rfl, rfl, ⟨[.int .i64 x.f2], [.int .i64 x.f3, .int .i64 x.f4, .bool x.f5], rfl, rfl, ⟨[.int .i64 x.f3], [.int .i64 x.f4, .bool x.f5], rfl, rfl, ⟨[.int .i64 x.f4], [.bool x.f5], rfl, rfl, rfl⟩⟩⟩⟩⟩
theorem k86_mkM (w : World) (base : Nat) (ok : Nat → Prop) (x : S86)  : k86.M w base ok x [.int .i64 x.f0, .int .i64 x.f1, .int .i64 x.f2, .int .i64 x.f3, .int .i64 x.f4, .bool x.f5] := ⟨[.int .i64 x.f0], [.int .i64 x.f1, .int .i64 x.f2, .int .i64 x.f3, .int .i64 x.f4, .bool x.f5], rfl, rfl, ⟨[.int .i64 x.f1], [.int .i64 x.f2, .int .i64 x.f3, .int .i64 x.f4, .bool x.f5], rfl, rfl, ⟨[.int .i64 x.f2], [.int .i64 x.f3, .int .i64 x.f4, .bool x.f5], rfl, rfl, ⟨[.int .i64 x.f3], [.int .i64 x.f4, .bool x.f5], rfl, rfl, ⟨[.int .i64 x.f4], [.bool x.f5], rfl, rfl, rfl⟩⟩⟩⟩⟩
theorem k86_mkF (W : World) (ok : Nat → Prop) (x : S86) : Kd.FK k86 W ok x [.int .i64 x.f0, .int .i64 x.f1, .int .i64 x.f2, .int .i64 x.f3, .int .i64 x.f4, .bool x.f5] := fun W2 _ => k86_mk W2 x
def rd_T86 (xs : List S86) (i : Int) : S86 := xs.getD i.toNat z86
theorem at_T86 {w : World} {A : Option Addr} {n : Nat} {xs : List S86} (h : Kd.C k86 w A n xs) (i : Int) (h0 : 0 ≤ i) (h1 : i < n) : ∃ ad , A = some ad ∧ w.cell? (ad.add (i.toNat * 6)) = some (.int .i64 (rd_T86 xs i).f0) ∧ w.cell? ⟨(ad.add (i.toNat * 6)).block, (ad.add (i.toNat * 6)).off + 1, none⟩ = some (.int .i64 (rd_T86 xs i).f1) ∧ w.cell? ⟨(ad.add (i.toNat * 6)).block, (ad.add (i.toNat * 6)).off + 2, none⟩ = some (.int .i64 (rd_T86 xs i).f2) ∧ w.cell? ⟨(ad.add (i.toNat * 6)).block, (ad.add (i.toNat * 6)).off + 3, none⟩ = some (.int .i64 (rd_T86 xs i).f3) ∧ w.cell? ⟨(ad.add (i.toNat * 6)).block, (ad.add (i.toNat * 6)).off + 4, none⟩ = some (.int .i64 (rd_T86 xs i).f4) ∧ w.cell? ⟨(ad.add (i.toNat * 6)).block, (ad.add (i.toNat * 6)).off + 5, none⟩ = some (.bool (rd_T86 xs i).f5) := by
  obtain ⟨ad, c, e, _, hK, hc0⟩ := Kd.C_get h z86 i h0 h1
  have hc : ∀ j u, c[j]? = some u → w.cell? (ad.add (i.toNat * 6 + j)) = some u := hc0
  obtain rfl := k86_open hK
  exact ⟨ad, e, hc 0 _ rfl, by rw [← add_field _ _ 1 (by omega)]; exact hc 1 _ rfl, by rw [← add_field _ _ 2 (by omega)]; exact hc 2 _ rfl, by rw [← add_field _ _ 3 (by omega)]; exact hc 3 _ rfl, by rw [← add_field _ _ 4 (by omega)]; exact hc 4 _ rfl, by rw [← add_field _ _ 5 (by omega)]; exact hc 5 _ rfl⟩

def rd_L6 (xs : List (List S86)) (i : Int) : (List S86) := xs.getD i.toNat ([] : List S86)
theorem at_L6 {w : World} {A : Option Addr} {n : Nat} {xs : List (List S86)} (h : Kd.C (Kd.slice 86 k86) w A n xs) (i : Int) (h0 : 0 ≤ i) (h1 : i < n) : ∃ ad A0 c0, A = some ad ∧ w.cell? (ad.add i.toNat) = some (.slice A0 (rd_L6 xs i).length c0) ∧ (rd_L6 xs i).length ≤ c0 ∧ k86.C w A0 (rd_L6 xs i).length (rd_L6 xs i) := by
  obtain ⟨ad, c, e, _, hK, hc0⟩ := Kd.C_get h ([] : List S86) i h0 h1
  have hc : ∀ j u, c[j]? = some u → w.cell? (ad.add (i.toNat * 1 + j)) = some u := hc0
  obtain ⟨A0, c0, rfl, l0, g0⟩ := hK
  exact ⟨ad, A0, c0, e, by have hq := hc 0 _ rfl; rwa [Nat.mul_one, Nat.add_zero] at hq, l0, g0⟩

def rd_L7 (xs : List (List Int)) (i : Int) : (List Int) := xs.getD i.toNat ([] : List Int)
theorem at_L7 {w : World} {A : Option Addr} {n : Nat} {xs : List (List Int)} (h : Kd.C (Kd.slice 3 (Kd.int .i64)) w A n xs) (i : Int) (h0 : 0 ≤ i) (h1 : i < n) : ∃ ad A0 c0, A = some ad ∧ w.cell? (ad.add i.toNat) = some (.slice A0 (rd_L7 xs i).length c0) ∧ (rd_L7 xs i).length ≤ c0 ∧ (Kd.int .i64).C w A0 (rd_L7 xs i).length (rd_L7 xs i) := by
  obtain ⟨ad, c, e, _, hK, hc0⟩ := Kd.C_get h ([] : List Int) i h0 h1
  have hc : ∀ j u, c[j]? = some u → w.cell? (ad.add (i.toNat * 1 + j)) = some u := hc0
  obtain ⟨A0, c0, rfl, l0, g0⟩ := hK
  exact ⟨ad, A0, c0, e, by have hq := hc 0 _ rfl; rwa [Nat.mul_one, Nat.add_zero] at hq, l0, g0⟩

/-! #### struct type 92 -/
structure S92 where
  f0 : (List S86)
  f1 : (List Int)
def z92 : S92 := ⟨([] : List S86), ([] : List Int)⟩
def k92 : Kd S92 := Kd.iso (Kd.pair (Kd.slice 86 k86) (Kd.slice 3 (Kd.int .i64))) (fun x : S92 => (x.f0, x.f1))
theorem k92_open {w : World} {x : S92} {cs : List Value} (h : k92.K w x cs) : ∃ A0 c0 A1 c1, cs = [.slice A0 x.f0.length c0, .slice A1 x.f1.length c1] ∧ x.f0.length ≤ c0 ∧ k86.C w A0 x.f0.length x.f0 ∧ x.f1.length ≤ c1 ∧ (Kd.int .i64).C w A1 x.f1.length x.f1 := by
  obtain ⟨_, _, rfl, ⟨A0, c0, rfl, l0, g0⟩, ⟨A1, c1, rfl, l1, g1⟩⟩ := h
  exact ⟨A0, c0, A1, c1, rfl, l0, g0, l1, g1⟩
theorem k92_openM {w : World} {base : Nat} {ok : Nat → Prop} {x : S92} {cs : List Value} (h : k92.M w base ok x cs) : ∃ v0 v1, cs = [v0, v1] ∧ k86.R 86 w base ok v0 x.f0 ∧ (Kd.int .i64).R 3 w base ok v1 x.f1 := by
  obtain ⟨_, _, rfl, ⟨v0, rfl, g0⟩, ⟨v1, rfl, g1⟩⟩ := h
  exact ⟨v0, v1, rfl, g0, g1⟩
theorem k92_mk (w : World) (x : S92) {A0 : Option Addr} {c0 : Nat} (l0 : x.f0.length ≤ c0) (g0 : k86.C w A0 x.f0.length x.f0) {A1 : Option Addr} {c1 : Nat} (l1 : x.f1.length ≤ c1) (g1 : (Kd.int .i64).C w A1 x.f1.length x.f1) : k92.K w x [.slice A0 x.f0.length c0, .slice A1 x.f1.length c1] := ⟨[.slice A0 x.f0.length c0], [.slice A1 x.f1.length c1], rfl, ⟨A0, c0, rfl, l0, g0⟩, ⟨A1, c1, rfl, l1, g1⟩⟩
theorem k92_mkM (w : World) (base : Nat) (ok : Nat → Prop) (x : S92) {v0 : Value} (g0 : k86.R 86 w base ok v0 x.f0) {v1 : Value} (g1 : (Kd.int .i64).R 3 w base ok v1 x.f1) : k92.M w base ok x [v0, v1] := ⟨[v0], [v1], rfl, ⟨v0, rfl, g0⟩, ⟨v1, rfl, g1⟩⟩
theorem k92_openF {W : World} {ok : Nat → Prop} {x : S92} {cs : List Value} (h : Kd.FK k92 W ok x cs) : ∃ A0 c0 A1 c1, cs = [.slice A0 x.f0.length c0, .slice A1 x.f1.length c1] ∧ x.f0.length ≤ c0 ∧ Kd.F k86 W ok A0 x.f0.length x.f0 ∧ x.f1.length ≤ c1 ∧ Kd.F (Kd.int .i64) W ok A1 x.f1.length x.f1 := by
  obtain ⟨A0, c0, A1, c1, rfl, l0, _, l1, _⟩ := k92_open (Kd.FK_now h)
  exact ⟨A0, c0, A1, c1, rfl, l0, (fun W' hW => by obtain ⟨A0_, c0_, A1_, c1_, he, l0_, g0_, l1_, g1_⟩ := k92_open (h W' hW); injection (Option.some.inj (show some (Value.slice A0 x.f0.length c0) = some (Value.slice A0_ x.f0.length c0_) from congrArg (fun l => l[0]?) he)) with ha_ _ _; rw [ha_]; exact g0_), l1, (fun W' hW => by obtain ⟨A0_, c0_, A1_, c1_, he, l0_, g0_, l1_, g1_⟩ := k92_open (h W' hW); injection (Option.some.inj (show some (Value.slice A1 x.f1.length c1) = some (Value.slice A1_ x.f1.length c1_) from congrArg (fun l => l[1]?) he)) with ha_ _ _; rw [ha_]; exact g1_)⟩
theorem k92_mkF (W : World) (ok : Nat → Prop) (x : S92) {A0 : Option Addr} {c0 : Nat} (l0 : x.f0.length ≤ c0) (g0 : Kd.F k86 W ok A0 x.f0.length x.f0) {A1 : Option Addr} {c1 : Nat} (l1 : x.f1.length ≤ c1) (g1 : Kd.F (Kd.int .i64) W ok A1 x.f1.length x.f1) : Kd.FK k92 W ok x [.slice A0 x.f0.length c0, .slice A1 x.f1.length c1] := fun W2 hW => k92_mk W2 x l0 (g0 W2 hW) l1 (g1 W2 hW)
def rd_T92 (xs : List S92) (i : Int) : S92 := xs.getD i.toNat z92
theorem at_T92 {w : World} {A : Option Addr} {n : Nat} {xs : List S92} (h : Kd.C k92 w A n xs) (i : Int) (h0 : 0 ≤ i) (h1 : i < n) : ∃ ad A0 c0 A1 c1, A = some ad ∧ w.cell? (ad.add (i.toNat * 2)) = some (.slice A0 (rd_T92 xs i).f0.length c0) ∧ w.cell? ⟨(ad.add (i.toNat * 2)).block, (ad.add (i.toNat * 2)).off + 1, none⟩ = some (.slice A1 (rd_T92 xs i).f1.length c1) ∧ (rd_T92 xs i).f0.length ≤ c0 ∧ k86.C w A0 (rd_T92 xs i).f0.length (rd_T92 xs i).f0 ∧ (rd_T92 xs i).f1.length ≤ c1 ∧ (Kd.int .i64).C w A1 (rd_T92 xs i).f1.length (rd_T92 xs i).f1 := by
  obtain ⟨ad, c, e, _, hK, hc0⟩ := Kd.C_get h z92 i h0 h1
  have hc : ∀ j u, c[j]? = some u → w.cell? (ad.add (i.toNat * 2 + j)) = some u := hc0
  obtain ⟨A0, c0, A1, c1, rfl, l0, g0, l1, g1⟩ := k92_open hK
  exact ⟨ad, A0, c0, A1, c1, e, hc 0 _ rfl, by rw [← add_field _ _ 1 (by omega)]; exact hc 1 _ rfl, l0, g0, l1, g1⟩
end Go.Proofs.YtdlcleecjeipnaaGreatDoor.PAll

/- Plain arithmetic of digit lists: a list of digits, the lowest first, to a base b, and the number that it stands for. No program and no memory in it. -/
namespace Go.Proofs.YtdlcleecjeipnaaGreatDoor.Limbs

/-- The number that a list of digits stands for. -/
def val (b : Int) : List Int → Int
  | [] => 0
  | x :: xs => x + b * val b xs

/-- Each one is a digit. -/
def Dig (b : Int) (xs : List Int) : Prop := ∀ x ∈ xs, 0 ≤ x ∧ x < b

/-- No nought at the end. -/
def Nrm (xs : List Int) : Prop := ∀ x, xs.getLast? = some x → x ≠ 0

theorem val_nil (b : Int) : val b [] = 0 := rfl
theorem val_cons (b x : Int) (xs : List Int) : val b (x :: xs) = x + b * val b xs := rfl

theorem val_append (b : Int) (xs ys : List Int) : val b (xs ++ ys) = val b xs + b ^ xs.length * val b ys := by
  induction xs with
  | nil => simp [val]
  | cons x xs ih => simp only [List.cons_append, val, ih, List.length_cons, Int.pow_succ]; grind

theorem val_single (b x : Int) : val b [x] = x := by simp [val]

theorem val_snoc (b x : Int) (xs : List Int) : val b (xs ++ [x]) = val b xs + b ^ xs.length * x := by
  rw [val_append, val_single]

theorem Dig.nil (b : Int) : Dig b [] := by intro x hx; cases hx
theorem Dig.cons {b x : Int} {xs : List Int} (h0 : 0 ≤ x) (h1 : x < b) (h : Dig b xs) : Dig b (x :: xs) := by
  intro y hy
  rcases List.mem_cons.1 hy with rfl | hy
  · exact ⟨h0, h1⟩
  · exact h y hy
theorem Dig.head {b x : Int} {xs : List Int} (h : Dig b (x :: xs)) : 0 ≤ x ∧ x < b := h x (by simp)
theorem Dig.tail {b x : Int} {xs : List Int} (h : Dig b (x :: xs)) : Dig b xs := fun y hy => h y (by simp [hy])
theorem Dig.append {b : Int} {xs ys : List Int} (h : Dig b xs) (k : Dig b ys) : Dig b (xs ++ ys) := by
  intro y hy
  rcases List.mem_append.1 hy with hy | hy
  · exact h y hy
  · exact k y hy
theorem Dig.take {b : Int} {xs : List Int} (h : Dig b xs) (n : Nat) : Dig b (xs.take n) := fun y hy => h y (List.mem_of_mem_take hy)
theorem Dig.drop {b : Int} {xs : List Int} (h : Dig b xs) (n : Nat) : Dig b (xs.drop n) := fun y hy => h y (List.mem_of_mem_drop hy)
theorem Dig.set {b v : Int} {xs : List Int} (h : Dig b xs) (n : Nat) (h0 : 0 ≤ v) (h1 : v < b) : Dig b (xs.set n v) := by
  intro y hy
  rcases List.mem_or_eq_of_mem_set hy with hy | rfl
  · exact h y hy
  · exact ⟨h0, h1⟩
theorem Dig.replicate {b : Int} (hb : 0 < b) (n : Nat) : Dig b (List.replicate n 0) := by
  intro y hy
  have := (List.mem_replicate.1 hy).2
  omega
theorem Dig.get {b : Int} {xs : List Int} (h : Dig b xs) (n : Nat) (hb : 0 < b) : 0 ≤ xs.getD n 0 ∧ xs.getD n 0 < b := by
  rcases Nat.lt_or_ge n xs.length with hl | hl
  · rw [List.getD_eq_getElem?_getD, List.getElem?_eq_getElem hl]
    exact h _ (List.getElem_mem hl)
  · rw [List.getD_eq_getElem?_getD, List.getElem?_eq_none hl]
    exact ⟨Int.le_refl _, hb⟩

theorem val_nonneg {b : Int} (hb : 0 < b) {xs : List Int} (h : Dig b xs) : 0 ≤ val b xs := by
  induction xs with
  | nil => simp [val]
  | cons x xs ih =>
    have h1 := Int.mul_nonneg (Int.le_of_lt hb) (ih h.tail)
    have := h.head
    simp only [val]; omega

theorem val_lt {b : Int} (hb : 0 < b) {xs : List Int} (h : Dig b xs) : val b xs < b ^ xs.length := by
  induction xs with
  | nil => simp [val]
  | cons x xs ih =>
    have h1 := ih h.tail
    have h2 := h.head
    have h3 : b * (val b xs + 1) ≤ b * b ^ xs.length := Int.mul_le_mul_of_nonneg_left (by omega) (Int.le_of_lt hb)
    simp only [val, List.length_cons, Int.pow_succ]
    have h4 : b * (val b xs + 1) = b * val b xs + b := by grind
    have h5 : b ^ xs.length * b = b * b ^ xs.length := Int.mul_comm _ _
    omega

theorem pow_pos {b : Int} (hb : 0 < b) (n : Nat) : 0 < b ^ n := by
  induction n with
  | zero => simp
  | succ n ih => rw [Int.pow_succ]; exact Int.mul_pos ih hb

theorem val_replicate (b : Int) (n : Nat) : val b (List.replicate n 0) = 0 := by
  induction n with
  | zero => rfl
  | succ n ih => simp [List.replicate_succ, val, ih]

theorem val_take_drop (b : Int) (xs : List Int) (i : Nat) (hi : i ≤ xs.length) : val b xs = val b (xs.take i) + b ^ i * val b (xs.drop i) := by
  have h := val_append b (xs.take i) (xs.drop i)
  rw [List.take_append_drop, List.length_take, Nat.min_eq_left hi] at h
  exact h

theorem val_take_succ (b : Int) (xs : List Int) (i : Nat) (hi : i < xs.length) : val b (xs.take (i + 1)) = val b (xs.take i) + b ^ i * xs.getD i 0 := by
  rw [List.take_succ_eq_append_getElem hi, val_snoc, List.length_take, Nat.min_eq_left (by omega), List.getD_eq_getElem?_getD, List.getElem?_eq_getElem hi]; rfl

theorem val_drop (b : Int) (xs : List Int) (i : Nat) (hi : i < xs.length) : val b (xs.drop i) = xs.getD i 0 + b * val b (xs.drop (i + 1)) := by
  rw [List.drop_eq_getElem_cons hi, val_cons, List.getD_eq_getElem?_getD, List.getElem?_eq_getElem hi]; rfl

theorem val_set (b v : Int) (xs : List Int) (i : Nat) (hi : i < xs.length) : val b (xs.set i v) = val b xs + b ^ i * (v - xs.getD i 0) := by
  induction xs generalizing i with
  | nil => simp at hi
  | cons x xs ih =>
    cases i with
    | zero => simp [val]; omega
    | succ i =>
      simp only [List.set_cons_succ, val, List.getD_cons_succ]
      rw [ih i (by simpa using hi), Int.pow_succ]
      grind

theorem take_set_le (xs : List Int) (i n : Nat) (v : Int) (h : n ≤ i) : (xs.set i v).take n = xs.take n := by
  rw [List.take_set, List.set_eq_of_length_le]
  rw [List.length_take]; omega

theorem val_take_set (b v : Int) (xs : List Int) (i : Nat) (hi : i < xs.length) : val b ((xs.set i v).take (i + 1)) = val b (xs.take i) + b ^ i * v := by
  rw [val_take_succ b _ i (by simpa using hi), take_set_le _ _ _ _ (Nat.le_refl _)]
  congr 2
  simp [List.getD_eq_getElem?_getD, hi]

theorem drop_set_lt (xs : List Int) (i n : Nat) (v : Int) (h : i < n) : (xs.set i v).drop n = xs.drop n := by
  rw [List.drop_set, if_pos h]

theorem getD_set_ne (xs : List Int) (i j : Nat) (v : Int) (h : i ≠ j) : (xs.set i v).getD j 0 = xs.getD j 0 := by
  simp [List.getD_eq_getElem?_getD, List.getElem?_set_ne h]
theorem getD_set_eq (xs : List Int) (i : Nat) (v : Int) (h : i < xs.length) : (xs.set i v).getD i 0 = v := by
  simp [List.getD_eq_getElem?_getD, h]

/-- A normal number is not below the power under its highest digit. -/
theorem val_ge {b : Int} (hb : 0 < b) {xs : List Int} (h : Dig b xs) (hn : Nrm xs) (hl : xs ≠ []) : b ^ (xs.length - 1) ≤ val b xs := by
  obtain ⟨ys, y, rfl⟩ : ∃ ys y, xs = ys ++ [y] := ⟨_, _, (List.dropLast_concat_getLast hl).symm⟩
  have hy : y ≠ 0 := hn y (by simp)
  have hy2 := h y (by simp)
  have h0 := val_nonneg hb (fun z hz => h z (by simp [hz]) : Dig b ys)
  have h1 : b ^ ys.length * 1 ≤ b ^ ys.length * y := Int.mul_le_mul_of_nonneg_left (by omega) (Int.le_of_lt (pow_pos hb _))
  rw [val_snoc]
  simp
  omega

theorem pow_le_pow {b : Int} (hb : 0 < b) {m n : Nat} (h : m ≤ n) : b ^ m ≤ b ^ n := by
  obtain ⟨k, rfl⟩ : ∃ k, n = m + k := ⟨n - m, by omega⟩
  rw [Int.pow_add]
  have h1 : b ^ m * 1 ≤ b ^ m * b ^ k := Int.mul_le_mul_of_nonneg_left (by have := pow_pos hb k; omega) (Int.le_of_lt (pow_pos hb m))
  omega

/-- More digits, a greater number. -/
theorem val_lt_of_length {b : Int} (hb : 0 < b) {xs ys : List Int} (hx : Dig b xs) (hy : Dig b ys) (hn : Nrm ys) (h : xs.length < ys.length) : val b xs < val b ys := by
  have h1 := val_lt hb hx
  have h2 := val_ge hb hy hn (by rintro rfl; simp at h)
  have h3 : b ^ xs.length ≤ b ^ (ys.length - 1) := pow_le_pow hb (by omega)
  omega

theorem val_zero_iff {b : Int} (hb : 0 < b) {xs : List Int} (h : Dig b xs) (hn : Nrm xs) : val b xs = 0 ↔ xs = [] := by
  constructor
  · intro h0
    cases xs with
    | nil => rfl
    | cons x xs =>
      have h2 := val_ge hb h hn (by simp)
      have := pow_pos hb ((x :: xs).length - 1)
      omega
  · rintro rfl; rfl

theorem Nrm.nil : Nrm [] := by intro x hx; simp at hx

theorem mul_lt {b d a r : Int} (hr : r < d) (ha : a < b) (hb : 0 < b) : r * b + a < d * b := by
  have h1 : (r + 1) * b ≤ d * b := Int.mul_le_mul_of_nonneg_right (by omega) (Int.le_of_lt hb)
  have h2 : (r + 1) * b = r * b + b := by grind
  omega

/-- Two digit lists of one length and one value are one. -/
theorem val_inj {b : Int} (hb : 0 < b) {xs ys : List Int} (hx : Dig b xs) (hy : Dig b ys) (hl : xs.length = ys.length) (h : val b xs = val b ys) : xs = ys := by
  induction xs generalizing ys with
  | nil => cases ys with | nil => rfl | cons => simp at hl
  | cons x xs ih =>
    cases ys with
    | nil => simp at hl
    | cons y ys =>
      simp only [val] at h
      have h1 := hx.head
      have h2 := hy.head
      have key : x = y ∧ val b xs = val b ys := by
        have e1 : (x + b * val b xs) % b = x := by rw [Int.add_mul_emod_self_left]; exact Int.emod_eq_of_lt h1.1 h1.2
        have e2 : (y + b * val b ys) % b = y := by rw [Int.add_mul_emod_self_left]; exact Int.emod_eq_of_lt h2.1 h2.2
        have e3 : x = y := by rw [← e1, ← e2, h]
        refine ⟨e3, ?_⟩
        subst e3
        exact Int.eq_of_mul_eq_mul_left (by omega) (show b * val b xs = b * val b ys by omega)
      rw [key.1, ih hx.tail hy.tail (by simpa using hl) key.2]

theorem nrm_inj {b : Int} (hb : 0 < b) {xs ys : List Int} (hx : Dig b xs) (hy : Dig b ys) (nx : Nrm xs) (ny : Nrm ys) (h : val b xs = val b ys) : xs = ys := by
  have hl : xs.length = ys.length := by
    rcases Nat.lt_trichotomy xs.length ys.length with hl | hl | hl
    · have := val_lt_of_length hb hx hy ny hl; omega
    · exact hl
    · have := val_lt_of_length hb hy hx nx hl; omega
  exact val_inj hb hx hy hl h

end Go.Proofs.YtdlcleecjeipnaaGreatDoor.Limbs

/- What the program's numbers look like in memory: naturals, integers, fractions; that they stay as they are while new memory is made. -/
namespace Go.Proofs.YtdlcleecjeipnaaGreatDoor
open Go.RowKit Go.Proofs.YtdlcleecjeipnaaGreatDoorW.PrintWords Limbs
set_option linter.unusedVariables false

/-- Nothing that was there has turned. -/
def Ext (w w' : World) : Prop := Below w.heap.size w w'
theorem Ext.refl (w : World) : Ext w w := Below.refl _ _
theorem Ext.trans {a b c : World} (h : Ext a b) (k : Ext b c) : Ext a c := below_then h h.size k
theorem Ext.alloc (w : World) (o : Obj) : Ext w (w.alloc o) := below_alloc (Below.refl _ _) o
theorem Ext.drewN (w : World) (n : Nat) : Ext w (w.drewN n) := pw_below_drewN (Below.refl _ _) n
theorem Ext.drew (w : World) : Ext w w.drew := below_drew (Below.refl _ _)
theorem Ext.cell {w w' : World} (h : Ext w w') {a : Addr} {v : Value} (hc : w.cell? a = some v) : w'.cell? a = some v := pw_cell_below h hc

/-- How many there are of one limb. -/
def B64 : Int := 18446744073709551616
theorem B64_pos : 0 < B64 := by unfold B64; omega
abbrev U : Kd Int := Kd.int .u64

/-- A bound that no number of the laws comes near: 2^(2^24). -/
def bigE : Nat := 16777216
def BIG : Nat := 2 ^ bigE
theorem lt_BIG_of (k : Nat) (hk : k ≤ 16777216) {n : Nat} (h : n < 2 ^ k) : n < BIG := Nat.lt_of_lt_of_le h (Nat.pow_le_pow_right (by decide) hk)

/-- These limbs, without noughts above, are n. -/
structure Lim (xs : List Int) (n : Nat) : Prop where
  dig : Dig B64 xs
  nrm : Nrm xs
  val : val B64 xs = (n : Int)

theorem Lim.nil : Lim [] 0 := ⟨Dig.nil _, Nrm.nil, rfl⟩
theorem Lim.zero_iff {xs : List Int} {n : Nat} (h : Lim xs n) : xs = [] ↔ n = 0 := by
  rw [← val_zero_iff B64_pos h.dig h.nrm, h.val]; omega
theorem Lim.len_zero {xs : List Int} {n : Nat} (h : Lim xs n) : xs.length = 0 ↔ n = 0 := by
  rw [← h.zero_iff]; exact List.length_eq_zero_iff
theorem Lim.inj {xs ys : List Int} {n : Nat} (h : Lim xs n) (k : Lim ys n) : xs = ys := nrm_inj B64_pos h.dig k.dig h.nrm k.nrm (by rw [h.val, k.val])

theorem B64_pow (k : Nat) : B64 ^ k = ((2 ^ (64 * k) : Nat) : Int) := by
  induction k with
  | zero => rfl
  | succ k ih =>
    rw [Int.pow_succ, ih, show 64 * (k + 1) = 64 * k + 64 from by omega, Nat.pow_add]
    show _ * 18446744073709551616 = _
    rw [Int.natCast_mul]; rfl

theorem Lim.len_le {xs : List Int} {n : Nat} (h : Lim xs n) (hb : n < BIG) : xs.length ≤ 262144 := by
  rcases Nat.lt_or_ge 262144 xs.length with hl | hl
  · exfalso
    have h1 := val_ge B64_pos h.dig h.nrm (by rintro rfl; simp at hl)
    rw [h.val, B64_pow] at h1
    have h2 : 2 ^ (64 * (xs.length - 1)) ≤ n := by omega
    have h3 : 2 ^ bigE ≤ 2 ^ (64 * (xs.length - 1)) := Nat.pow_le_pow_right (by decide) (by unfold bigE; omega)
    have h4 : BIG ≤ 2 ^ (64 * (xs.length - 1)) := h3
    omega
  · exact hl

/-- A slice that reads as these words. -/
def Words (w : World) (v : Value) (xs : List Int) : Prop := ∃ A c, v = .slice A xs.length c ∧ xs.length ≤ c ∧ U.C w A xs.length xs
theorem Words.ext {w w' : World} {v : Value} {xs : List Int} (h : Words w v xs) (he : Ext w w') : Words w' v xs := by
  obtain ⟨A, c, rfl, hc, hr⟩ := h
  exact ⟨A, c, rfl, hc, Kd.C_below hr he⟩
theorem Words.nil (w : World) : Words w (.slice none 0 0) [] := ⟨none, 0, rfl, Nat.le_refl _, Kd.C_nil U w⟩

/-- A pointer to a natural number (nil is 0). -/
def IsNat (w : World) (v : Value) (n : Nat) : Prop :=
  (v = .pointer none ∧ n = 0) ∨ ∃ g l xs, v = .pointer (some ⟨g, 0, none⟩) ∧ w.cell? ⟨g, 0, none⟩ = some l ∧ Words w l xs ∧ Lim xs n
theorem IsNat.ext {w w' : World} {v : Value} {n : Nat} (h : IsNat w v n) (he : Ext w w') : IsNat w' v n := by
  rcases h with h | ⟨g, l, xs, h1, h2, h3, h4⟩
  · exact .inl h
  · exact .inr ⟨g, l, xs, h1, he.cell h2, h3.ext he, h4⟩
/-- The same, and it is not nil. -/
def NatAt (w : World) (v : Value) (n : Nat) : Prop := IsNat w v n ∧ ∃ g, v = .pointer (some ⟨g, 0, none⟩)
theorem NatAt.ext {w w' : World} {v : Value} {n : Nat} (h : NatAt w v n) (he : Ext w w') : NatAt w' v n := ⟨h.1.ext he, h.2⟩
theorem NatAt.is {w : World} {v : Value} {n : Nat} (h : NatAt w v n) : IsNat w v n := h.1

/-- A pointer to an integer (nil is 0). -/
def IntAt (w : World) (v : Value) (z : Int) : Prop :=
  ∃ g b u n, v = .pointer (some ⟨g, 0, none⟩) ∧ w.cell? ⟨g, 0, none⟩ = some (.bool b) ∧ w.cell? ⟨g, 1, none⟩ = some u ∧ IsNat w u n ∧ z = (if b = true then -(n : Int) else n) ∧ (b = true → n ≠ 0)
def IsInt (w : World) (v : Value) (z : Int) : Prop := (v = .pointer none ∧ z = 0) ∨ IntAt w v z
theorem IntAt.ext {w w' : World} {v : Value} {z : Int} (h : IntAt w v z) (he : Ext w w') : IntAt w' v z := by
  obtain ⟨g, b, u, n, h1, h2, h3, h4, h5⟩ := h
  exact ⟨g, b, u, n, h1, he.cell h2, he.cell h3, h4.ext he, h5⟩
theorem IntAt.is {w : World} {v : Value} {z : Int} (h : IntAt w v z) : IsInt w v z := .inr h
theorem IsInt.ext {w w' : World} {v : Value} {z : Int} (h : IsInt w v z) (he : Ext w w') : IsInt w' v z := by
  rcases h with h | h
  · exact .inl h
  · exact .inr (h.ext he)

/-- A pointer to a fraction in lowest terms (nil is 0; fields that are nil are 0 and 1). -/
def RatAt (w : World) (v : Value) (n : Int) (d : Nat) : Prop :=
  ∃ g a b, v = .pointer (some ⟨g, 0, none⟩) ∧ w.cell? ⟨g, 0, none⟩ = some a ∧ w.cell? ⟨g, 1, none⟩ = some b ∧ IsInt w a n ∧ ((b = .pointer none ∧ d = 1) ∨ IntAt w b d) ∧ 0 < d ∧ Nat.gcd n.natAbs d = 1
def IsRat (w : World) (v : Value) (n : Int) (d : Nat) : Prop := (v = .pointer none ∧ n = 0 ∧ d = 1) ∨ RatAt w v n d
theorem RatAt.ext {w w' : World} {v : Value} {n : Int} {d : Nat} (h : RatAt w v n d) (he : Ext w w') : RatAt w' v n d := by
  obtain ⟨g, a, b, h1, h2, h3, h4, h5, h6⟩ := h
  refine ⟨g, a, b, h1, he.cell h2, he.cell h3, h4.ext he, ?_, h6⟩
  rcases h5 with h5 | h5
  · exact .inl h5
  · exact .inr (h5.ext he)
theorem RatAt.is {w : World} {v : Value} {n : Int} {d : Nat} (h : RatAt w v n d) : IsRat w v n d := .inr h
theorem IsRat.ext {w w' : World} {v : Value} {n : Int} {d : Nat} (h : IsRat w v n d) (he : Ext w w') : IsRat w' v n d := by
  rcases h with h | h
  · exact .inl h
  · exact .inr (h.ext he)
theorem IsRat.pos {w : World} {v : Value} {n : Int} {d : Nat} (h : IsRat w v n d) : 0 < d := by
  rcases h with ⟨_, _, rfl⟩ | ⟨_, _, _, _, _, _, _, _, h, _⟩
  · decide
  · exact h
theorem IsRat.cop {w : World} {v : Value} {n : Int} {d : Nat} (h : IsRat w v n d) : Nat.gcd n.natAbs d = 1 := by
  rcases h with ⟨_, rfl, rfl⟩ | ⟨_, _, _, _, _, _, _, _, _, h⟩
  · rfl
  · exact h

/-- What a call that only makes new memory answers. -/
def Ans (P : Value → World → Prop) (w : World) (e : Ending) (w' : World) : Prop := ∃ r, e = .returned r ∧ P r w' ∧ Ext w w'
def Ans2 (P : Value → Value → World → Prop) (w : World) (e : Ending) (w' : World) : Prop := ∃ r s, e = .returned (.tuple #[r, s]) ∧ P r s w' ∧ Ext w w'
def Ans3 (P : Value → Value → Value → World → Prop) (w : World) (e : Ending) (w' : World) : Prop := ∃ r s t, e = .returned (.tuple #[r, s, t]) ∧ P r s t w' ∧ Ext w w'

end Go.Proofs.YtdlcleecjeipnaaGreatDoor

-- PRINTED by print.py out of the translation, by the session's own call, and taken apart by split.py. Not trusted: Lean checks it.
namespace Go.Proofs.YtdlcleecjeipnaaGreatDoor.PAll
open Go.RowKit Go.Proofs.YtdlcleecjeipnaaGreatDoorW.PrintWords Go.Proofs.YtdlcleecjeipnaaGreatDoorW.PrintLast Go.Proofs.YtdlcleecjeipnaaGreatDoorW.PrintMore
attribute [local go_sem] max2_int min2_int max_two min_two max_three min_three max_four min_four   -- for this text's walks alone
set_option linter.unusedVariables false
set_option linter.unusedSimpArgs false



/-! ### nat_compare: function 152 -/
def nat_compare.l0 : Nat → List Int → List Int → Int → Option (Int)
  | 0, _, _, _ => none
  | k + 1, x0, x1, x5 => if x5 ≥ 0 then (if 0 ≤ x5 then (if x5 < (x0.length : Int) then (if x5 < (x1.length : Int) then (if (rd x0 x5) < (rd x1 x5) then (some (-1)) else (if (rd x0 x5) > (rd x1 x5) then (some 1) else (nat_compare.l0 k x0 x1 (wrap64 (x5 - 1))))) else (none)) else (none)) else (none)) else (some 0)
def nat_compare.f (k : Nat) (l0 : List Int) (l1 : List Int) : Option (Int) := if (l0.length : Int) = (l1.length : Int) then (nat_compare.l0 k l0 l1 (wrap64 ((l0.length : Int) - 1))) else (some (mn (mx (wrap64 ((l0.length : Int) - (l1.length : Int))) (-1)) 1))
theorem nat_compare.mono_l : ∀ k, (∀ y0 y1 y2, LeO (nat_compare.l0 k y0 y1 y2) (nat_compare.l0 (k + 1) y0 y1 y2))
  | 0 => fun _ _ _ r h => by simp [nat_compare.l0] at h
  | k + 1 => by
    have ih0 := nat_compare.mono_l k
    · intro y0 y1 y2
      unfold nat_compare.l0
      repeat' first
      | (with_reducible exact ih0 _ _ _)
      | (with_reducible exact LeO.refl _)
      | (with_reducible exact LeO.none _)
      | (with_reducible refine LeO.ite ?_ ?_)
      | (with_reducible refine LeO.bind ?_ (fun _ => ?_))
      | exact ih0 _ _ _
      | exact LeO.none _
      | refine LeO.ite ?_ ?_
      | refine LeO.bind ?_ (fun _ => ?_)
theorem nat_compare.mono : ∀ a0 a1 k, LeO (nat_compare.f k a0 a1) (nat_compare.f (k + 1) a0 a1) := by
  intro a0 a1 k
  have ih0 := nat_compare.mono_l k
  unfold nat_compare.f
  repeat' first
      | (with_reducible exact ih0 _ _ _)
      | (with_reducible exact LeO.refl _)
      | (with_reducible exact LeO.none _)
      | (with_reducible refine LeO.ite ?_ ?_)
      | (with_reducible refine LeO.bind ?_ (fun _ => ?_))
      | exact ih0 _ _ _
      | exact LeO.none _
      | refine LeO.ite ?_ ?_
      | refine LeO.bind ?_ (fun _ => ?_)
set_option maxHeartbeats 8000000 in
set_option maxRecDepth 100000 in
theorem nat_compare.calls (k : Nat) (A0 : Option Addr) (c0 : Nat) (l0 : List Int) (A1 : Option Addr) (c1 : Nat) (l1 : List Int) (r : Int) (w : World) (hr0 : Kd.C (Kd.int .u64) w A0 l0.length l0) (hc0 : l0.length ≤ c0) (hr1 : Kd.C (Kd.int .u64) w A1 l1.length l1) (hc1 : l1.length ≤ c1) (h : nat_compare.f k l0 l1 = some r) :
    Calls Tryz.prog 152 #[.slice A0 l0.length c0, .slice A1 l1.length c1] w fun e w' => e = .returned (.int .i64 r) ∧ Below w.heap.size w w' := by
  have HR0 := Aside0.mk hr0
  have HC0 := Aside0.mk hc0
  clear hr0 hc0
  have HR1 := Aside0.mk hr1
  have HC1 := Aside0.mk hc1
  clear hr1 hc1
  have HB := Aside0.mk (Below.refl w.heap.size w)
  have H : (if (l0.length : Int) = (l1.length : Int) then (nat_compare.l0 k l0 l1 (wrap64 ((l0.length : Int) - 1))) else (some (mn (mx (wrap64 ((l0.length : Int) - (l1.length : Int))) (-1)) 1))) = some r := h
  clear h
  by_cases c3 : (l0.length : Int) = (l1.length : Int)
  · rw [if_pos c3] at H
    have c3b0 : ((l0.length : Int) == (l1.length : Int)) = true := beq_iff_eq.mpr c3
    have c3b1 : ((l0.length : Int) != (l1.length : Int)) = false := bne_eq_false_iff_eq.mpr c3
    have c3b2 : (l0.length == l1.length) = true := by first | simpa using c3 | (simp at c3 ⊢; omega)
    clear c3
    have H' := Aside0.mk H
    clear H
    go_enter Tryz.func152, Tryz.ntmps152
    go_wp2
    repeat (go_quiet (fail); try go_wp2)
    go_loopg [5] k (fun kq v5 w' => ∃ (x5_1 : Int), v5 = .int .i64 x5_1 ∧ Aside0 (nat_compare.l0 kq l0 l1 x5_1 = some r) ∧ Aside0 (kq ≤ k) ∧ Aside0 (Below w.heap.size w w'))
    case atStart => exact ⟨(wrap64 ((l0.length : Int) - 1)), (by first | rfl | (simp; done) | (simp [*]; done)), H', ⟨Nat.le_refl _⟩, ⟨by repeat (first | (with_reducible first | exact HB.out | apply below_alloc | apply pw_below_drewN | apply below_drew1) | exact HB.out)⟩⟩
    case round =>
      clear H'
      try clear c1
      try clear p2
      try clear c3
      try clear c3b0
      try clear c3b1
      try clear c3b2
      obtain ⟨x5_1, rfl, HA, HK1, HB⟩ := hrel
      cases gk with
      | zero => exact absurd HA.out (by simp [nat_compare.l0])
      | succ k1 =>
        have H := HA.out
        clear HA
        simp only [nat_compare.l0] at H
        by_cases c4 : x5_1 ≥ 0
        · rw [if_pos c4] at H
          have c4b0 : decide (0 ≤ x5_1) = true := decide_eq_true c4
          clear c4
          by_cases c5 : 0 ≤ x5_1
          · rw [if_pos c5] at H
            have c5b0 : decide (0 ≤ x5_1) = true := decide_eq_true c5
            clear c5
            by_cases c6 : x5_1 < (l0.length : Int)
            · rw [if_pos c6] at H
              have c6b0 : decide (x5_1 < (l0.length : Int)) = true := decide_eq_true c6
              clear c6
              by_cases c7 : x5_1 < (l1.length : Int)
              · rw [if_pos c7] at H
                have c7b0 : decide (x5_1 < (l1.length : Int)) = true := decide_eq_true c7
                clear c7
                by_cases c8 : (rd l0 x5_1) < (rd l1 x5_1)
                · rw [if_pos c8] at H
                  have c8b0 : decide ((rd l0 x5_1) < (rd l1 x5_1)) = true := decide_eq_true c8
                  clear c8
                  obtain rfl := Option.some.inj H
                  have p104 : 0 ≤ (x5_1 : Int) := of_decide_eq_true (by first | (with_reducible assumption) | assumption)
                  have q104 : x5_1 < (l0.length : Int) := of_decide_eq_true (by first | (with_reducible assumption) | assumption)
                  obtain ⟨ad104, e104, hx104_0⟩ := Kd.at_int HR0.out x5_1 p104 q104
                  cases e104
                  replace hx104_0 := (HB.out.cell (World.block_lt_of_cell? w _ hx104_0)).trans hx104_0
                  replace p104 := eq_true p104
                  replace q104 := eq_true q104
                  have p105 : 0 ≤ (x5_1 : Int) := of_decide_eq_true (by first | (with_reducible assumption) | assumption)
                  have q105 : x5_1 < (l1.length : Int) := of_decide_eq_true (by first | (with_reducible assumption) | assumption)
                  obtain ⟨ad105, e105, hx105_0⟩ := Kd.at_int HR1.out x5_1 p105 q105
                  cases e105
                  replace hx105_0 := (HB.out.cell (World.block_lt_of_cell? w _ hx105_0)).trans hx105_0
                  replace p105 := eq_true p105
                  replace q105 := eq_true q105
                  go_wp2
                  repeat (go_quiet (fail); try go_wp2)
                  go_ret
                  exact ⟨by first | rfl | (simp [errW_none, errW_some] <;> rfl) | (simp [*, errW_none, errW_some] <;> rfl), by repeat (first | (with_reducible first | exact HB.out | apply below_alloc | apply pw_below_drewN | apply below_drew1) | exact HB.out)⟩
                · rw [if_neg c8] at H
                  have c8b0 : decide ((rd l0 x5_1) < (rd l1 x5_1)) = false := decide_eq_false c8
                  clear c8
                  by_cases c9 : (rd l0 x5_1) > (rd l1 x5_1)
                  · rw [if_pos c9] at H
                    have c9b0 : decide ((rd l1 x5_1) < (rd l0 x5_1)) = true := decide_eq_true c9
                    clear c9
                    obtain rfl := Option.some.inj H
                    have p104 : 0 ≤ (x5_1 : Int) := of_decide_eq_true (by first | (with_reducible assumption) | assumption)
                    have q104 : x5_1 < (l0.length : Int) := of_decide_eq_true (by first | (with_reducible assumption) | assumption)
                    obtain ⟨ad104, e104, hx104_0⟩ := Kd.at_int HR0.out x5_1 p104 q104
                    cases e104
                    replace hx104_0 := (HB.out.cell (World.block_lt_of_cell? w _ hx104_0)).trans hx104_0
                    replace p104 := eq_true p104
                    replace q104 := eq_true q104
                    have p105 : 0 ≤ (x5_1 : Int) := of_decide_eq_true (by first | (with_reducible assumption) | assumption)
                    have q105 : x5_1 < (l1.length : Int) := of_decide_eq_true (by first | (with_reducible assumption) | assumption)
                    obtain ⟨ad105, e105, hx105_0⟩ := Kd.at_int HR1.out x5_1 p105 q105
                    cases e105
                    replace hx105_0 := (HB.out.cell (World.block_lt_of_cell? w _ hx105_0)).trans hx105_0
                    replace p105 := eq_true p105
                    replace q105 := eq_true q105
                    have p106 : 0 ≤ (x5_1 : Int) := of_decide_eq_true (by first | (with_reducible assumption) | assumption)
                    have q106 : x5_1 < (l0.length : Int) := of_decide_eq_true (by first | (with_reducible assumption) | assumption)
                    obtain ⟨ad106, e106, hx106_0⟩ := Kd.at_int HR0.out x5_1 p106 q106
                    obtain rfl : ad104 = ad106 := (by injection e106)
                    replace hx106_0 := (HB.out.cell (World.block_lt_of_cell? w _ hx106_0)).trans hx106_0
                    replace p106 := eq_true p106
                    replace q106 := eq_true q106
                    have p107 : 0 ≤ (x5_1 : Int) := of_decide_eq_true (by first | (with_reducible assumption) | assumption)
                    have q107 : x5_1 < (l1.length : Int) := of_decide_eq_true (by first | (with_reducible assumption) | assumption)
                    obtain ⟨ad107, e107, hx107_0⟩ := Kd.at_int HR1.out x5_1 p107 q107
                    obtain rfl : ad105 = ad107 := (by injection e107)
                    replace hx107_0 := (HB.out.cell (World.block_lt_of_cell? w _ hx107_0)).trans hx107_0
                    replace p107 := eq_true p107
                    replace q107 := eq_true q107
                    go_wp2
                    repeat (go_quiet (fail); try go_wp2)
                    go_ret
                    exact ⟨by first | rfl | (simp [errW_none, errW_some] <;> rfl) | (simp [*, errW_none, errW_some] <;> rfl), by repeat (first | (with_reducible first | exact HB.out | apply below_alloc | apply pw_below_drewN | apply below_drew1) | exact HB.out)⟩
                  · rw [if_neg c9] at H
                    have c9b0 : decide ((rd l1 x5_1) < (rd l0 x5_1)) = false := decide_eq_false c9
                    clear c9
                    have H' := Aside0.mk H
                    clear H
                    have p104 : 0 ≤ (x5_1 : Int) := of_decide_eq_true (by first | (with_reducible assumption) | assumption)
                    have q104 : x5_1 < (l0.length : Int) := of_decide_eq_true (by first | (with_reducible assumption) | assumption)
                    obtain ⟨ad104, e104, hx104_0⟩ := Kd.at_int HR0.out x5_1 p104 q104
                    cases e104
                    replace hx104_0 := (HB.out.cell (World.block_lt_of_cell? w _ hx104_0)).trans hx104_0
                    replace p104 := eq_true p104
                    replace q104 := eq_true q104
                    have p105 : 0 ≤ (x5_1 : Int) := of_decide_eq_true (by first | (with_reducible assumption) | assumption)
                    have q105 : x5_1 < (l1.length : Int) := of_decide_eq_true (by first | (with_reducible assumption) | assumption)
                    obtain ⟨ad105, e105, hx105_0⟩ := Kd.at_int HR1.out x5_1 p105 q105
                    cases e105
                    replace hx105_0 := (HB.out.cell (World.block_lt_of_cell? w _ hx105_0)).trans hx105_0
                    replace p105 := eq_true p105
                    replace q105 := eq_true q105
                    have p106 : 0 ≤ (x5_1 : Int) := of_decide_eq_true (by first | (with_reducible assumption) | assumption)
                    have q106 : x5_1 < (l0.length : Int) := of_decide_eq_true (by first | (with_reducible assumption) | assumption)
                    obtain ⟨ad106, e106, hx106_0⟩ := Kd.at_int HR0.out x5_1 p106 q106
                    obtain rfl : ad104 = ad106 := (by injection e106)
                    replace hx106_0 := (HB.out.cell (World.block_lt_of_cell? w _ hx106_0)).trans hx106_0
                    replace p106 := eq_true p106
                    replace q106 := eq_true q106
                    have p107 : 0 ≤ (x5_1 : Int) := of_decide_eq_true (by first | (with_reducible assumption) | assumption)
                    have q107 : x5_1 < (l1.length : Int) := of_decide_eq_true (by first | (with_reducible assumption) | assumption)
                    obtain ⟨ad107, e107, hx107_0⟩ := Kd.at_int HR1.out x5_1 p107 q107
                    obtain rfl : ad105 = ad107 := (by injection e107)
                    replace hx107_0 := (HB.out.cell (World.block_lt_of_cell? w _ hx107_0)).trans hx107_0
                    replace p107 := eq_true p107
                    replace q107 := eq_true q107
                    go_wp2
                    repeat (go_quiet (fail); try go_wp2)
                    go_roundg k1
                    case measure => have := HK1.out; omega
                    case rel => exact ⟨(wrap64 (x5_1 - 1)), (by first | rfl | (simp; done) | (simp [*]; done)), H', ⟨by have := HK1.out; omega⟩, ⟨by repeat (first | (with_reducible first | exact HB.out | apply below_alloc | apply pw_below_drewN | apply below_drew1) | exact HB.out)⟩⟩
              · rw [if_neg c7] at H
                exact absurd H (by simp)
            · rw [if_neg c6] at H
              exact absurd H (by simp)
          · rw [if_neg c5] at H
            exact absurd H (by simp)
        · rw [if_neg c4] at H
          have c4b0 : decide (0 ≤ x5_1) = false := decide_eq_false c4
          clear c4
          obtain rfl := Option.some.inj H
          go_wp2
          repeat (go_quiet (fail); try go_wp2)
          go_ret
          exact ⟨by first | rfl | (simp [errW_none, errW_some] <;> rfl) | (simp [*, errW_none, errW_some] <;> rfl), by repeat (first | (with_reducible first | exact HB.out | apply below_alloc | apply pw_below_drewN | apply below_drew1) | exact HB.out)⟩
  · rw [if_neg c3] at H
    have c3b0 : ((l0.length : Int) == (l1.length : Int)) = false := beq_eq_false_iff_ne.mpr c3
    have c3b1 : ((l0.length : Int) != (l1.length : Int)) = true := bne_iff_ne.mpr c3
    have c3b2 : (l0.length == l1.length) = false := by first | simpa using c3 | (simp at c3 ⊢; omega)
    obtain ⟨ji10, hji10⟩ : ∃ j_ : Int, (mx (wrap64 ((l0.length : Int) - (l1.length : Int))) (-1)) = j_ := ⟨_, rfl⟩
    replace H : (some (mn (ji10) 1)) = some r := by first | (rw [hji10] at H; exact H) | (simp only [hji10] at H ⊢; exact H)
    have hji10_ : (if (wrap64 ((l0.length : Int) - (l1.length : Int))) < (-1) then (-1) else (wrap64 ((l0.length : Int) - (l1.length : Int)))) = ji10 := hji10
    obtain ⟨ji11, hji11⟩ : ∃ j_ : Int, (mn (ji10) 1) = j_ := ⟨_, rfl⟩
    replace H : (some ji11) = some r := by first | (rw [hji11] at H; exact H) | (simp only [hji11] at H ⊢; exact H)
    have hji11_ : (if 1 < (ji10) then 1 else (ji10)) = ji11 := hji11
    obtain rfl := Option.some.inj H
    go_enter Tryz.func152, Tryz.ntmps152
    go_wp2
    repeat (go_quiet (fail); try go_wp2)
    go_ret
    exact ⟨by first | rfl | (simp [errW_none, errW_some] <;> rfl) | (simp only [← hji10, ← hji11]; first | rfl | (simp [errW_none, errW_some] <;> rfl)) | (simp [*, errW_none, errW_some] <;> rfl), by repeat (first | (with_reducible first | exact HB.out | apply below_alloc | apply pw_below_drewN | apply below_drew1) | exact HB.out)⟩

end Go.Proofs.YtdlcleecjeipnaaGreatDoor.PAll

/- nat.compare: which of two numbers is greater, limb by limb from above. Plain lists. -/
namespace Go.Proofs.YtdlcleecjeipnaaGreatDoor
open Go.RowKit Go.Proofs.YtdlcleecjeipnaaGreatDoorW.PrintWords Limbs PAll
set_option linter.unusedVariables false

/-- -1, 0 or 1. -/
def cmpI (a b : Int) : Int := if a < b then -1 else if b < a then 1 else 0

theorem lt_at {b : Int} (hb : 0 < b) {xs ys : List Int} (hx : Dig b xs) (hy : Dig b ys) (i : Nat) (hxl : i < xs.length) (hyl : i < ys.length) (hd : xs.drop (i + 1) = ys.drop (i + 1)) (h : xs.getD i 0 < ys.getD i 0) : val b xs < val b ys := by
  rw [val_take_drop b xs i (by omega), val_take_drop b ys i (by omega), val_drop b xs i hxl, val_drop b ys i hyl, hd]
  have h1 := val_lt hb (hx.take i)
  have h2 := val_nonneg hb (hy.take i)
  rw [List.length_take, Nat.min_eq_left (by omega)] at h1
  have h3 : b ^ i * (xs.getD i 0 + 1) ≤ b ^ i * ys.getD i 0 := Int.mul_le_mul_of_nonneg_left (by omega) (Int.le_of_lt (pow_pos hb i))
  have e1 : b ^ i * (xs.getD i 0 + 1) = b ^ i * xs.getD i 0 + b ^ i := by grind
  have e2 : b ^ i * (xs.getD i 0 + b * val b (ys.drop (i + 1))) = b ^ i * xs.getD i 0 + b ^ i * (b * val b (ys.drop (i + 1))) := by grind
  have e3 : b ^ i * (ys.getD i 0 + b * val b (ys.drop (i + 1))) = b ^ i * ys.getD i 0 + b ^ i * (b * val b (ys.drop (i + 1))) := by grind
  omega

theorem compare_l0 {xs ys : List Int} (hx : Dig B64 xs) (hy : Dig B64 ys) (hl : xs.length = ys.length) (hm : xs.length ≤ 9223372036854775807) (d : Nat) : ∀ (k : Nat) (i : Int), i + 1 = d → d ≤ xs.length → d < k → xs.drop d = ys.drop d →
    nat_compare.l0 k xs ys i = some (cmpI (val B64 xs) (val B64 ys)) := by
  induction d with
  | zero =>
    intro k i hi _ hk hd
    obtain ⟨k, rfl⟩ : ∃ m, k = m + 1 := ⟨k - 1, by omega⟩
    simp only [nat_compare.l0]
    rw [if_neg (by omega)]
    have : xs = ys := by simpa using hd
    rw [this, cmpI, if_neg (by omega), if_neg (by omega)]
  | succ d ih =>
    intro k i hi hdl hk hd
    obtain ⟨k, rfl⟩ : ∃ m, k = m + 1 := ⟨k - 1, by omega⟩
    obtain rfl : i = d := by omega
    simp only [nat_compare.l0]
    rw [if_pos (by omega), if_pos (by omega), if_pos (by omega), if_pos (by omega)]
    have e : ∀ zs : List Int, rd zs (d : Int) = zs.getD d 0 := fun zs => rfl
    rw [e, e]
    by_cases h1 : xs.getD d 0 < ys.getD d 0
    · rw [if_pos h1, cmpI, if_pos (lt_at B64_pos hx hy d (by omega) (by omega) hd h1)]
    · rw [if_neg h1]
      by_cases h2 : xs.getD d 0 > ys.getD d 0
      · have := lt_at B64_pos hy hx d (by omega) (by omega) hd.symm h2
        rw [if_pos h2, cmpI, if_neg (by omega), if_pos this]
      · rw [if_neg h2]
        have hw : wrap64 ((d : Int) - 1) = d - 1 := by unfold wrap64; omega
        rw [hw]
        refine ih k _ (by omega) (by omega) (by omega) ?_
        have a1 : d < xs.length := by omega
        have a2 : d < ys.length := by omega
        rw [List.drop_eq_getElem_cons a1, List.drop_eq_getElem_cons a2, hd]
        have g1 : xs.getD d 0 = xs[d] := by rw [List.getD_eq_getElem?_getD, List.getElem?_eq_getElem a1]; rfl
        have g2 : ys.getD d 0 = ys[d] := by rw [List.getD_eq_getElem?_getD, List.getElem?_eq_getElem a2]; rfl
        have : xs[d] = ys[d] := by omega
        rw [this]

theorem compare_is {xs ys : List Int} {a b : Nat} (hx : Lim xs a) (hy : Lim ys b) (hxm : xs.length ≤ 9223372036854775807) (hym : ys.length ≤ 9223372036854775807) : nat_compare.f (xs.length + 1) xs ys = some (cmpI a b) := by
  unfold nat_compare.f
  by_cases hl : (xs.length : Int) = ys.length
  · rw [if_pos hl]
    have hw : wrap64 ((xs.length : Int) - 1) = xs.length - 1 := by unfold wrap64; omega
    rw [hw, compare_l0 hx.dig hy.dig (by omega) (by omega) xs.length (xs.length + 1) _ (by omega) (by omega) (by omega) (by rw [List.drop_length, List.drop_eq_nil_of_le (by omega)]), hx.val, hy.val]
  · rw [if_neg hl]
    have hw : wrap64 ((xs.length : Int) - ys.length) = xs.length - ys.length := by unfold wrap64; omega
    rw [hw]
    rcases Nat.lt_or_ge xs.length ys.length with h | h
    · have h1 := val_lt_of_length B64_pos hx.dig hy.dig hy.nrm h
      rw [hx.val, hy.val] at h1
      rw [cmpI, if_pos h1]
      unfold mn mx; simp only [Option.some.injEq]; split <;> split <;> omega
    · have h1 := val_lt_of_length B64_pos hy.dig hx.dig hx.nrm (by omega)
      rw [hx.val, hy.val] at h1
      rw [cmpI, if_neg (by omega), if_pos h1]
      unfold mn mx; simp only [Option.some.injEq]; split <;> split <;> omega

/-- compare, the call. -/
theorem compare_calls {w : World} {A0 A1 : Option Addr} {c0 c1 : Nat} {xs ys : List Int} {a b : Nat} (h0 : xs.length ≤ c0) (r0 : U.C w A0 xs.length xs) (l0 : Lim xs a) (h1 : ys.length ≤ c1) (r1 : U.C w A1 ys.length ys) (l1 : Lim ys b) :
    Calls Tryz.prog 152 #[.slice A0 xs.length c0, .slice A1 ys.length c1] w fun e w' => e = .returned (.int .i64 (cmpI a b)) ∧ Ext w w' :=
  nat_compare.calls _ _ _ _ _ _ _ _ _ r0 h0 r1 h1 (compare_is l0 l1 (Kd.C_max r0) (Kd.C_max r1))
end Go.Proofs.YtdlcleecjeipnaaGreatDoor

/- What the functions of package nat answer (draft of the statements). -/
namespace Go.Proofs.YtdlcleecjeipnaaGreatDoor
open Go.RowKit Go.Proofs.YtdlcleecjeipnaaGreatDoorW.PrintWords Limbs
set_option linter.unusedVariables false

theorem limbs_nil (w : World) : Calls Tryz.prog 151 #[.pointer none] w fun e w' => e = .returned (.slice none 0 0) ∧ w = w' := by
  go_enter Tryz.func151, Tryz.ntmps151
  go_wp2
  go_ret
  exact ⟨rfl, rfl⟩
theorem limbs_some (g : Nat) (l : Value) (w : World) (hc : w.cell? ⟨g, 0, none⟩ = some l) : Calls Tryz.prog 151 #[.pointer (some ⟨g, 0, none⟩)] w fun e w' => e = .returned l ∧ w = w' := by
  go_enter Tryz.func151, Tryz.ntmps151
  go_wp2
  go_ret
  exact ⟨rfl, rfl⟩
/-- limbs: the number's words. -/
theorem limbs_any {w : World} {v : Value} {n : Nat} (h : IsNat w v n) : ∃ A c xs, (xs.length ≤ c ∧ U.C w A xs.length xs ∧ Lim xs n) ∧ Calls Tryz.prog 151 #[v] w fun e w' => e = .returned (.slice A xs.length c) ∧ w = w' := by
  rcases h with ⟨rfl, rfl⟩ | ⟨g, l, xs, rfl, hc, ⟨A, c, rfl, hl, hr⟩, hx⟩
  · exact ⟨none, 0, [], ⟨Nat.le_refl _, Kd.C_nil U w, Lim.nil⟩, limbs_nil w⟩
  · exact ⟨A, c, xs, ⟨hl, hr, hx⟩, limbs_some g _ w hc⟩

theorem zero_any {w : World} {v : Value} {n : Nat} (h : IsNat w v n) : Calls Tryz.prog 111 #[v] w fun e w' => e = .returned (.bool (decide (n = 0))) ∧ w = w' := by
  obtain ⟨A, c, xs, ⟨h1, h2, h3⟩, hcall⟩ := limbs_any h
  have hlen := h3.len_zero
  have Hlen : Hid (((xs.length : Int) == 0) = decide (n = 0)) := by
    apply Lib.hid
    by_cases h0 : n = 0
    · rw [hlen.2 h0]; simp [h0]
    · have : xs.length ≠ 0 := fun he => h0 (hlen.1 he)
      simp [h0]; intro he; exact this (by rw [he]; rfl)
  clear hlen
  go_enter Tryz.func111, Tryz.ntmps111
  go_wp2_with (go_at_call 151; refine hcall.mono ?_; rintro e w' ⟨rfl, rfl⟩)
  go_ret
  exact ⟨by rw [← Hlen.out]; rfl, rfl⟩

/-- The number of cells that a slice shows. -/
def lenOf : Value → Nat
  | .slice _ n _ => n
  | _ => 0

/-- Without the noughts above: so many limbs. -/
def topOf : List Int → Nat → Nat
  | _, 0 => 0
  | xs, k + 1 => if xs.getD k 0 = 0 then topOf xs k else k + 1
theorem topOf_le (xs : List Int) (k : Nat) : topOf xs k ≤ k := by
  induction k with
  | zero => exact Nat.le_refl _
  | succ k ih => unfold topOf; split <;> omega
theorem topOf_val (b : Int) (xs : List Int) (k : Nat) (hk : k ≤ xs.length) : Limbs.val b (xs.take (topOf xs k)) = Limbs.val b (xs.take k) := by
  induction k with
  | zero => rfl
  | succ k ih =>
    unfold topOf
    split
    · rename_i h
      rw [ih (by omega), val_take_succ b xs k (by omega), h]; simp
    · rfl
theorem topOf_nrm (xs : List Int) (k : Nat) (hk : k ≤ xs.length) : Nrm (xs.take (topOf xs k)) := by
  induction k with
  | zero => simpa [topOf] using Nrm.nil
  | succ k ih =>
    unfold topOf
    split
    · exact ih (by omega)
    · rename_i h
      intro x hx
      rw [List.getLast?_eq_getElem?, List.length_take, Nat.min_eq_left hk] at hx
      simp only [Nat.add_sub_cancel] at hx
      rw [List.getElem?_take, if_pos (by omega)] at hx
      rw [List.getD_eq_getElem?_getD, hx] at h
      exact h
theorem lim_top {xs : List Int} (h : Dig B64 xs) : Lim (xs.take (topOf xs xs.length)) (Limbs.val B64 xs).toNat := by
  refine ⟨h.take _, topOf_nrm xs _ (Nat.le_refl _), ?_⟩
  rw [topOf_val _ _ _ (Nat.le_refl _), List.take_length]
  have := val_nonneg B64_pos h
  omega

theorem made_any {w : World} {A : Option Addr} {c : Nat} {xs : List Int} (hc : xs.length ≤ c) (hr : U.C w A xs.length xs) (hd : Dig B64 xs) :
    Calls Tryz.prog 150 #[.slice A xs.length c] w fun e w' => e = .returned (.pointer (some ⟨w.heap.size, 0, none⟩)) ∧ w' = w.alloc (.cells #[.slice A (topOf xs xs.length) c] 193) := by
  have hm := Kd.C_max hr
  go_enter Tryz.func150, Tryz.ntmps150
  go_wp2
  go_loop [0] (fun v => ∃ k : Nat, v = .slice A k c ∧ k ≤ xs.length ∧ Hid (topOf xs k = topOf xs xs.length)) (fun v => lenOf v)
  case atStart => exact ⟨xs.length, rfl, Nat.le_refl _, Lib.hid rfl⟩
  case round =>
    obtain ⟨k, rfl, hk, hz⟩ := hrel
    rcases Nat.eq_zero_or_pos k with h0 | h0
    · subst h0
      go_wp2
      go_ret
      refine ⟨rfl, ?_⟩
      have := hz.out
      rw [← this]; rfl
    · obtain ⟨j, rfl⟩ : ∃ j, k = j + 1 := ⟨k - 1, by omega⟩
      obtain ⟨ad, rfl, hcell⟩ := Kd.at_int hr (j : Int) (by omega) (by omega)
      have hcell' : w.cell? (ad.add j) = some (.int .u64 (xs.getD j 0)) := hcell
      clear hcell
      obtain ⟨y, hy⟩ : ∃ y, Hid (y = xs.getD j 0) := ⟨_, Lib.hid rfl⟩
      rw [← hy.out] at hcell'
      by_cases hx : y = 0
      · have hz' : Hid (topOf xs j = topOf xs xs.length) := by
          apply Lib.hid; rw [← hz.out]; conv => rhs; unfold topOf
          rw [if_pos (by rw [← hy.out, hx])]
        subst hx
        clear hz hy
        go_wp2
        go_round
        case rel => exact ⟨j, rfl, by omega, hz'⟩
        case measure => simp [lenOf]
      · have hxb : (y == 0) = false := by simp [hx]
        have hz' : Hid (topOf xs xs.length = j + 1) := by
          apply Lib.hid; rw [← hz.out]; unfold topOf
          rw [if_neg (by rw [← hy.out]; exact hx)]
        clear hz hy hx
        go_wp2
        go_ret
        exact ⟨rfl, by rw [hz'.out]⟩

theorem made_nat {w : World} {A : Option Addr} {c : Nat} {xs : List Int} (hc : xs.length ≤ c) (hr : U.C w A xs.length xs) (hd : Dig B64 xs) :
    Calls Tryz.prog 150 #[.slice A xs.length c] w (Ans (fun r w' => NatAt w' r (Limbs.val B64 xs).toNat) w) := by
  refine (made_any hc hr hd).mono ?_
  rintro e w' ⟨rfl, rfl⟩
  refine ⟨_, rfl, ⟨.inr ⟨_, .slice A (topOf xs xs.length) c, _, rfl, by simp, ?_, lim_top hd⟩, _, rfl⟩, Ext.alloc w _⟩
  have hle := topOf_le xs xs.length
  have hl : (xs.take (topOf xs xs.length)).length = topOf xs xs.length := by rw [List.length_take]; omega
  refine ⟨A, c, by rw [hl], by omega, Kd.C_below (Kd.C_take hr hle) (Ext.alloc w _)⟩

theorem reads_one (w : World) (x : Int) (t : TypeId) : U.C (w.alloc (.cells #[.int .u64 x] t)) (some ⟨w.heap.size, 0, none⟩) 1 [x] := by
  refine ⟨rfl, by omega, fun _ => ⟨_, rfl, ?_⟩⟩
  intro j p hp
  obtain rfl : j = 0 := by
    rcases Nat.eq_zero_or_pos j with h | h
    · exact h
    · rw [List.getElem?_eq_none (by simp; omega)] at hp; cases hp
  have hp' : x = p := by simpa using hp
  subst hp'
  refine ⟨[.int .u64 x], rfl, rfl, ?_⟩
  intro i u hu
  rcases Nat.eq_zero_or_pos i with h | h
  · subst h
    have hu' : Value.int .u64 x = u := by simpa using hu
    subst hu'
    simp [Addr.add]
  · rw [List.getElem?_eq_none (by simp; omega)] at hu; cases hu

theorem of_any (n : Nat) (hn : (n : Int) < B64) (w : World) : Calls Tryz.prog 85 #[.int .u64 n] w (Ans (fun r w' => NatAt w' r n) w) := by
  have hr := reads_one w n 57
  have hd : Dig B64 [(n : Int)] := Dig.cons (by omega) hn (Dig.nil _)
  have hmade := made_nat (xs := [(n : Int)]) (c := 1) (Nat.le_refl _) hr hd
  have Hv : Hid ((Limbs.val B64 [(n : Int)]).toNat = n) := by apply Lib.hid; rw [val_single]; rfl
  clear hd hr
  go_enter Tryz.func85, Tryz.ntmps85
  go_wp2_with (go_at_call 150; refine hmade.mono ?_; rintro e w' ⟨r, rfl, h1, h2⟩)
  go_ret
  exact ⟨_, rfl, by rw [Hv.out] at h1; exact h1, (Ext.alloc w _).trans h2⟩

theorem cmp_any {w : World} {u v : Value} {a b : Nat} (hu : IsNat w u a) (hv : IsNat w v b) : Calls Tryz.prog 92 #[u, v] w fun e w' => e = .returned (.int .i64 (cmpI a b)) ∧ Ext w w' := by
  obtain ⟨A, c, xs, ⟨h1, h2, h3⟩, c0⟩ := limbs_any hu
  obtain ⟨A', c', ys, ⟨k1, k2, k3⟩, c1⟩ := limbs_any hv
  have c2 := compare_calls h1 h2 h3 k1 k2 k3
  clear h1 h2 h3 k1 k2 k3
  go_enter Tryz.func92, Tryz.ntmps92
  go_wp2_with fail
  refine c0.mono ?_; rintro e w1 ⟨rfl, rfl⟩
  go_wp2_with fail
  refine c1.mono ?_; rintro e w1 ⟨rfl, rfl⟩
  go_wp2_with fail
  refine c2.mono ?_; rintro e w1 ⟨rfl, h⟩
  go_wp2
  go_ret
  exact ⟨rfl, h⟩

theorem small_yes {w : World} {u : Value} {a : Nat} (hu : IsNat w u a) (ha : (a : Int) < B64) : Calls Tryz.prog 200 #[u] w fun e w' => e = .returned (.tuple #[.int .u64 a, .bool true]) ∧ w = w' := by
  obtain ⟨A, c, xs, ⟨h1, h2, h3⟩, c0⟩ := limbs_any hu
  rcases xs with _ | ⟨x, _ | ⟨y, xs⟩⟩
  · obtain rfl : a = 0 := h3.len_zero.1 rfl
    go_enter Tryz.func200, Tryz.ntmps200
    go_wp2_with (go_at_call 151; refine c0.mono ?_; rintro e w' ⟨rfl, rfl⟩)
    go_ret2
    exact ⟨rfl, rfl⟩
  · have hv := h3.val
    rw [val_single] at hv
    subst hv
    obtain ⟨ad, rfl, hcell⟩ := Kd.at_int h2 0 (by omega) (by simp)
    have hcell' : w.cell? ad = some (.int .u64 a) := by simpa [Addr.add, rd] using hcell
    clear hcell h2 h3
    go_enter Tryz.func200, Tryz.ntmps200
    go_wp2_with (go_at_call 151; refine c0.mono ?_; rintro e w' ⟨rfl, rfl⟩)
    go_ret2
    exact ⟨rfl, rfl⟩
  · exfalso
    have h4 := val_ge B64_pos h3.dig h3.nrm (by simp)
    have h5 : B64 ^ 1 ≤ B64 ^ ((x :: y :: xs).length - 1) := pow_le_pow B64_pos (by simp)
    rw [h3.val] at h4
    simp only [Int.pow_succ, Int.pow_zero, Int.one_mul] at h5
    omega
theorem small_no {w : World} {u : Value} {a : Nat} (hu : IsNat w u a) (ha : B64 ≤ (a : Int)) : Calls Tryz.prog 200 #[u] w fun e w' => e = .returned (.tuple #[.int .u64 0, .bool false]) ∧ w = w' := by
  obtain ⟨A, c, xs, ⟨h1, h2, h3⟩, c0⟩ := limbs_any hu
  have hl : 2 ≤ xs.length := by
    rcases Nat.lt_or_ge xs.length 2 with hlt | hge
    · have h4 := val_lt B64_pos h3.dig
      have h5 : B64 ^ xs.length ≤ B64 ^ 1 := pow_le_pow B64_pos (by omega)
      rw [h3.val] at h4
      simp only [Int.pow_succ, Int.pow_zero, Int.one_mul] at h5
      omega
    · exact hge
  have b0 : ((xs.length : Int) == 0) = false := beq_eq_false_iff_ne.2 (by omega)
  have b1 : ((xs.length : Int) == 1) = false := beq_eq_false_iff_ne.2 (by omega)
  clear h2 h3
  go_enter Tryz.func200, Tryz.ntmps200
  go_wp2_with (go_at_call 151; refine c0.mono ?_; rintro e w' ⟨rfl, rfl⟩)
  go_ret2
  exact ⟨rfl, rfl⟩
end Go.Proofs.YtdlcleecjeipnaaGreatDoor

/- A block of the call's own that holds words: made, written, read. And the two library calls that carry and borrow. -/
namespace Go.Proofs.YtdlcleecjeipnaaGreatDoor
open Go.RowKit Go.Proofs.YtdlcleecjeipnaaGreatDoorW.PrintWords Limbs
set_option linter.unusedVariables false

/-- Block g holds just these words. -/
def Arr (w : World) (g : Nat) (xs : List Int) : Prop := w.heap[g]? = some (.cells ((xs.map (Value.int .u64)).toArray) 57 (0, 0))

theorem Arr.lt {w : World} {g : Nat} {xs : List Int} (h : Arr w g xs) : g < w.heap.size := (Array.getElem?_eq_some_iff.1 h).1
theorem Arr.block {w w' : World} {g : Nat} {xs : List Int} (h : Arr w g xs) (he : w'.heap[g]? = w.heap[g]?) : Arr w' g xs := he.trans h
theorem Arr.ext {w w' : World} {g : Nat} {xs : List Int} (h : Arr w g xs) (he : Ext w w') : Arr w' g xs := h.block (Below.block he g h.lt)
theorem Arr.cell {w : World} {g : Nat} {xs : List Int} (h : Arr w g xs) (i : Nat) (hi : i < xs.length) : w.cell? ⟨g, i, none⟩ = some (.int .u64 (xs.getD i 0)) := by
  unfold World.cell?
  rw [show w.heap[g]? = _ from h]
  simp [hi, List.getD_eq_getElem?_getD]
theorem Arr.free {w : World} {g : Nat} {xs : List Int} (h : Arr w g xs) (i : Nat) : w.frozen? ⟨g, i, none⟩ = false := by
  unfold World.frozen?
  rw [show w.heap[g]? = _ from h]
  simp
theorem Arr.set {w : World} {g : Nat} {xs : List Int} (h : Arr w g xs) (i : Nat) (v : Int) : Arr (w.setCell ⟨g, i, none⟩ (.int .u64 v)) g (xs.set i v) := by
  have h' : w.heap[g]? = _ := h
  unfold Arr World.setCell
  simp only [Array.getElem?_modify, h', if_true, Option.map_some]
  congr 2
  rw [List.map_set]
  simp
theorem Arr.far {w : World} {g : Nat} {xs : List Int} (h : Arr w g xs) {p : Addr} (hp : g ≠ p.block) (u : Value) : Arr (w.setCell p u) g xs := h.block (Below.heap_setCell w p u g hp)
theorem Arr.reads {w : World} {g : Nat} {xs : List Int} (h : Arr w g xs) (hm : xs.length ≤ 9223372036854775807) : U.C w (some ⟨g, 0, none⟩) xs.length xs := by
  refine ⟨rfl, hm, fun _ => ⟨_, rfl, ?_⟩⟩
  intro j p hp
  have hj : j < xs.length := (List.getElem?_eq_some_iff.1 hp).1
  refine ⟨[.int .u64 p], rfl, rfl, ?_⟩
  intro i u hu
  rcases Nat.eq_zero_or_pos i with h0 | h0
  · subst h0
    have hu' : Value.int .u64 p = u := by simpa using hu
    subst hu'
    show w.cell? ((⟨g, 0, none⟩ : Addr).add (j * 1 + 0)) = _
    rw [Nat.mul_one, Nat.add_zero, add_plain, h.cell j hj, List.getD_eq_getElem?_getD, hp]; rfl
  · rw [List.getElem?_eq_none (by simp; omega)] at hu; cases hu
theorem Arr.words {w : World} {g : Nat} {xs : List Int} (h : Arr w g xs) (hm : xs.length ≤ 9223372036854775807) : Words w (.slice (some ⟨g, 0, none⟩) xs.length xs.length) xs := ⟨_, _, rfl, Nat.le_refl _, h.reads hm⟩
theorem Arr.new (w : World) (n : Nat) : Arr (w.alloc (.cells (madeCells #[.int .u64 0] n) 57)) w.heap.size (List.replicate n 0) := by
  unfold Arr
  rw [heap_alloc_new]
  congr 2
  simp only [madeCells]
  apply Array.ext
  · simp
  · intro i h1 h2
    simp [Nat.mod_one]

/-- make([]uint64, n). -/
theorem make_words (n : Nat) (hn : n ≤ 35184372088832) : ∃ O, Hid (O = Obj.cells (madeCells #[.int .u64 0] n) 57) ∧ ∀ W : World, (Instr.makeSlice 33 (.int .i64 (n : Int)) (.int .i64 (n : Int))).run Tryz.prog W = .ok (.slice (some ⟨W.heap.size, 0, none⟩) n n) (W.alloc O) :=
  ⟨_, Lib.hid rfl, print_make 33 57 .u64 8 Tryz.underlying33 PAll.info57 (by decide) n (by omega)⟩

/-- math/bits.Add64. -/
theorem add64_run (x y c : Int) (hx0 : 0 ≤ x) (hx : x < B64) (hy0 : 0 ≤ y) (hy : y < B64) (hc0 : 0 ≤ c) (hc : c ≤ 1) :
    ∃ s d : Int, (0 ≤ s ∧ s < B64 ∧ 0 ≤ d ∧ d ≤ 1 ∧ Hid (s + B64 * d = x + y + c)) ∧ ∀ W : World, (callFunc 158 #[.int .u64 x, .int .u64 y, .int .u64 c]).run Tryz.prog W = .ok (.value (.tuple #[.int .u64 s, .int .u64 d])) W := by
  unfold B64 at *
  obtain ⟨x, rfl⟩ := Int.eq_ofNat_of_zero_le hx0
  obtain ⟨y, rfl⟩ := Int.eq_ofNat_of_zero_le hy0
  obtain ⟨c, rfl⟩ := Int.eq_ofNat_of_zero_le hc0
  refine ⟨(((x + y + c) % 18446744073709551616 : Nat) : Int), (((x + y + c) / 18446744073709551616 : Nat) : Int), ⟨by omega, by omega, by omega, by omega, Lib.hid (by omega)⟩, fun W => ?_⟩
  rw [run_callFunc_extern Tryz.func158 (by kernel_rfl) (by kernel_rfl) (by kernel_rfl) (e := add64Entry) (by kernel_rfl), run_add64 x y c (by omega) (by omega) (by omega) (by omega)]
  simp only [Result.andThen]
  congr 5 <;> omega

/-- The model's entry for math/bits.Sub64. -/
def sub64E : Array Value → Sem Value := fun args => do
  let (x, y, b) ← Extern.MathBitsCarry.three "Sub64" args
  pure (Extern.MathBitsCarry.pair ((x + Extern.MathBitsCarry.m64 - y - b) % Extern.MathBitsCarry.m64) (if x < y + b then 1 else 0))
theorem run_sub64E (x y b : Nat) (hb : b ≤ 1) (w : World) :
    (sub64E #[.int .u64 x, .int .u64 y, .int .u64 b]).run Tryz.prog w =
      .ok (.tuple #[.int .u64 (((x + 18446744073709551616 - y - b) % 18446744073709551616 : Nat) : Int), .int .u64 ((if x < y + b then 1 else 0 : Nat) : Int)]) w := by
  have : b = 0 ∨ b = 1 := by omega
  rcases this with rfl | rfl <;> rfl

/-- math/bits.Sub64. -/
theorem sub64_run (x y c : Int) (hx0 : 0 ≤ x) (hx : x < B64) (hy0 : 0 ≤ y) (hy : y < B64) (hc0 : 0 ≤ c) (hc : c ≤ 1) :
    ∃ s d : Int, (0 ≤ s ∧ s < B64 ∧ 0 ≤ d ∧ d ≤ 1 ∧ Hid (s - B64 * d = x - y - c)) ∧ ∀ W : World, (callFunc 223 #[.int .u64 x, .int .u64 y, .int .u64 c]).run Tryz.prog W = .ok (.value (.tuple #[.int .u64 s, .int .u64 d])) W := by
  unfold B64 at *
  obtain ⟨x, rfl⟩ := Int.eq_ofNat_of_zero_le hx0
  obtain ⟨y, rfl⟩ := Int.eq_ofNat_of_zero_le hy0
  obtain ⟨c, rfl⟩ := Int.eq_ofNat_of_zero_le hc0
  refine ⟨(((x + 18446744073709551616 - y - c) % 18446744073709551616 : Nat) : Int), ((if x < y + c then 1 else 0 : Nat) : Int), ⟨by omega, by omega, by omega, by split <;> omega, Lib.hid (by split <;> omega)⟩, fun W => ?_⟩
  rw [run_callFunc_extern Tryz.func223 (by kernel_rfl) (by kernel_rfl) (by kernel_rfl) (e := sub64E) (by kernel_rfl), run_sub64E x y c (by omega)]
  rfl
end Go.Proofs.YtdlcleecjeipnaaGreatDoor

/- nat.Add: the sum of two numbers. The plain law of one round first; then the walk, once for each of the two orders. -/
namespace Go.Proofs.YtdlcleecjeipnaaGreatDoor
open Go.RowKit Go.Proofs.YtdlcleecjeipnaaGreatDoorW.PrintWords Limbs
set_option linter.unusedVariables false

/-- What holds of the sum's limbs behind k rounds. -/
structure AddInv (xs ys zs : List Int) (k : Nat) (c : Int) : Prop where
  len : zs.length = xs.length + 1
  dig : Dig B64 zs
  c0 : 0 ≤ c
  c1 : c ≤ 1
  eqn : Limbs.val B64 (zs.take k) + B64 ^ k * c = Limbs.val B64 (xs.take k) + Limbs.val B64 (ys.take k)

theorem AddInv.start (xs ys : List Int) : AddInv xs ys (List.replicate (xs.length + 1) 0) 0 0 :=
  ⟨by simp, Dig.replicate B64_pos _, Int.le_refl _, by decide, by simp [Limbs.val]⟩

theorem take_more (ys : List Int) (k : Nat) : Limbs.val B64 (ys.take (k + 1)) = Limbs.val B64 (ys.take k) + B64 ^ k * (if k < ys.length then ys.getD k 0 else 0) := by
  split
  · rename_i h; exact val_take_succ B64 ys k h
  · rename_i h; rw [List.take_of_length_le (by omega), List.take_of_length_le (by omega)]; simp

theorem AddInv.step {xs ys zs : List Int} {k : Nat} {c s d y : Int} (h : AddInv xs ys zs k c) (hk : k < xs.length) (hy : y = if k < ys.length then ys.getD k 0 else 0)
    (hs0 : 0 ≤ s) (hs1 : s < B64) (hd0 : 0 ≤ d) (hd1 : d ≤ 1) (he : s + B64 * d = xs.getD k 0 + y + c) : AddInv xs ys (zs.set k s) (k + 1) d := by
  refine ⟨by simpa using h.len, h.dig.set k hs0 hs1, hd0, hd1, ?_⟩
  rw [val_take_set B64 s zs k (by have := h.len; omega), take_more ys k, ← hy, val_take_succ B64 xs k hk, Int.pow_succ]
  have h1 := h.eqn
  have h2 : B64 ^ k * (s + B64 * d) = B64 ^ k * (xs.getD k 0 + y + c) := by rw [he]
  grind

theorem AddInv.fin {xs ys zs : List Int} {c : Int} {a b : Nat} (h : AddInv xs ys zs xs.length c) (hl : ys.length ≤ xs.length) (hx : Lim xs a) (hy : Lim ys b) :
    Dig B64 (zs.set xs.length c) ∧ (Limbs.val B64 (zs.set xs.length c)).toNat = a + b := by
  have hlen := h.len
  refine ⟨h.dig.set _ h.c0 (by have := h.c1; unfold B64; omega), ?_⟩
  have e1 : zs.set xs.length c = (zs.set xs.length c).take (xs.length + 1) := by rw [List.take_of_length_le]; simp; omega
  rw [e1, val_take_set B64 c zs _ (by omega), h.eqn, List.take_length, List.take_of_length_le hl, hx.val, hy.val]
  omega

set_option maxHeartbeats 1000000 in
theorem add_any {w : World} {u v : Value} {a b : Nat} (hu : IsNat w u a) (hv : IsNat w v b) (ha : a < BIG) (hb : b < BIG) :
    Calls Tryz.prog 91 #[u, v] w (Ans (fun r w' => NatAt w' r (a + b)) w) := by
  obtain ⟨A, c, xs, ⟨h1, h2, h3⟩, c0⟩ := limbs_any hu
  obtain ⟨A', c', ys, ⟨k1, k2, k3⟩, c1⟩ := limbs_any hv
  have lx := h3.len_le ha
  have ly := k3.len_le hb
  clear ha hb
  by_cases hlt : xs.length < ys.length
  · obtain ⟨O, HO, hmk⟩ := make_words (ys.length + 1) (by omega)
    have ec : ((ys.length + 1 : Nat) : Int) = (ys.length : Int) + 1 := by omega
    rw [ec] at hmk
    clear ec
    have hA0 : Arr (w.alloc O) w.heap.size (List.replicate (ys.length + 1) 0) := by rw [HO.out]; exact Arr.new w _
    have hE0 : Ext w (w.alloc O) := Ext.alloc w O
    have hI0 := AddInv.start ys xs
    go_enter Tryz.func91, Tryz.ntmps91
    go_wp2_with fail
    refine c0.mono ?_; rintro e w1 ⟨rfl, rfl⟩
    go_wp2_with fail
    refine c1.mono ?_; rintro e w1 ⟨rfl, rfl⟩
    go_wp2_with fail
    go_loopw [8, 28] (fun cr ix wr => ∃ (k : Nat) (c : Int) (zs : List Int), ix = .int .i64 k ∧ cr = .int .u64 c ∧ k ≤ ys.length ∧ AddInv ys xs zs k c ∧ Arr wr w.heap.size zs ∧ Ext w wr) (fun _ ix _ => ys.length - (intOf ix).toNat)
    case atStart => exact ⟨0, 0, _, rfl, rfl, Nat.zero_le _, hI0, hA0, hE0⟩
    case round =>
      clear hmk hA0 hE0 hI0 HO
      obtain ⟨k, c, zs, rfl, rfl, hk, hI, hA, hE⟩ := hrel
      have hzl := hI.len
      by_cases hkl : k < ys.length
      · obtain ⟨ad, rfl, hcell⟩ := Kd.at_int k2 (k : Int) (by omega) (by omega)
        have hcx : wr.cell? (ad.add k) = some (.int .u64 (ys.getD k 0)) := hE.cell hcell
        clear hcell
        have dx := k3.dig.get k B64_pos
        obtain ⟨x, hx⟩ : ∃ x, Hid (x = ys.getD k 0) := ⟨_, Lib.hid rfl⟩
        rw [← hx.out] at hcx dx
        have hco := hA.cell k (by omega)
        have hfo := hA.free k
        obtain ⟨z, hz⟩ : ∃ z, Hid (z = zs.getD k 0) := ⟨_, Lib.hid rfl⟩
        rw [← hz.out] at hco
        clear hz
        by_cases hks : k < xs.length
        · obtain ⟨ad', rfl, hcell⟩ := Kd.at_int h2 (k : Int) (by omega) (by omega)
          have hcy : wr.cell? (ad'.add k) = some (.int .u64 (xs.getD k 0)) := hE.cell hcell
          clear hcell
          have dy := h3.dig.get k B64_pos
          obtain ⟨y, hy⟩ : ∃ y, Hid (y = xs.getD k 0) := ⟨_, Lib.hid rfl⟩
          rw [← hy.out] at hcy dy
          obtain ⟨s, d, ⟨s0, s1, d0, d1, he⟩, hrun⟩ := add64_run x y c dx.1 dx.2 dy.1 dy.2 hI.c0 hI.c1
          have hI' : AddInv ys xs (zs.set k s) (k + 1) d := hI.step hkl (y := y) (by rw [if_pos hks]; exact hy.out) s0 s1 d0 d1 (by rw [← hx.out]; exact he.out)
          have hA' := hA.set k s
          have hE' : Ext w (wr.setCell ⟨w.heap.size, k, none⟩ (.int .u64 s)) := Below.setCell hE (Nat.le_refl _) _
          clear hI hA hE hx hy he hzl dx dy s0 s1 d0 d1
          go_wp2
          go_roundw
          case rel => exact ⟨k + 1, d, _, by go_num, rfl, by omega, hI', hA', hE'⟩
          case measure => simp [intOf]; omega
        · obtain ⟨s, d, ⟨s0, s1, d0, d1, he⟩, hrun⟩ := add64_run x 0 c dx.1 dx.2 (by decide) B64_pos hI.c0 hI.c1
          have hI' : AddInv ys xs (zs.set k s) (k + 1) d := hI.step hkl (y := 0) (by rw [if_neg hks]) s0 s1 d0 d1 (by rw [← hx.out]; exact he.out)
          have hA' := hA.set k s
          have hE' : Ext w (wr.setCell ⟨w.heap.size, k, none⟩ (.int .u64 s)) := Below.setCell hE (Nat.le_refl _) _
          clear hI hA hE hx he hzl dx s0 s1 d0 d1
          go_wp2
          go_roundw
          case rel => exact ⟨k + 1, d, _, by go_num, rfl, by omega, hI', hA', hE'⟩
          case measure => simp [intOf]; omega
      · obtain rfl : k = ys.length := by omega
        have hco := hA.cell ys.length (by omega)
        have hfo := hA.free ys.length
        obtain ⟨z, hz⟩ : ∃ z, Hid (z = zs.getD ys.length 0) := ⟨_, Lib.hid rfl⟩
        rw [← hz.out] at hco
        clear hz
        have hF := hI.fin (by omega) k3 h3
        have hA' := hA.set ys.length c
        have hE' : Ext w (wr.setCell ⟨w.heap.size, ys.length, none⟩ (.int .u64 c)) := Below.setCell hE (Nat.le_refl _) _
        have hlen' : (zs.set ys.length c).length = ys.length + 1 := by simpa using hzl
        have hm := made_nat (Nat.le_refl _) (hA'.reads (by omega)) hF.1
        rw [hF.2, hlen'] at hm
        clear hI hA hE hF hA' hzl hlen'
        go_wp2_with (go_at_call 150; refine hm.mono ?_; rintro e w' ⟨r, rfl, hr, hE2⟩)
        go_ret
        exact ⟨_, rfl, by rw [Nat.add_comm]; exact hr, hE'.trans hE2⟩
  · obtain ⟨O, HO, hmk⟩ := make_words (xs.length + 1) (by omega)
    have ec : ((xs.length + 1 : Nat) : Int) = (xs.length : Int) + 1 := by omega
    rw [ec] at hmk
    clear ec
    have hA0 : Arr (w.alloc O) w.heap.size (List.replicate (xs.length + 1) 0) := by rw [HO.out]; exact Arr.new w _
    have hE0 : Ext w (w.alloc O) := Ext.alloc w O
    have hI0 := AddInv.start xs ys
    go_enter Tryz.func91, Tryz.ntmps91
    go_wp2_with fail
    refine c0.mono ?_; rintro e w1 ⟨rfl, rfl⟩
    go_wp2_with fail
    refine c1.mono ?_; rintro e w1 ⟨rfl, rfl⟩
    go_wp2_with fail
    go_loopw [8, 28] (fun cr ix wr => ∃ (k : Nat) (c : Int) (zs : List Int), ix = .int .i64 k ∧ cr = .int .u64 c ∧ k ≤ xs.length ∧ AddInv xs ys zs k c ∧ Arr wr w.heap.size zs ∧ Ext w wr) (fun _ ix _ => xs.length - (intOf ix).toNat)
    case atStart => exact ⟨0, 0, _, rfl, rfl, Nat.zero_le _, hI0, hA0, hE0⟩
    case round =>
      clear hmk hA0 hE0 hI0 HO
      obtain ⟨k, c, zs, rfl, rfl, hk, hI, hA, hE⟩ := hrel
      have hzl := hI.len
      by_cases hkl : k < xs.length
      · obtain ⟨ad, rfl, hcell⟩ := Kd.at_int h2 (k : Int) (by omega) (by omega)
        have hcx : wr.cell? (ad.add k) = some (.int .u64 (xs.getD k 0)) := hE.cell hcell
        clear hcell
        have dx := h3.dig.get k B64_pos
        obtain ⟨x, hx⟩ : ∃ x, Hid (x = xs.getD k 0) := ⟨_, Lib.hid rfl⟩
        rw [← hx.out] at hcx dx
        have hco := hA.cell k (by omega)
        have hfo := hA.free k
        obtain ⟨z, hz⟩ : ∃ z, Hid (z = zs.getD k 0) := ⟨_, Lib.hid rfl⟩
        rw [← hz.out] at hco
        clear hz
        by_cases hks : k < ys.length
        · obtain ⟨ad', rfl, hcell⟩ := Kd.at_int k2 (k : Int) (by omega) (by omega)
          have hcy : wr.cell? (ad'.add k) = some (.int .u64 (ys.getD k 0)) := hE.cell hcell
          clear hcell
          have dy := k3.dig.get k B64_pos
          obtain ⟨y, hy⟩ : ∃ y, Hid (y = ys.getD k 0) := ⟨_, Lib.hid rfl⟩
          rw [← hy.out] at hcy dy
          obtain ⟨s, d, ⟨s0, s1, d0, d1, he⟩, hrun⟩ := add64_run x y c dx.1 dx.2 dy.1 dy.2 hI.c0 hI.c1
          have hI' : AddInv xs ys (zs.set k s) (k + 1) d := hI.step hkl (y := y) (by rw [if_pos hks]; exact hy.out) s0 s1 d0 d1 (by rw [← hx.out]; exact he.out)
          have hA' := hA.set k s
          have hE' : Ext w (wr.setCell ⟨w.heap.size, k, none⟩ (.int .u64 s)) := Below.setCell hE (Nat.le_refl _) _
          clear hI hA hE hx hy he hzl dx dy s0 s1 d0 d1
          go_wp2
          go_roundw
          case rel => exact ⟨k + 1, d, _, by go_num, rfl, by omega, hI', hA', hE'⟩
          case measure => simp [intOf]; omega
        · obtain ⟨s, d, ⟨s0, s1, d0, d1, he⟩, hrun⟩ := add64_run x 0 c dx.1 dx.2 (by decide) B64_pos hI.c0 hI.c1
          have hI' : AddInv xs ys (zs.set k s) (k + 1) d := hI.step hkl (y := 0) (by rw [if_neg hks]) s0 s1 d0 d1 (by rw [← hx.out]; exact he.out)
          have hA' := hA.set k s
          have hE' : Ext w (wr.setCell ⟨w.heap.size, k, none⟩ (.int .u64 s)) := Below.setCell hE (Nat.le_refl _) _
          clear hI hA hE hx he hzl dx s0 s1 d0 d1
          go_wp2
          go_roundw
          case rel => exact ⟨k + 1, d, _, by go_num, rfl, by omega, hI', hA', hE'⟩
          case measure => simp [intOf]; omega
      · obtain rfl : k = xs.length := by omega
        have hco := hA.cell xs.length (by omega)
        have hfo := hA.free xs.length
        obtain ⟨z, hz⟩ : ∃ z, Hid (z = zs.getD xs.length 0) := ⟨_, Lib.hid rfl⟩
        rw [← hz.out] at hco
        clear hz
        have hF := hI.fin (by omega) h3 k3
        have hA' := hA.set xs.length c
        have hE' : Ext w (wr.setCell ⟨w.heap.size, xs.length, none⟩ (.int .u64 c)) := Below.setCell hE (Nat.le_refl _) _
        have hlen' : (zs.set xs.length c).length = xs.length + 1 := by simpa using hzl
        have hm := made_nat (Nat.le_refl _) (hA'.reads (by omega)) hF.1
        rw [hF.2, hlen'] at hm
        clear hI hA hE hF hA' hzl hlen'
        go_wp2_with (go_at_call 150; refine hm.mono ?_; rintro e w' ⟨r, rfl, hr, hE2⟩)
        go_ret
        exact ⟨_, rfl, hr, hE'.trans hE2⟩
end Go.Proofs.YtdlcleecjeipnaaGreatDoor

/- nat.Sub: the difference of two numbers, or an error. fault.Of: the error of a code. -/
namespace Go.Proofs.YtdlcleecjeipnaaGreatDoor
open Go.RowKit Go.Proofs.YtdlcleecjeipnaaGreatDoorW.PrintWords Limbs
set_option linter.unusedVariables false

/-- The error of a code. -/
def errV (c : Int) : Value := .iface 199 (.int .i64 c)

theorem fault_of (c : Int) (hc : c ≠ 0) (w : World) : Calls Tryz.prog 98 #[.int .i64 c] w fun e w' => e = .returned (.iface 199 (.int .i64 c)) ∧ w = w' := by
  have hb : (c == 0) = false := beq_eq_false_iff_ne.2 hc
  clear hc
  go_enter Tryz.func98, Tryz.ntmps98
  go_wp2
  go_ret
  exact ⟨rfl, rfl⟩
theorem fault_of_ok (w : World) : Calls Tryz.prog 98 #[.int .i64 0] w fun e w' => e = .returned .nilIface ∧ w = w' := by
  go_enter Tryz.func98, Tryz.ntmps98
  go_wp2
  go_ret
  exact ⟨rfl, rfl⟩

/-- What holds of the difference's limbs behind k rounds. -/
structure SubInv (xs ys zs : List Int) (k : Nat) (c : Int) : Prop where
  len : zs.length = xs.length
  dig : Dig B64 zs
  c0 : 0 ≤ c
  c1 : c ≤ 1
  eqn : Limbs.val B64 (zs.take k) - B64 ^ k * c = Limbs.val B64 (xs.take k) - Limbs.val B64 (ys.take k)

theorem SubInv.start (xs ys : List Int) : SubInv xs ys (List.replicate xs.length 0) 0 0 :=
  ⟨by simp, Dig.replicate B64_pos _, Int.le_refl _, by decide, by simp [Limbs.val]⟩

theorem SubInv.step {xs ys zs : List Int} {k : Nat} {c s d y : Int} (h : SubInv xs ys zs k c) (hk : k < xs.length) (hy : y = if k < ys.length then ys.getD k 0 else 0)
    (hs0 : 0 ≤ s) (hs1 : s < B64) (hd0 : 0 ≤ d) (hd1 : d ≤ 1) (he : s - B64 * d = xs.getD k 0 - y - c) : SubInv xs ys (zs.set k s) (k + 1) d := by
  refine ⟨by simpa using h.len, h.dig.set k hs0 hs1, hd0, hd1, ?_⟩
  rw [val_take_set B64 s zs k (by have := h.len; omega), take_more ys k, ← hy, val_take_succ B64 xs k hk, Int.pow_succ]
  have h1 := h.eqn
  have h2 : B64 ^ k * (s - B64 * d) = B64 ^ k * (xs.getD k 0 - y - c) := by rw [he]
  grind

theorem SubInv.fin {xs ys zs : List Int} {c : Int} (h : SubInv xs ys zs xs.length c) (hl : ys.length ≤ xs.length) (hx : Dig B64 xs) (hle : Limbs.val B64 ys ≤ Limbs.val B64 xs) :
    c = 0 ∧ Limbs.val B64 zs = Limbs.val B64 xs - Limbs.val B64 ys := by
  have hlen := h.len
  have e := h.eqn
  rw [List.take_of_length_le (by omega), List.take_length, List.take_of_length_le hl] at e
  have h1 := val_lt B64_pos h.dig
  rw [hlen] at h1
  have hc : c = 0 := by
    rcases Int.lt_or_le 0 c with hc | hc
    · have hc1 : c = 1 := by have := h.c1; omega
      rw [hc1] at e
      omega
    · have := h.c0; omega
  rw [hc] at e
  exact ⟨hc, by omega⟩

theorem cmpI_lt {a b : Int} (h : a < b) : cmpI a b = -1 := by unfold cmpI; rw [if_pos h]
theorem cmpI_eq (a : Int) : cmpI a a = 0 := by unfold cmpI; rw [if_neg (by omega), if_neg (by omega)]
theorem cmpI_gt {a b : Int} (h : b < a) : cmpI a b = 1 := by unfold cmpI; rw [if_neg (by omega), if_pos h]
theorem cmpI_ge {a b : Int} (h : b ≤ a) : 0 ≤ cmpI a b := by unfold cmpI; rw [if_neg (by omega)]; split <;> omega

theorem sub_no {w : World} {u v : Value} {a b : Nat} (hu : IsNat w u a) (hv : IsNat w v b) (hab : a < b) :
    Calls Tryz.prog 178 #[u, v] w fun e w' => e = .returned (.tuple #[.pointer none, .iface 199 (.int .i64 2)]) ∧ Ext w w' := by
  obtain ⟨A, c, xs, ⟨h1, h2, h3⟩, c0⟩ := limbs_any hu
  obtain ⟨A', c', ys, ⟨k1, k2, k3⟩, c1⟩ := limbs_any hv
  have c2 := compare_calls h1 h2 h3 k1 k2 k3
  rw [cmpI_lt (by omega)] at c2
  clear h1 h2 h3 k1 k2 k3
  go_enter Tryz.func178, Tryz.ntmps178
  go_wp2_with fail
  refine c0.mono ?_; rintro e w1 ⟨rfl, rfl⟩
  go_wp2_with fail
  refine c1.mono ?_; rintro e w1 ⟨rfl, rfl⟩
  go_wp2_with fail
  refine c2.mono ?_; rintro e w1 ⟨rfl, h⟩
  go_wp2_with (go_at_call 98; refine (fault_of 2 (by decide) _).mono ?_; rintro e w' ⟨rfl, rfl⟩)
  go_ret2
  exact ⟨rfl, h⟩

set_option maxHeartbeats 1000000 in
theorem sub_yes {w : World} {u v : Value} {a b : Nat} (hu : IsNat w u a) (hv : IsNat w v b) (hab : b ≤ a) (ha : a < BIG) :
    Calls Tryz.prog 178 #[u, v] w (Ans2 (fun r s w' => NatAt w' r (a - b) ∧ s = .nilIface) w) := by
  obtain ⟨A, c, xs, ⟨h1, h2, h3⟩, c0⟩ := limbs_any hu
  obtain ⟨A', c', ys, ⟨k1, k2, k3⟩, c1⟩ := limbs_any hv
  have c2 := compare_calls h1 h2 h3 k1 k2 k3
  have hcm : 0 ≤ cmpI a b := cmpI_ge (by omega)
  have lx := h3.len_le ha
  have hlen : ys.length ≤ xs.length := by
    rcases Nat.lt_or_ge xs.length ys.length with h | h
    · have := val_lt_of_length B64_pos h3.dig k3.dig k3.nrm h
      rw [h3.val, k3.val] at this
      omega
    · exact h
  obtain ⟨O, HO, hmk⟩ := make_words xs.length (by omega)
  have hI0 := SubInv.start xs ys
  clear ha
  go_enter Tryz.func178, Tryz.ntmps178
  go_wp2_with fail
  refine c0.mono ?_; rintro e w1 ⟨rfl, rfl⟩
  go_wp2_with fail
  refine c1.mono ?_; rintro e w1 ⟨rfl, rfl⟩
  go_wp2_with fail
  refine c2.mono ?_; rintro e w1 ⟨rfl, hx1⟩
  have h2' := Kd.C_below h2 hx1
  have k2' := Kd.C_below k2 hx1
  clear h2 k2
  have hA0 : Arr (w1.alloc O) w1.heap.size (List.replicate xs.length 0) := by rw [HO.out]; exact Arr.new w1 _
  have hE0 : Ext w1 (w1.alloc O) := Ext.alloc w1 O
  go_wp2_with fail
  go_loopw [9, 26] (fun cr ix wr => ∃ (k : Nat) (c : Int) (zs : List Int), ix = .int .i64 k ∧ cr = .int .u64 c ∧ k ≤ xs.length ∧ SubInv xs ys zs k c ∧ Arr wr w1.heap.size zs ∧ Ext w1 wr) (fun _ ix _ => xs.length - (intOf ix).toNat)
  case atStart => exact ⟨0, 0, _, rfl, rfl, Nat.zero_le _, hI0, hA0, hE0⟩
  case round =>
    clear hmk hA0 hE0 hI0 HO
    obtain ⟨k, c, zs, rfl, rfl, hk, hI, hA, hE⟩ := hrel
    have hzl := hI.len
    by_cases hkl : k < xs.length
    · obtain ⟨ad, rfl, hcell⟩ := Kd.at_int h2' (k : Int) (by omega) (by omega)
      have hcx : wr.cell? (ad.add k) = some (.int .u64 (xs.getD k 0)) := hE.cell hcell
      clear hcell
      have dx := h3.dig.get k B64_pos
      obtain ⟨x, hx⟩ : ∃ x, Hid (x = xs.getD k 0) := ⟨_, Lib.hid rfl⟩
      rw [← hx.out] at hcx dx
      have hco := hA.cell k (by omega)
      have hfo := hA.free k
      obtain ⟨z, hz⟩ : ∃ z, Hid (z = zs.getD k 0) := ⟨_, Lib.hid rfl⟩
      rw [← hz.out] at hco
      clear hz
      by_cases hks : k < ys.length
      · obtain ⟨ad', rfl, hcell⟩ := Kd.at_int k2' (k : Int) (by omega) (by omega)
        have hcy : wr.cell? (ad'.add k) = some (.int .u64 (ys.getD k 0)) := hE.cell hcell
        clear hcell
        have dy := k3.dig.get k B64_pos
        obtain ⟨y, hy⟩ : ∃ y, Hid (y = ys.getD k 0) := ⟨_, Lib.hid rfl⟩
        rw [← hy.out] at hcy dy
        obtain ⟨s, d, ⟨s0, s1, d0, d1, he⟩, hrun⟩ := sub64_run x y c dx.1 dx.2 dy.1 dy.2 hI.c0 hI.c1
        have hI' : SubInv xs ys (zs.set k s) (k + 1) d := hI.step hkl (y := y) (by rw [if_pos hks]; exact hy.out) s0 s1 d0 d1 (by rw [← hx.out]; exact he.out)
        have hA' := hA.set k s
        have hE' : Ext w1 (wr.setCell ⟨w1.heap.size, k, none⟩ (.int .u64 s)) := Below.setCell hE (Nat.le_refl _) _
        clear hI hA hE hx hy he hzl dx dy s0 s1 d0 d1
        go_wp2
        go_roundw
        case rel => exact ⟨k + 1, d, _, by go_num, rfl, by omega, hI', hA', hE'⟩
        case measure => simp [intOf]; omega
      · obtain ⟨s, d, ⟨s0, s1, d0, d1, he⟩, hrun⟩ := sub64_run x 0 c dx.1 dx.2 (by decide) B64_pos hI.c0 hI.c1
        have hI' : SubInv xs ys (zs.set k s) (k + 1) d := hI.step hkl (y := 0) (by rw [if_neg hks]) s0 s1 d0 d1 (by rw [← hx.out]; exact he.out)
        have hA' := hA.set k s
        have hE' : Ext w1 (wr.setCell ⟨w1.heap.size, k, none⟩ (.int .u64 s)) := Below.setCell hE (Nat.le_refl _) _
        clear hI hA hE hx he hzl dx s0 s1 d0 d1
        go_wp2
        go_roundw
        case rel => exact ⟨k + 1, d, _, by go_num, rfl, by omega, hI', hA', hE'⟩
        case measure => simp [intOf]; omega
    · obtain rfl : k = xs.length := by omega
      have hF := (hI.fin hlen h3.dig (by rw [h3.val, k3.val]; omega)).2
      rw [h3.val, k3.val] at hF
      have hm := made_nat (c := xs.length) (by omega) (hA.reads (by omega)) hI.dig
      rw [hF, hzl] at hm
      have Hv : Hid (((a : Int) - b).toNat = a - b) := Lib.hid (by omega)
      clear hI hA hF hzl
      go_wp2_with (go_at_call 150; refine hm.mono ?_; rintro e w' ⟨r, rfl, hr, hE2⟩)
      go_ret2
      exact ⟨_, _, rfl, ⟨by rw [← Hv.out]; exact hr, rfl⟩, hx1.trans (hE.trans hE2)⟩
end Go.Proofs.YtdlcleecjeipnaaGreatDoor

/- The guess of a quotient's digit (Knuth's D): never too small, at most two too great. Plain arithmetic. -/
namespace Go.Proofs.YtdlcleecjeipnaaGreatDoor.Knuth

theorem mul_lt_of {a b c : Int} (hc : 0 < c) (h : a * c < b * c) : a < b := Int.lt_of_mul_lt_mul_right h (Int.le_of_lt hc)

/-- What a first guess may be: q t at most the two highest digits. -/
theorem first_ge {b p t s v0 u1 u0 w0 q V U Q : Int} (hp : 0 < p) (hb : 0 < b) (hQ0 : 0 ≤ Q)
    (hV : V = (t * b + s) * p + v0) (hs : 0 ≤ s) (hv : 0 ≤ v0) (hU : U = (u1 * b + u0) * p + w0) (hu0 : u0 < b) (hw : w0 < p)
    (hQ : Q * V ≤ U) (hq : u1 < (q + 1) * t) (ht : 0 < t) : Q ≤ q := by
  -- Q t b p <= Q V <= U < (u1 + 1) b p
  have h1 : Q * (t * b * p) ≤ Q * V := Int.mul_le_mul_of_nonneg_left (by
    have : 0 ≤ s * p := Int.mul_nonneg hs (Int.le_of_lt hp)
    have e : (t * b + s) * p = t * b * p + s * p := by grind
    omega) hQ0
  have h2 : U < (u1 + 1) * b * p := by
    have h3 : (u1 * b + u0 + 1) * p ≤ ((u1 + 1) * b) * p := Int.mul_le_mul_of_nonneg_right (by
      have e : (u1 + 1) * b = u1 * b + b := by grind
      omega) (Int.le_of_lt hp)
    have e : (u1 * b + u0 + 1) * p = (u1 * b + u0) * p + p := by grind
    omega
  have h4 : Q * t < u1 + 1 := by
    refine mul_lt_of (c := b * p) (Int.mul_pos hb hp) ?_
    have e1 : Q * t * (b * p) = Q * (t * b * p) := by grind
    have e2 : (u1 + 1) * (b * p) = (u1 + 1) * b * p := by grind
    omega
  have h5 : Q * t < (q + 1) * t := by omega
  have := mul_lt_of ht h5
  omega

theorem first_le {b p t s v0 u1 u0 w0 q V U Q : Int} (hp : 0 < p) (hb : 0 < b)
    (hV : V = (t * b + s) * p + v0) (hs : s < b) (hv : v0 < p) (hU : U = (u1 * b + u0) * p + w0) (hu0 : 0 ≤ u0) (hw : 0 ≤ w0)
    (hQ : U < (Q + 1) * V) (hQ0 : 0 ≤ Q) (hQb : Q < b) (hq : q * t ≤ u1) (ht : b ≤ 2 * t) : q ≤ Q + 2 := by
  have h1 : V ≤ (t + 1) * b * p := by
    have h3 : (t * b + s + 1) * p ≤ ((t + 1) * b) * p := Int.mul_le_mul_of_nonneg_right (by
      have e : (t + 1) * b = t * b + b := by grind
      omega) (Int.le_of_lt hp)
    have e : (t * b + s + 1) * p = (t * b + s) * p + p := by grind
    omega
  have h2 : (Q + 1) * V ≤ (Q + 1) * ((t + 1) * b * p) := Int.mul_le_mul_of_nonneg_left h1 (by omega)
  have h3 : q * t * (b * p) ≤ U := by
    have h4 : q * t * (b * p) ≤ u1 * (b * p) := Int.mul_le_mul_of_nonneg_right hq (Int.le_of_lt (Int.mul_pos hb hp))
    have h5 : 0 ≤ u0 * p := Int.mul_nonneg hu0 (Int.le_of_lt hp)
    have e : (u1 * b + u0) * p = u1 * (b * p) + u0 * p := by grind
    omega
  have h4 : q * t < (Q + 1) * (t + 1) := by
    refine mul_lt_of (c := b * p) (Int.mul_pos hb hp) ?_
    have e : (Q + 1) * (t + 1) * (b * p) = (Q + 1) * ((t + 1) * b * p) := by grind
    omega
  rcases Int.lt_or_le (Q + 2) q with h | h
  · exfalso
    have h5 : (Q + 3) * t ≤ q * t := Int.mul_le_mul_of_nonneg_right (by omega) (by omega)
    have e1 : (Q + 3) * t = Q * t + 3 * t := by grind
    have e2 : (Q + 1) * (t + 1) = Q * t + t + Q + 1 := by grind
    omega
  · exact h

/-- A guess that the next digit shows to be too great is so. -/
theorem next_ge {b p t s v0 u1 u0 w0 q r V U Q : Int} (hp : 0 < p)
    (hV : V = (t * b + s) * p + v0) (hv : 0 ≤ v0) (hU : U = (u1 * b + u0) * p + w0) (hw : w0 < p) (hq0 : 0 ≤ q)
    (hQ : Q * V ≤ U) (hV0 : 0 < V) (hqr : q * t + r = u1) (hbig : r * b + u0 < q * s) : Q ≤ q - 1 := by
  have h1 : q * ((t * b + s) * p) ≤ q * V := Int.mul_le_mul_of_nonneg_left (by omega) hq0
  have h2 : (u1 * b + u0 + 1) * p ≤ (q * (t * b + s)) * p := Int.mul_le_mul_of_nonneg_right (by
    have e1 : q * (t * b + s) = q * t * b + q * s := by grind
    have e2 : u1 * b = q * t * b + r * b := by rw [← hqr]; grind
    omega) (Int.le_of_lt hp)
  have e1 : (u1 * b + u0 + 1) * p = (u1 * b + u0) * p + p := by grind
  have e2 : q * ((t * b + s) * p) = (q * (t * b + s)) * p := by grind
  have h3 : Q * V < q * V := by omega
  have := mul_lt_of hV0 h3
  omega

end Go.Proofs.YtdlcleecjeipnaaGreatDoor.Knuth

/- math/bits.Div64 and the shifts: the plain arithmetic of a quotient of two words by one, half a word at a time. -/
namespace Go.Proofs.YtdlcleecjeipnaaGreatDoor
open Go.RowKit Limbs
set_option linter.unusedVariables false

/-- Half a word. -/
def B32 : Int := 4294967296
theorem B32_pos : 0 < B32 := by unfold B32; omega
theorem B32_sq : B32 * B32 = B64 := by unfold B32 B64; rfl

/-- One half-digit of the quotient while it is corrected: q t + r = u, not below the true one. -/
structure DivSt (u a t s q r : Int) : Prop where
  eqn : q * t + r = u
  q0 : 0 ≤ q
  r0 : 0 ≤ r
  r1 : r < B32
  ge : (u * B32 + a) / (t * B32 + s) ≤ q

structure DivIn (u a t s : Int) : Prop where
  u0 : 0 ≤ u
  ul : u < t * B32 + s
  a0 : 0 ≤ a
  a1 : a < B32
  t0 : B32 ≤ 2 * t
  t1 : t < B32
  s0 : 0 ≤ s
  s1 : s < B32

theorem DivIn.tpos {u a t s : Int} (h : DivIn u a t s) : 0 < t := by have := h.t0; unfold B32 at this; omega
theorem DivIn.ypos {u a t s : Int} (h : DivIn u a t s) : 0 < t * B32 + s := by
  have h1 := Int.mul_pos h.tpos B32_pos
  have := h.s0
  omega

theorem DivIn.q_nonneg {u a t s : Int} (h : DivIn u a t s) : 0 ≤ (u * B32 + a) / (t * B32 + s) := by
  have h1 := Int.mul_nonneg h.u0 (Int.le_of_lt B32_pos)
  exact Int.ediv_nonneg (by have := h.a0; omega) (Int.le_of_lt h.ypos)
theorem DivIn.q_lt {u a t s : Int} (h : DivIn u a t s) : (u * B32 + a) / (t * B32 + s) < B32 := by
  apply Int.ediv_lt_of_lt_mul h.ypos
  have h1 : (u + 1) * B32 ≤ (t * B32 + s) * B32 := Int.mul_le_mul_of_nonneg_right (by have := h.ul; omega) (Int.le_of_lt B32_pos)
  have e : (u + 1) * B32 = u * B32 + B32 := by grind
  have := h.a1
  have e2 : (t * B32 + s) * B32 = B32 * (t * B32 + s) := Int.mul_comm _ _
  omega

theorem DivIn.start {u a t s : Int} (h : DivIn u a t s) : DivSt u a t s (u / t) (u - u / t * t) := by
  have ht := h.tpos
  have e : u - u / t * t = u % t := by have := Int.mul_ediv_add_emod u t; rw [Int.mul_comm (u / t)]; omega
  refine ⟨by omega, Int.ediv_nonneg h.u0 (Int.le_of_lt ht), by rw [e]; exact Int.emod_nonneg _ (by omega), by rw [e]; exact Int.lt_trans (Int.emod_lt_of_pos _ ht) h.t1, ?_⟩
  refine Knuth.first_ge (b := B32) (p := 1) (t := t) (s := s) (v0 := 0) (u1 := u) (u0 := a) (w0 := 0) (V := t * B32 + s) (U := u * B32 + a) (by decide) B32_pos h.q_nonneg (by omega) h.s0 (by decide) (by omega) h.a1 (by decide) (Int.ediv_mul_le _ (by have := h.ypos; omega)) ?_ ht
  have := Int.lt_ediv_add_one_mul_self u ht
  exact this

/-- The test says that it is too great: it is. -/
theorem DivSt.down {u a t s q r : Int} (hi : DivIn u a t s) (h : DivSt u a t s q r) (hbig : B32 ≤ q ∨ B32 * r + a < q * s) : 1 ≤ q ∧ (u * B32 + a) / (t * B32 + s) ≤ q - 1 := by
  have hq : (u * B32 + a) / (t * B32 + s) ≤ q - 1 := by
    rcases hbig with hbig | hbig
    · have := hi.q_lt; omega
    · exact Knuth.next_ge (b := B32) (p := 1) (t := t) (s := s) (v0 := 0) (u1 := u) (u0 := a) (w0 := 0) (r := r) (V := t * B32 + s) (U := u * B32 + a) (by decide) (by omega) (by decide) (by omega) (by decide) h.q0 (Int.ediv_mul_le _ (by have := hi.ypos; omega)) hi.ypos h.eqn (by rw [Int.mul_comm r]; exact hbig)
  have := hi.q_nonneg
  exact ⟨by omega, hq⟩
theorem DivSt.next {u a t s q r : Int} (hi : DivIn u a t s) (h : DivSt u a t s q r) (hbig : B32 ≤ q ∨ B32 * r + a < q * s) (hr : r + t < B32) : DivSt u a t s (q - 1) (r + t) := by
  obtain ⟨h1, h2⟩ := h.down hi hbig
  refine ⟨?_, by omega, by have := h.r0; have := hi.tpos; omega, hr, h2⟩
  have := h.eqn
  have e : (q - 1) * t = q * t - t := by grind
  omega

/-- The quotient's half-digit is right, and so is what is left. -/
structure DivOut (u a t s q : Int) : Prop where
  q0 : 0 ≤ q
  q1 : q < B32
  r0 : 0 ≤ u * B32 + a - q * (t * B32 + s)
  r1 : u * B32 + a - q * (t * B32 + s) < t * B32 + s
theorem DivOut.of_eq {u a t s q : Int} (hi : DivIn u a t s) (h : q = (u * B32 + a) / (t * B32 + s)) : DivOut u a t s q := by
  have hy := hi.ypos
  subst h
  have h1 := Int.ediv_mul_le (u * B32 + a) (show t * B32 + s ≠ 0 by omega)
  have h2 := Int.lt_ediv_add_one_mul_self (u * B32 + a) hy
  have e : ((u * B32 + a) / (t * B32 + s) + 1) * (t * B32 + s) = (u * B32 + a) / (t * B32 + s) * (t * B32 + s) + (t * B32 + s) := by grind
  exact ⟨hi.q_nonneg, hi.q_lt, by omega, by omega⟩

theorem le_of_fits {u a t s q r : Int} (hi : DivIn u a t s) (h : q * t + r = u) (hf : q * s ≤ B32 * r + a) : q ≤ (u * B32 + a) / (t * B32 + s) := by
  apply Int.le_ediv_of_mul_le hi.ypos
  have e : q * (t * B32 + s) = (q * t) * B32 + q * s := by grind
  have e2 : u * B32 = (q * t) * B32 + B32 * r := by rw [← h]; grind
  omega

theorem DivSt.done {u a t s q r : Int} (hi : DivIn u a t s) (h : DivSt u a t s q r) (hf : q * s ≤ B32 * r + a) : DivOut u a t s q := by
  have h1 := le_of_fits hi h.eqn hf
  have := h.ge
  exact .of_eq hi (by omega)

theorem DivSt.leave {u a t s q r : Int} (hi : DivIn u a t s) (h : DivSt u a t s q r) (hbig : B32 ≤ q ∨ B32 * r + a < q * s) (hr : B32 ≤ r + t) : DivOut u a t s (q - 1) := by
  obtain ⟨h1, h2⟩ := h.down hi hbig
  have e1 : (q - 1) * t + (r + t) = u := by have := h.eqn; have e : (q - 1) * t = q * t - t := by grind
                                            omega
  have hq : q - 1 < B32 := by
    rcases Int.lt_or_le (q - 1) B32 with hq | hq
    · exact hq
    · exfalso
      have h3 : B32 * t ≤ (q - 1) * t := Int.mul_le_mul_of_nonneg_right hq (Int.le_of_lt hi.tpos)
      have h4 := hi.ul
      have h5 := hi.s1
      have e : B32 * t = t * B32 := Int.mul_comm _ _
      omega
  have hf : (q - 1) * s ≤ B32 * (r + t) + a := by
    have h3 : (q - 1) * s ≤ B32 * B32 := Int.mul_le_mul (by omega) (by have := hi.s1; omega) hi.s0 (by unfold B32; omega)
    have h4 : B32 * B32 ≤ B32 * (r + t) := Int.mul_le_mul_of_nonneg_left hr (Int.le_of_lt B32_pos)
    have := hi.a0
    omega
  have h6 := le_of_fits hi e1 hf
  exact .of_eq hi (by omega)

theorem wrap_eq {x y : Int} (k : Int) (h0 : 0 ≤ y) (h1 : y < B64) (he : x = y + B64 * k) : IntKind.u64.wrap x = y := by
  rw [IntKind.wrap_u64, he]
  unfold B64 at *
  omega
theorem wrap_in {x : Int} (h0 : 0 ≤ x) (h1 : x < B64) : IntKind.u64.wrap x = x := wrap_eq 0 h0 h1 (by omega)
theorem wrap_cong {x y : Int} (h : ∃ k, x = y + B64 * k) : IntKind.u64.wrap x = IntKind.u64.wrap y := by
  obtain ⟨k, rfl⟩ := h
  rw [IntKind.wrap_u64, IntKind.wrap_u64]
  unfold B64
  omega
theorem wrap_back (x : Int) : ∃ k, IntKind.u64.wrap x = x + B64 * k := by
  rw [IntKind.wrap_u64]
  unfold B64
  exact ⟨-(x / 18446744073709551616), by omega⟩

/-- A word times a power of two, and what its upper part leaves, set together. -/
theorem or_add {s : Nat} (hs : s ≤ 63) {h l : Int} (h0 : 0 ≤ h) (h1 : h * 2 ^ s < B64) (l0 : 0 ≤ l) (l1 : l < 2 ^ s) : bits .or .u64 (h * 2 ^ s) l = h * 2 ^ s + l := by
  obtain ⟨h, rfl⟩ := Int.eq_ofNat_of_zero_le h0
  obtain ⟨l, rfl⟩ := Int.eq_ofNat_of_zero_le l0
  have e : ((h : Int) * 2 ^ s) = ((h * 2 ^ s : Nat) : Int) := by rw [Int.natCast_mul, Int.natCast_pow]; rfl
  have hl : l < 2 ^ s := by
    have e2 : ((2 : Int) ^ s) = ((2 ^ s : Nat) : Int) := by rw [Int.natCast_pow]; rfl
    omega
  have hp : (2 : Nat) ^ s ≤ 2 ^ 63 := Nat.pow_le_pow_right (by decide) hs
  rw [e] at h1 ⊢
  unfold B64 at h1
  rw [u64_or_nat _ _ (by omega) (by omega), Nat.mul_comm, ← Nat.two_pow_add_eq_or_of_lt hl]
  rw [Int.natCast_add]
end Go.Proofs.YtdlcleecjeipnaaGreatDoor

/-
  DERIVED: THE SHELF's CONTRACTS AT THIS DUMP, IN PLAIN WORDS (tools/lay-plain.mjs out of 'TryzShelf.lean', which tools/lay-shelf.mjs wrote): THE SAME DECLARATIONS UNDER THE SAME NAMES: 'import', 'namespace', 'open', 'def', 'theorem' AND NOTHING ELSE: no command of the shelf's: FOR A HAND-IN. Each laying: the table of numbers ('.._ren') and one theorem, a field a fact of the dump's own or the kernel's comparison; each contract: ONE APPLICATION.
-/
namespace Go.Proofs
open Go.Shelf
def Tryz.lays170_ren : Go.Shelf.Ren := ⟨fun | 170 => 210 | n => n, fun | 70 => 233 | 3 => 3 | 0 => 0 | 72 => 235 | 37 => 200 | 5 => 5 | n => n, fun | n => n⟩
theorem Tryz.lays170 : Go.Proofs.Lays.n170 Tryz.prog Tryz.lays170_ren := {
  mixed := by kernel_rfl
  f170 := Tryz.func210.trans (congrArg some (by kernel_rfl))
  t0 := Tryz.underlying0
  a0 := Tryz.isAgg0
  z0 := Tryz.sizeOf0
  v0 := Tryz.zeroValue0
  t3 := Tryz.underlying3
  a3 := Tryz.isAgg3
  z3 := Tryz.sizeOf3
  v3 := Tryz.zeroValue3
  t37 := Tryz.underlying200
  a37 := Tryz.isAgg200
  z37 := Tryz.sizeOf200
  v37 := Tryz.zeroValue200
  t70 := Tryz.underlying233
  a70 := Tryz.isAgg233
  z70 := Tryz.sizeOf233
  v70 := Tryz.zeroValue233
  t72 := Tryz.underlying235
  a72 := Tryz.isAgg235
  z72 := Tryz.sizeOf235
  v72 := Tryz.zeroValue235 }
open Go.RowKit in
/-- (*strings.Builder).Len: "Len returns the number of accumulated bytes; b.Len() == len(b.String()).": the world is as it was. (LAID: no walk: one application.) -/
theorem Tryz.Builder_Len (B b : Nat) (bs : List Value) (w : World) (h : Lib.IsBuilder 235 5 B b bs w) :
    Calls Tryz.prog 210 #[.pointer (some ⟨b, 0, none⟩)] w fun e w' => e = .returned (.int .i64 bs.length) ∧ w' = w := Any.Builder_Len Tryz.lays170 B b bs w h
def Tryz.lays169_ren : Go.Shelf.Ren := ⟨fun | 169 => 211 | n => n, fun | 70 => 233 | 9 => 9 | 0 => 0 | 72 => 235 | 37 => 200 | 127 => 273 | 3 => 3 | 5 => 5 | n => n, fun | n => n⟩
theorem Tryz.lays169 : Go.Proofs.Lays.n169 Tryz.prog Tryz.lays169_ren := {
  mixed := by kernel_rfl
  f169 := Tryz.func211.trans (congrArg some (by kernel_rfl))
  t0 := Tryz.underlying0
  a0 := Tryz.isAgg0
  z0 := Tryz.sizeOf0
  v0 := Tryz.zeroValue0
  t3 := Tryz.underlying3
  a3 := Tryz.isAgg3
  z3 := Tryz.sizeOf3
  v3 := Tryz.zeroValue3
  t9 := Tryz.underlying9
  a9 := Tryz.isAgg9
  z9 := Tryz.sizeOf9
  v9 := Tryz.zeroValue9
  t37 := Tryz.underlying200
  a37 := Tryz.isAgg200
  z37 := Tryz.sizeOf200
  v37 := Tryz.zeroValue200
  t70 := Tryz.underlying233
  a70 := Tryz.isAgg233
  z70 := Tryz.sizeOf233
  v70 := Tryz.zeroValue233
  t72 := Tryz.underlying235
  a72 := Tryz.isAgg235
  z72 := Tryz.sizeOf235
  v72 := Tryz.zeroValue235
  t127 := Tryz.underlying273
  a127 := Tryz.isAgg273
  z127 := Tryz.sizeOf273
  v127 := Tryz.zeroValue273 }
theorem Tryz.Builder_Extra_169 : Builder.Extra Tryz.prog Tryz.lays169_ren := {
  sizeBuilder := by kernel_rfl
  liesBuilder := by kernel_rfl
  t5 := Tryz.underlying5
  a5 := Tryz.isAgg5
  z5 := Tryz.sizeOf5
  v5 := Tryz.zeroValue5
  infoByte := by kernel_rfl
  cellsByte := by kernel_rfl
  sizeByte := by kernel_rfl
  neB5 := by decide }
open Go.RowKit in
/-- (*strings.Builder).String: "String returns the accumulated string.": OF A BUILDER THAT HOLDS AT LEAST ONE BYTE. ✋ THE MODEL FREEZES THOSE BYTES IN THE BUFFER (unsafe.String): a later write INTO them ends the model's run without an answer; a later append BEHIND them goes on. The statement's order of evaluation is drawn: one draw. (LAID: no walk: one application.) -/
theorem Tryz.Builder_String (B b : Nat) (l : List UInt8) (w : World) (h : Lib.IsBuilder 235 5 B b (Lib.byteCells l) w) (h0 : l ≠ []) :
    Calls Tryz.prog 211 #[.pointer (some ⟨b, 0, none⟩)] w fun e w' => e = .returned (.string ⟨l.toArray⟩) ∧ Below B w w' := Any.Builder_String Tryz.lays169 Tryz.Builder_Extra_169 B b l w h h0
open Go.RowKit in
/-- (*strings.Builder).String OF A BUILDER THAT HOLDS NO BYTE: the empty string. (Its buffer is nil, or a row of which it has taken nothing yet; where that row has NO capacity the model lays one new block for unsafe.SliceData's 'some address'.) One draw. (LAID: no walk: one application.) -/
theorem Tryz.Builder_String_empty (B b : Nat) (w : World) (h : Lib.IsBuilder 235 5 B b [] w) (hBw : B ≤ w.heap.size) :
    Calls Tryz.prog 211 #[.pointer (some ⟨b, 0, none⟩)] w fun e w' => e = .returned (.string ⟨#[]⟩) ∧ Below B w w' := Any.Builder_String_empty Tryz.lays169 Tryz.Builder_Extra_169 B b w h hBw
open Go.RowKit in
/-- (*strings.Builder).String: "String returns the accumulated string.": WHATEVER THE BUILDER HOLDS. (LAID: no walk: one application.) -/
theorem Tryz.Builder_String_any (B b : Nat) (l : List UInt8) (w : World) (h : Lib.IsBuilder 235 5 B b (Lib.byteCells l) w) (hBw : B ≤ w.heap.size) :
    Calls Tryz.prog 211 #[.pointer (some ⟨b, 0, none⟩)] w fun e w' => e = .returned (.string ⟨l.toArray⟩) ∧ Below B w w' := Any.Builder_String_any Tryz.lays169 Tryz.Builder_Extra_169 B b l w h hBw
def Tryz.lays241_ren : Go.Shelf.Ren := ⟨fun | 241 => 246 | 277 => 267 | n => n, fun | 70 => 233 | 3 => 3 | 0 => 0 | 72 => 235 | 37 => 200 | 5 => 5 | n => n, fun | n => n⟩
theorem Tryz.lays241 : Go.Proofs.Lays.n241 Tryz.prog Tryz.lays241_ren := {
  mixed := by kernel_rfl
  f241 := Tryz.func246.trans (congrArg some (by kernel_rfl))
  f277 := Tryz.func267.trans (congrArg some (by kernel_rfl))
  t0 := Tryz.underlying0
  a0 := Tryz.isAgg0
  z0 := Tryz.sizeOf0
  v0 := Tryz.zeroValue0
  t3 := Tryz.underlying3
  a3 := Tryz.isAgg3
  z3 := Tryz.sizeOf3
  v3 := Tryz.zeroValue3
  t37 := Tryz.underlying200
  a37 := Tryz.isAgg200
  z37 := Tryz.sizeOf200
  v37 := Tryz.zeroValue200
  t70 := Tryz.underlying233
  a70 := Tryz.isAgg233
  z70 := Tryz.sizeOf233
  v70 := Tryz.zeroValue233
  t72 := Tryz.underlying235
  a72 := Tryz.isAgg235
  z72 := Tryz.sizeOf235
  v72 := Tryz.zeroValue235 }
theorem Tryz.Builder_Extra_241 : Builder.Extra Tryz.prog Tryz.lays241_ren := {
  sizeBuilder := by kernel_rfl
  liesBuilder := by kernel_rfl
  t5 := Tryz.underlying5
  a5 := Tryz.isAgg5
  z5 := Tryz.sizeOf5
  v5 := Tryz.zeroValue5
  infoByte := by kernel_rfl
  cellsByte := by kernel_rfl
  sizeByte := by kernel_rfl
  neB5 := by decide }
open Go.RowKit in
/-- (*strings.Builder).grow (no doc but "grow copies the buffer to a new, larger buffer so that there are at least n bytes of capacity beyond len(b.buf)."): AT A BUILDER WITHOUT A BUFFER: a new row of whatever bytes for its buffer, none of them its own yet. Three draws. (LAID: no walk: one application.) -/
theorem Tryz.Builder_grow_fresh (B b n : Nat) (w : World) (hB : B ≤ b) (hbk : w.heap[b]? = some (.cells #[.pointer (some ⟨b, 0, none⟩), .slice none 0 0] 235 (0, 0))) (hBw : B ≤ w.heap.size) (hn : n ≤ 281474976710656) :
    Calls Tryz.prog 246 #[.pointer (some ⟨b, 0, none⟩), .int .i64 n] w fun e w' => e = .returned (.tuple #[]) ∧ (Lib.BuilderAt 235 5 B b (.pointer (some ⟨b, 0, none⟩)) [] w' ∧ Below B w w') := Any.Builder_grow_fresh Tryz.lays241 Tryz.Builder_Extra_241 B b n w hB hbk hBw hn
def Tryz.lays165_ren : Go.Shelf.Ren := ⟨fun | 165 => 208 | 240 => 245 | 241 => 246 | 276 => 266 | 277 => 267 | n => n, fun | 70 => 233 | 3 => 3 | 0 => 0 | 4 => 4 | 9 => 9 | 20 => 20 | 72 => 235 | 37 => 200 | 164 => 243 | 5 => 5 | n => n, fun | n => n⟩
theorem Tryz.lays165 : Go.Proofs.Lays.n165 Tryz.prog Tryz.lays165_ren := {
  mixed := by kernel_rfl
  f165 := Tryz.func208.trans (congrArg some (by kernel_rfl))
  f240 := Tryz.func245.trans (congrArg some (by kernel_rfl))
  f241 := Tryz.func246.trans (congrArg some (by kernel_rfl))
  f276 := Tryz.func266.trans (congrArg some (by kernel_rfl))
  f277 := Tryz.func267.trans (congrArg some (by kernel_rfl))
  t0 := Tryz.underlying0
  a0 := Tryz.isAgg0
  z0 := Tryz.sizeOf0
  v0 := Tryz.zeroValue0
  t3 := Tryz.underlying3
  a3 := Tryz.isAgg3
  z3 := Tryz.sizeOf3
  v3 := Tryz.zeroValue3
  t4 := Tryz.underlying4
  a4 := Tryz.isAgg4
  z4 := Tryz.sizeOf4
  v4 := Tryz.zeroValue4
  t9 := Tryz.underlying9
  a9 := Tryz.isAgg9
  z9 := Tryz.sizeOf9
  v9 := Tryz.zeroValue9
  t20 := Tryz.underlying20
  a20 := Tryz.isAgg20
  z20 := Tryz.sizeOf20
  v20 := Tryz.zeroValue20
  t37 := Tryz.underlying200
  a37 := Tryz.isAgg200
  z37 := Tryz.sizeOf200
  v37 := Tryz.zeroValue200
  t70 := Tryz.underlying233
  a70 := Tryz.isAgg233
  z70 := Tryz.sizeOf233
  v70 := Tryz.zeroValue233
  t72 := Tryz.underlying235
  a72 := Tryz.isAgg235
  z72 := Tryz.sizeOf235
  v72 := Tryz.zeroValue235
  t164 := Tryz.underlying243
  a164 := Tryz.isAgg243
  z164 := Tryz.sizeOf243
  v164 := Tryz.zeroValue243 }
theorem Tryz.Builder_Extra_165 : Builder.Extra Tryz.prog Tryz.lays165_ren := {
  sizeBuilder := by kernel_rfl
  liesBuilder := by kernel_rfl
  t5 := Tryz.underlying5
  a5 := Tryz.isAgg5
  z5 := Tryz.sizeOf5
  v5 := Tryz.zeroValue5
  infoByte := by kernel_rfl
  cellsByte := by kernel_rfl
  sizeByte := by kernel_rfl
  neB5 := by decide }
open Go.RowKit in
/-- (*strings.Builder).Grow AT A BUILDER THAT HAS NOT BEEN WRITTEN ('var b strings.Builder; b.Grow(n)'): "Grow grows b's capacity, if necessary, to guarantee space for another n bytes.": it holds no byte behind it as before it. (LAID: no walk: one application.) -/
theorem Tryz.Builder_Grow_fresh (B b n : Nat) (w : World) (hB : B ≤ b) (hbk : w.heap[b]? = some (.cells #[.pointer none, .slice none 0 0] 235 (0, 0))) (hBw : B ≤ w.heap.size) (hn : n ≤ 281474976710656) :
    Calls Tryz.prog 208 #[.pointer (some ⟨b, 0, none⟩), .int .i64 n] w fun e w' => e = .returned (.tuple #[]) ∧ (Lib.BuilderAt 235 5 B b (.pointer (some ⟨b, 0, none⟩)) [] w' ∧ Below B w w') := Any.Builder_Grow_fresh Tryz.lays165 Tryz.Builder_Extra_165 B b n w hB hbk hBw hn
def Tryz.lays119_ren : Go.Shelf.Ren := ⟨fun | 119 => 272 | n => n, fun | 21 => 21 | 4 => 4 | n => n, fun | n => n⟩
theorem Tryz.lays119 : Go.Proofs.Lays.n119 Tryz.prog Tryz.lays119_ren := {
  mixed := by kernel_rfl
  f119 := Tryz.func272.trans (congrArg some (by kernel_rfl))
  t4 := Tryz.underlying4
  a4 := Tryz.isAgg4
  z4 := Tryz.sizeOf4
  v4 := Tryz.zeroValue4
  t21 := Tryz.underlying21
  a21 := Tryz.isAgg21
  z21 := Tryz.sizeOf21
  v21 := Tryz.zeroValue21 }
/-- utf8.ValidRune: "ValidRune reports whether r can be legally encoded as UTF-8. Code points that are out of range or a surrogate half are illegal.": IT RETURNS 'Lib.validRune r'; the world is as it was. (LAID: no walk: one application.) -/
theorem Tryz.utf8_ValidRune (r : Int) (w : World) :
    Calls Tryz.prog 272 #[.int .i32 r] w fun e w' => e = .returned (.bool (Lib.validRune r)) ∧ w' = w := Any.utf8_ValidRune Tryz.lays119 r w
def Tryz.lays120_ren : Go.Shelf.Ren := ⟨fun | 120 => 256 | n => n, fun | 5 => 5 | 4 => 4 | n => n, fun | n => n⟩
theorem Tryz.lays120 : Go.Proofs.Lays.n120 Tryz.prog Tryz.lays120_ren := {
  mixed := by kernel_rfl
  f120 := Tryz.func256.trans (congrArg some (by kernel_rfl))
  t4 := Tryz.underlying4
  a4 := Tryz.isAgg4
  z4 := Tryz.sizeOf4
  v4 := Tryz.zeroValue4
  t5 := Tryz.underlying5
  a5 := Tryz.isAgg5
  z5 := Tryz.sizeOf5
  v5 := Tryz.zeroValue5 }
/-- utf8.RuneStart: "RuneStart reports whether the byte could be the first byte of an encoded, possibly invalid rune. Second and subsequent bytes always have the top two bits set to 10.": IT RETURNS 'Lib.runeStart b'; the world is as it was. ('h0', 'h1': b is a byte: a caller has it of every byte that it was handed.) (LAID: no walk: one application.) -/
theorem Tryz.utf8_RuneStart (b : Int) (w : World) (h0 : 0 ≤ b) (h1 : b < 256) :
    Calls Tryz.prog 256 #[.int .u8 b] w fun e w' => e = .returned (.bool (Lib.runeStart b)) ∧ w' = w := Any.utf8_RuneStart Tryz.lays120 b w h0 h1
def Tryz.lays134_ren : Go.Shelf.Ren := ⟨fun | 134 => 195 | 129 => 236 | n => n, fun | 53 => 57 | 3 => 3 | 4 => 4 | 46 => 137 | 5 => 5 | 9 => 9 | n => n, fun | n => n⟩
theorem Tryz.lays134 : Go.Proofs.Lays.n134 Tryz.prog Tryz.lays134_ren := {
  mixed := by kernel_rfl
  f129 := Tryz.func236.trans (congrArg some (by kernel_rfl))
  f134 := Tryz.func195.trans (congrArg some (by kernel_rfl))
  t3 := Tryz.underlying3
  a3 := Tryz.isAgg3
  z3 := Tryz.sizeOf3
  v3 := Tryz.zeroValue3
  t4 := Tryz.underlying4
  a4 := Tryz.isAgg4
  z4 := Tryz.sizeOf4
  v4 := Tryz.zeroValue4
  t5 := Tryz.underlying5
  a5 := Tryz.isAgg5
  z5 := Tryz.sizeOf5
  v5 := Tryz.zeroValue5
  t9 := Tryz.underlying9
  a9 := Tryz.isAgg9
  z9 := Tryz.sizeOf9
  v9 := Tryz.zeroValue9
  t46 := Tryz.underlying137
  a46 := Tryz.isAgg137
  z46 := Tryz.sizeOf137
  v46 := Tryz.zeroValue137
  t53 := Tryz.underlying57
  a53 := Tryz.isAgg57
  z53 := Tryz.sizeOf57
  v53 := Tryz.zeroValue57 }
/-- bits.LeadingZeros64: "LeadingZeros64 returns the number of leading zero bits in x; the result is 64 for x == 0.": IT RETURNS '64 - Lib.bitLen x'; the world is as it was. ITS CALLEE bits.Len64 IS MET BY ITS OWN CONTRACT OFF THE SHELF (lay that first): entered in place it sends the kernel out of memory. (LAID: no walk: one application.) -/
theorem Tryz.bits_LeadingZeros64 (x : Int) (w : World) (h0 : 0 ≤ x) (h1 : x ≤ 18446744073709551615) :
    Calls Tryz.prog 195 #[.int .u64 x] w fun e w' => e = .returned (.int .i64 (64 - (Lib.bitLen x.toNat : Int))) ∧ w' = w := Any.bits_LeadingZeros64 Tryz.lays134 x w h0 h1
def Tryz.lays137_ren : Go.Shelf.Ren := ⟨fun | 137 => 271 | 217 => 250 | 266 => 269 | n => n, fun | 9 => 9 | 5 => 5 | 3 => 3 | n => n, fun | n => n⟩
theorem Tryz.lays137 : Go.Proofs.Lays.n137 Tryz.prog Tryz.lays137_ren := {
  mixed := by kernel_rfl
  f137 := Tryz.func271.trans (congrArg some (by kernel_rfl))
  f217 := Tryz.func250.trans (congrArg some (by kernel_rfl))
  f266 := Tryz.func269.trans (congrArg some (by kernel_rfl))
  t3 := Tryz.underlying3
  a3 := Tryz.isAgg3
  z3 := Tryz.sizeOf3
  v3 := Tryz.zeroValue3
  t5 := Tryz.underlying5
  a5 := Tryz.isAgg5
  z5 := Tryz.sizeOf5
  v5 := Tryz.zeroValue5
  t9 := Tryz.underlying9
  a9 := Tryz.isAgg9
  z9 := Tryz.sizeOf9
  v9 := Tryz.zeroValue9 }
open Go.RowKit in
/-- strings.IndexByte: "IndexByte returns the index of the first instance of c in s, or -1 if c is not present in s.": IT RETURNS 'Lib.indexByte s c'; the world is as it was. (LAID: no walk: one application.) -/
theorem Tryz.strings_IndexByte (s : ByteArray) (c : Int) (w : World) :
    Calls Tryz.prog 271 #[.string s, .int .u8 c] w fun e w' => e = .returned (.int .i64 (Lib.indexByte s.data.toList c.toNat.toUInt8)) ∧ w' = w := Any.strings_IndexByte Tryz.lays137 s c w
def Tryz.lays129_ren : Go.Shelf.Ren := ⟨fun | 129 => 236 | n => n, fun | 53 => 57 | 3 => 3 | 4 => 4 | 46 => 137 | 5 => 5 | 9 => 9 | n => n, fun | n => n⟩
theorem Tryz.lays129 : Go.Proofs.Lays.n129 Tryz.prog Tryz.lays129_ren := {
  mixed := by kernel_rfl
  f129 := Tryz.func236.trans (congrArg some (by kernel_rfl))
  t3 := Tryz.underlying3
  a3 := Tryz.isAgg3
  z3 := Tryz.sizeOf3
  v3 := Tryz.zeroValue3
  t4 := Tryz.underlying4
  a4 := Tryz.isAgg4
  z4 := Tryz.sizeOf4
  v4 := Tryz.zeroValue4
  t5 := Tryz.underlying5
  a5 := Tryz.isAgg5
  z5 := Tryz.sizeOf5
  v5 := Tryz.zeroValue5
  t9 := Tryz.underlying9
  a9 := Tryz.isAgg9
  z9 := Tryz.sizeOf9
  v9 := Tryz.zeroValue9
  t46 := Tryz.underlying137
  a46 := Tryz.isAgg137
  z46 := Tryz.sizeOf137
  v46 := Tryz.zeroValue137
  t53 := Tryz.underlying57
  a53 := Tryz.isAgg57
  z53 := Tryz.sizeOf57
  v53 := Tryz.zeroValue57 }
/-- bits.Len64: "Len64 returns the minimum number of bits required to represent x; the result is 0 for x == 0.": IT RETURNS 'Lib.bitLen x'; the world is as it was. ('h0', 'h1': x is a uint64.) (LAID: no walk: one application.) -/
theorem Tryz.bits_Len64 (x : Int) (w : World) (h0 : 0 ≤ x) (h1 : x ≤ 18446744073709551615) :
    Calls Tryz.prog 236 #[.int .u64 x] w fun e w' => e = .returned (.int .i64 (Lib.bitLen x.toNat)) ∧ w' = w := Any.bits_Len64 Tryz.lays129 x w h0 h1
def Tryz.lays317_ren : Go.Shelf.Ren := ⟨fun | 317 => 262 | n => n, fun | 3 => 3 | 46 => 137 | n => n, fun | n => n⟩
theorem Tryz.lays317 : Go.Proofs.Lays.n317 Tryz.prog Tryz.lays317_ren := {
  mixed := by kernel_rfl
  f317 := Tryz.func262.trans (congrArg some (by kernel_rfl))
  t3 := Tryz.underlying3
  a3 := Tryz.isAgg3
  z3 := Tryz.sizeOf3
  v3 := Tryz.zeroValue3
  t46 := Tryz.underlying137
  a46 := Tryz.isAgg137
  z46 := Tryz.sizeOf137
  v46 := Tryz.zeroValue137 }
open Go.Lib in
/-- internal/strconv.log10Pow2: "log10Pow2(x) returns ⌊log₁₀ 2**x⌋ = ⌊x * log₁₀ 2⌋.": '(x * 78913) >> 18', at an x up to 64 (a length in bits). The world is as it was. (LAID: no walk: one application.) -/
theorem Tryz.internal_strconv_log10Pow2 (x : Nat) (h : x ≤ 64) (w : World) :
    Calls Tryz.prog 262 #[.int .i64 x] w fun e w' => e = .returned (.int .i64 (Lib.l10 x)) ∧ w' = w := Any.internal_strconv_log10Pow2 Tryz.lays317 x h w
def Tryz.lays318_ren : Go.Shelf.Ren := ⟨fun | 318 => 263 | n => n, fun | 3 => 3 | 4 => 4 | n => n, fun | n => n⟩
theorem Tryz.lays318 : Go.Proofs.Lays.n318 Tryz.prog Tryz.lays318_ren := {
  mixed := by kernel_rfl
  f318 := Tryz.func263.trans (congrArg some (by kernel_rfl))
  t3 := Tryz.underlying3
  a3 := Tryz.isAgg3
  z3 := Tryz.sizeOf3
  v3 := Tryz.zeroValue3
  t4 := Tryz.underlying4
  a4 := Tryz.isAgg4
  z4 := Tryz.sizeOf4
  v4 := Tryz.zeroValue4 }
open Go.Lib in
/-- internal/strconv.bool2: "bool2 converts b to an integer: 1 for true, 0 for false." The world is as it was. (LAID: no walk: one application.) -/
theorem Tryz.internal_strconv_bool2_int (b : Bool) (w : World) :
    Calls Tryz.prog 263 #[.bool b] w fun e w' => e = .returned (.int .i64 (if b then 1 else 0)) ∧ w' = w := Any.internal_strconv_bool2_int Tryz.lays318 b w
def Tryz.lays283_ren : Go.Shelf.Ren := ⟨fun | 283 => 240 | n => n, fun | 3 => 3 | 9 => 9 | 4 => 4 | n => n, fun | n => n⟩
theorem Tryz.lays283 : Go.Proofs.Lays.n283 Tryz.prog Tryz.lays283_ren := {
  mixed := by kernel_rfl
  f283 := Tryz.func240.trans (congrArg some (by kernel_rfl))
  t3 := Tryz.underlying3
  a3 := Tryz.isAgg3
  z3 := Tryz.sizeOf3
  v3 := Tryz.zeroValue3
  t4 := Tryz.underlying4
  a4 := Tryz.isAgg4
  z4 := Tryz.sizeOf4
  v4 := Tryz.zeroValue4
  t9 := Tryz.underlying9
  a9 := Tryz.isAgg9
  z9 := Tryz.sizeOf9
  v9 := Tryz.zeroValue9 }
open Go.Lib in
/-- internal/strconv.small: "small returns the string for an i with 0 <= i < nSmalls.": i's decimal numeral. The world is as it was. (LAID: no walk: one application.) -/
theorem Tryz.internal_strconv_small (i : Nat) (h : i < 100) (w : World) :
    Calls Tryz.prog 240 #[.int .i64 i] w fun e w' => e = .returned (.string ⟨(Lib.decDigits i).toArray⟩) ∧ w' = w := Any.internal_strconv_small Tryz.lays283 i h w
def Tryz.laysM284_ren : Go.Shelf.Ren := ⟨fun | 284 => 241 | 129 => 236 | 317 => 262 | 318 => 263 | n => n, fun | 53 => 57 | 3 => 3 | 212 => 301 | 0 => 0 | 4 => 4 | 46 => 137 | 5 => 5 | 9 => 9 | n => n, fun | 17 => 6 | n => n⟩
theorem Tryz.laysM284 : Go.Proofs.LaysM.n284 Tryz.prog Tryz.laysM284_ren := {
  mixed := by kernel_rfl
  f129 := Tryz.func236.trans (congrArg some (by kernel_rfl))
  f284 := Tryz.func241.trans (congrArg some (by kernel_rfl))
  f317 := Tryz.func262.trans (congrArg some (by kernel_rfl))
  f318 := Tryz.func263.trans (congrArg some (by kernel_rfl))
  t0 := Tryz.underlying0
  a0 := Tryz.isAgg0
  z0 := Tryz.sizeOf0
  v0 := Tryz.zeroValue0
  t3 := Tryz.underlying3
  a3 := Tryz.isAgg3
  z3 := Tryz.sizeOf3
  v3 := Tryz.zeroValue3
  t4 := Tryz.underlying4
  a4 := Tryz.isAgg4
  z4 := Tryz.sizeOf4
  v4 := Tryz.zeroValue4
  t5 := Tryz.underlying5
  a5 := Tryz.isAgg5
  z5 := Tryz.sizeOf5
  v5 := Tryz.zeroValue5
  t9 := Tryz.underlying9
  a9 := Tryz.isAgg9
  z9 := Tryz.sizeOf9
  v9 := Tryz.zeroValue9
  t46 := Tryz.underlying137
  a46 := Tryz.isAgg137
  z46 := Tryz.sizeOf137
  v46 := Tryz.zeroValue137
  t53 := Tryz.underlying57
  a53 := Tryz.isAgg57
  z53 := Tryz.sizeOf57
  v53 := Tryz.zeroValue57
  t212 := Tryz.underlying301
  a212 := Tryz.isAgg301
  z212 := Tryz.sizeOf301
  v212 := Tryz.zeroValue301
  g17 := by kernel_rfl
  i0 := by kernel_rfl
  i3 := by kernel_rfl
  i4 := by kernel_rfl
  i5 := by kernel_rfl
  i9 := by kernel_rfl
  i46 := by kernel_rfl
  i53 := by kernel_rfl
  i212 := by kernel_rfl
  m17 := by kernel_rfl }
open Go.Lib in
/-- internal/strconv.numDigits, at a d that is not 0: THE NUMBER OF d's DECIMAL DIGITS. The world is as it was. (LAID: no walk: one application.) -/
theorem Tryz.internal_strconv_numDigits (u : Nat) (h1 : 1 ≤ u) (h2 : u < 18446744073709551616) (w : World) (htab : Lib.TabIs Tryz.prog w "internal/strconv.uint64pow10" .u64 Lib.pow10Tab) :
    Calls Tryz.prog 241 #[.int .u64 u] w fun e w' => e = .returned (.int .i64 (Lib.nDigits u)) ∧ w' = w := Any.internal_strconv_numDigits Tryz.laysM284 u h1 h2 w htab
def Tryz.lays285_ren : Go.Shelf.Ren := ⟨fun | 285 => 242 | n => n, fun | 37 => 200 | 53 => 57 | 3 => 3 | 4 => 4 | 51 => 270 | 9 => 9 | 5 => 5 | 0 => 0 | n => n, fun | n => n⟩
theorem Tryz.lays285 : Go.Proofs.Lays.n285 Tryz.prog Tryz.lays285_ren := {
  mixed := by kernel_rfl
  f285 := Tryz.func242.trans (congrArg some (by kernel_rfl))
  t0 := Tryz.underlying0
  a0 := Tryz.isAgg0
  z0 := Tryz.sizeOf0
  v0 := Tryz.zeroValue0
  t3 := Tryz.underlying3
  a3 := Tryz.isAgg3
  z3 := Tryz.sizeOf3
  v3 := Tryz.zeroValue3
  t4 := Tryz.underlying4
  a4 := Tryz.isAgg4
  z4 := Tryz.sizeOf4
  v4 := Tryz.zeroValue4
  t5 := Tryz.underlying5
  a5 := Tryz.isAgg5
  z5 := Tryz.sizeOf5
  v5 := Tryz.zeroValue5
  t9 := Tryz.underlying9
  a9 := Tryz.isAgg9
  z9 := Tryz.sizeOf9
  v9 := Tryz.zeroValue9
  t37 := Tryz.underlying200
  a37 := Tryz.isAgg200
  z37 := Tryz.sizeOf200
  v37 := Tryz.zeroValue200
  t51 := Tryz.underlying270
  a51 := Tryz.isAgg270
  z51 := Tryz.sizeOf270
  v51 := Tryz.zeroValue270
  t53 := Tryz.underlying57
  a53 := Tryz.isAgg57
  z53 := Tryz.sizeOf57
  v53 := Tryz.zeroValue57 }
open Go.RowKit Go.Sort Go.Lib in
/-- internal/strconv.formatBase10: "formatBase10 formats the decimal representation of u into a. The caller is responsible for ensuring that a is big enough to hold u. If a is too big, leading zeros will be filled in as needed.": THE ROW HOLDS u's DIGITS ('FmtInv .. 0 ..': every place t holds 'dg u (len - 1 - t)'); all else is as it was but for the count of draws. (LAID: no walk: one application.) -/
theorem Tryz.internal_strconv_formatBase10 (blk off cap : Nat) (u : Nat) (d : Array UInt8) (w : World) (hH : Holds (fun (b : UInt8) => Value.int .u8 (b.toNat : Int)) w blk off d) (hu : u < 10 ^ d.size) (hu64 : u < 18446744073709551616) (hsz : d.size < 4611686018427387904) :
    Calls Tryz.prog 242 #[.slice (some ⟨blk, off, none⟩) d.size cap, .int .u64 u] w fun e w' =>
      e = .returned (.tuple #[]) ∧ ∃ (n v' : Nat) (dk : Array UInt8), w' = (putRow (fun (b : UInt8) => Value.int .u8 (b.toNat : Int)) w blk off dk).drewN n ∧ FmtInv d.size u 0 v' dk := Any.internal_strconv_formatBase10 Tryz.lays285 blk off cap u d w hH hu hu64 hsz
def Tryz.laysM246_ren : Go.Shelf.Ren := ⟨fun | 246 => 259 | 283 => 240 | 284 => 241 | 285 => 242 | 286 => 243 | 129 => 236 | 317 => 262 | 318 => 263 | 319 => 264 | 320 => 265 | 337 => 273 | 338 => 268 | n => n, fun | 2 => 2 | 3 => 3 | 9 => 9 | 4 => 4 | 171 => 266 | 0 => 0 | 53 => 57 | 37 => 200 | 5 => 5 | 173 => 268 | 212 => 301 | 51 => 270 | 20 => 20 | 213 => 302 | 46 => 137 | 232 => 317 | 233 => 316 | n => n, fun | 17 => 6 | 18 => 10 | 19 => 9 | n => n⟩
theorem Tryz.laysM246 : Go.Proofs.LaysM.n246 Tryz.prog Tryz.laysM246_ren := {
  mixed := by kernel_rfl
  f129 := Tryz.func236.trans (congrArg some (by kernel_rfl))
  f246 := Tryz.func259.trans (congrArg some (by kernel_rfl))
  f283 := Tryz.func240.trans (congrArg some (by kernel_rfl))
  f284 := Tryz.func241.trans (congrArg some (by kernel_rfl))
  f285 := Tryz.func242.trans (congrArg some (by kernel_rfl))
  f286 := Tryz.func243.trans (congrArg some (by kernel_rfl))
  f317 := Tryz.func262.trans (congrArg some (by kernel_rfl))
  f318 := Tryz.func263.trans (congrArg some (by kernel_rfl))
  f319 := Tryz.func264.trans (congrArg some (by kernel_rfl))
  f320 := Tryz.func265.trans (congrArg some (by kernel_rfl))
  f337 := Tryz.func273.trans (congrArg some (by kernel_rfl))
  f338 := Tryz.func268.trans (congrArg some (by kernel_rfl))
  t0 := Tryz.underlying0
  a0 := Tryz.isAgg0
  z0 := Tryz.sizeOf0
  v0 := Tryz.zeroValue0
  t2 := Tryz.underlying2
  a2 := Tryz.isAgg2
  z2 := Tryz.sizeOf2
  v2 := Tryz.zeroValue2
  t3 := Tryz.underlying3
  a3 := Tryz.isAgg3
  z3 := Tryz.sizeOf3
  v3 := Tryz.zeroValue3
  t4 := Tryz.underlying4
  a4 := Tryz.isAgg4
  z4 := Tryz.sizeOf4
  v4 := Tryz.zeroValue4
  t5 := Tryz.underlying5
  a5 := Tryz.isAgg5
  z5 := Tryz.sizeOf5
  v5 := Tryz.zeroValue5
  t9 := Tryz.underlying9
  a9 := Tryz.isAgg9
  z9 := Tryz.sizeOf9
  v9 := Tryz.zeroValue9
  t20 := Tryz.underlying20
  a20 := Tryz.isAgg20
  z20 := Tryz.sizeOf20
  v20 := Tryz.zeroValue20
  t37 := Tryz.underlying200
  a37 := Tryz.isAgg200
  z37 := Tryz.sizeOf200
  v37 := Tryz.zeroValue200
  t46 := Tryz.underlying137
  a46 := Tryz.isAgg137
  z46 := Tryz.sizeOf137
  v46 := Tryz.zeroValue137
  t51 := Tryz.underlying270
  a51 := Tryz.isAgg270
  z51 := Tryz.sizeOf270
  v51 := Tryz.zeroValue270
  t53 := Tryz.underlying57
  a53 := Tryz.isAgg57
  z53 := Tryz.sizeOf57
  v53 := Tryz.zeroValue57
  t171 := Tryz.underlying266
  a171 := Tryz.isAgg266
  z171 := Tryz.sizeOf266
  v171 := Tryz.zeroValue266
  t173 := Tryz.underlying268
  a173 := Tryz.isAgg268
  z173 := Tryz.sizeOf268
  v173 := Tryz.zeroValue268
  t212 := Tryz.underlying301
  a212 := Tryz.isAgg301
  z212 := Tryz.sizeOf301
  v212 := Tryz.zeroValue301
  t213 := Tryz.underlying302
  a213 := Tryz.isAgg302
  z213 := Tryz.sizeOf302
  t232 := Tryz.underlying317
  a232 := Tryz.isAgg317
  z232 := Tryz.sizeOf317
  v232 := Tryz.zeroValue317
  t233 := Tryz.underlying316
  a233 := Tryz.isAgg316
  z233 := Tryz.sizeOf316
  v233 := Tryz.zeroValue316
  g17 := by kernel_rfl
  g18 := by kernel_rfl
  g19 := by kernel_rfl
  i0 := by kernel_rfl
  i2 := by kernel_rfl
  i3 := by kernel_rfl
  i4 := by kernel_rfl
  i5 := by kernel_rfl
  i9 := by kernel_rfl
  i20 := by kernel_rfl
  i37 := by kernel_rfl
  i46 := by kernel_rfl
  i51 := by kernel_rfl
  i53 := by kernel_rfl
  i171 := by kernel_rfl
  i173 := by kernel_rfl
  i212 := by kernel_rfl
  i232 := by kernel_rfl
  i233 := by kernel_rfl
  m17 := by kernel_rfl
  m18 := by kernel_rfl
  m19 := by kernel_rfl }
open Go.RowKit Go.Sort Go.Lib in
/-- internal/strconv.FormatInt: "FormatInt returns the string representation of i in the given base": AT BASE 10: i's decimal numeral, for every int64. The world behind the call: the world before it, new blocks behind the heap, draws. (LAID: no walk: one application.) -/
theorem Tryz.internal_strconv_FormatInt_10 (n : Int) (h0 : -9223372036854775808 ≤ n) (h1 : n ≤ 9223372036854775807) (w : World) (htab : Lib.TabIs Tryz.prog w "internal/strconv.uint64pow10" .u64 Lib.pow10Tab) :
    Calls Tryz.prog 259 #[.int .i64 n, .int .i64 10] w fun e w' => e = .returned (.string ⟨(Lib.itoa n).toArray⟩) ∧ ∃ k os, w' = grow (w.drewN k) os := Any.internal_strconv_FormatInt_10 Tryz.laysM246 n h0 h1 w htab
def Tryz.lays246_ren : Go.Shelf.Ren := ⟨fun | 246 => 259 | 283 => 240 | 284 => 241 | 285 => 242 | 286 => 243 | 129 => 236 | 317 => 262 | 318 => 263 | 319 => 264 | 320 => 265 | 337 => 273 | 338 => 268 | n => n, fun | 2 => 2 | 3 => 3 | 9 => 9 | 4 => 4 | 171 => 266 | 0 => 0 | 53 => 57 | 37 => 200 | 5 => 5 | 173 => 268 | 212 => 301 | 51 => 270 | 20 => 20 | 213 => 302 | 46 => 137 | 232 => 317 | 233 => 316 | n => n, fun | 17 => 6 | 18 => 10 | 19 => 9 | n => n⟩
theorem Tryz.lays246 : Go.Proofs.Lays.n246 Tryz.prog Tryz.lays246_ren := {
  mixed := by kernel_rfl
  f129 := Tryz.func236.trans (congrArg some (by kernel_rfl))
  f246 := Tryz.func259.trans (congrArg some (by kernel_rfl))
  f283 := Tryz.func240.trans (congrArg some (by kernel_rfl))
  f284 := Tryz.func241.trans (congrArg some (by kernel_rfl))
  f285 := Tryz.func242.trans (congrArg some (by kernel_rfl))
  f286 := Tryz.func243.trans (congrArg some (by kernel_rfl))
  f317 := Tryz.func262.trans (congrArg some (by kernel_rfl))
  f318 := Tryz.func263.trans (congrArg some (by kernel_rfl))
  f319 := Tryz.func264.trans (congrArg some (by kernel_rfl))
  f320 := Tryz.func265.trans (congrArg some (by kernel_rfl))
  f337 := Tryz.func273.trans (congrArg some (by kernel_rfl))
  f338 := Tryz.func268.trans (congrArg some (by kernel_rfl))
  t0 := Tryz.underlying0
  a0 := Tryz.isAgg0
  z0 := Tryz.sizeOf0
  v0 := Tryz.zeroValue0
  t2 := Tryz.underlying2
  a2 := Tryz.isAgg2
  z2 := Tryz.sizeOf2
  v2 := Tryz.zeroValue2
  t3 := Tryz.underlying3
  a3 := Tryz.isAgg3
  z3 := Tryz.sizeOf3
  v3 := Tryz.zeroValue3
  t4 := Tryz.underlying4
  a4 := Tryz.isAgg4
  z4 := Tryz.sizeOf4
  v4 := Tryz.zeroValue4
  t5 := Tryz.underlying5
  a5 := Tryz.isAgg5
  z5 := Tryz.sizeOf5
  v5 := Tryz.zeroValue5
  t9 := Tryz.underlying9
  a9 := Tryz.isAgg9
  z9 := Tryz.sizeOf9
  v9 := Tryz.zeroValue9
  t20 := Tryz.underlying20
  a20 := Tryz.isAgg20
  z20 := Tryz.sizeOf20
  v20 := Tryz.zeroValue20
  t37 := Tryz.underlying200
  a37 := Tryz.isAgg200
  z37 := Tryz.sizeOf200
  v37 := Tryz.zeroValue200
  t46 := Tryz.underlying137
  a46 := Tryz.isAgg137
  z46 := Tryz.sizeOf137
  v46 := Tryz.zeroValue137
  t51 := Tryz.underlying270
  a51 := Tryz.isAgg270
  z51 := Tryz.sizeOf270
  v51 := Tryz.zeroValue270
  t53 := Tryz.underlying57
  a53 := Tryz.isAgg57
  z53 := Tryz.sizeOf57
  v53 := Tryz.zeroValue57
  t171 := Tryz.underlying266
  a171 := Tryz.isAgg266
  z171 := Tryz.sizeOf266
  v171 := Tryz.zeroValue266
  t173 := Tryz.underlying268
  a173 := Tryz.isAgg268
  z173 := Tryz.sizeOf268
  v173 := Tryz.zeroValue268
  t212 := Tryz.underlying301
  a212 := Tryz.isAgg301
  z212 := Tryz.sizeOf301
  v212 := Tryz.zeroValue301
  t213 := Tryz.underlying302
  a213 := Tryz.isAgg302
  z213 := Tryz.sizeOf302
  t232 := Tryz.underlying317
  a232 := Tryz.isAgg317
  z232 := Tryz.sizeOf317
  v232 := Tryz.zeroValue317
  t233 := Tryz.underlying316
  a233 := Tryz.isAgg316
  z233 := Tryz.sizeOf316
  v233 := Tryz.zeroValue316
  g17 := by kernel_rfl
  g18 := by kernel_rfl
  g19 := by kernel_rfl }
open Go.RowKit Go.Sort Go.Lib in
/-- THE ROAD WITHOUT THE TABLE: 0 <= i < 100: two constants are read, nothing is laid: no premise on the world, and the world is as it was. (LAID: no walk: one application.) -/
theorem Tryz.internal_strconv_FormatInt_10_small (i : Nat) (hi : i < 100) (w : World) :
    Calls Tryz.prog 259 #[.int .i64 i, .int .i64 10] w fun e w' => e = .returned (.string ⟨(Lib.decDigits i).toArray⟩) ∧ w' = w := Any.internal_strconv_FormatInt_10_small Tryz.lays246 i hi w
def Tryz.laysM243_ren : Go.Shelf.Ren := ⟨fun | 243 => 228 | 246 => 259 | 283 => 240 | 284 => 241 | 285 => 242 | 286 => 243 | 129 => 236 | 317 => 262 | 318 => 263 | 319 => 264 | 320 => 265 | 337 => 273 | 338 => 268 | n => n, fun | 3 => 3 | 9 => 9 | 2 => 2 | 4 => 4 | 171 => 266 | 0 => 0 | 53 => 57 | 37 => 200 | 5 => 5 | 173 => 268 | 212 => 301 | 51 => 270 | 20 => 20 | 213 => 302 | 46 => 137 | 232 => 317 | 233 => 316 | n => n, fun | 17 => 6 | 18 => 10 | 19 => 9 | n => n⟩
theorem Tryz.laysM243 : Go.Proofs.LaysM.n243 Tryz.prog Tryz.laysM243_ren := {
  mixed := by kernel_rfl
  f129 := Tryz.func236.trans (congrArg some (by kernel_rfl))
  f243 := Tryz.func228.trans (congrArg some (by kernel_rfl))
  f246 := Tryz.func259.trans (congrArg some (by kernel_rfl))
  f283 := Tryz.func240.trans (congrArg some (by kernel_rfl))
  f284 := Tryz.func241.trans (congrArg some (by kernel_rfl))
  f285 := Tryz.func242.trans (congrArg some (by kernel_rfl))
  f286 := Tryz.func243.trans (congrArg some (by kernel_rfl))
  f317 := Tryz.func262.trans (congrArg some (by kernel_rfl))
  f318 := Tryz.func263.trans (congrArg some (by kernel_rfl))
  f319 := Tryz.func264.trans (congrArg some (by kernel_rfl))
  f320 := Tryz.func265.trans (congrArg some (by kernel_rfl))
  f337 := Tryz.func273.trans (congrArg some (by kernel_rfl))
  f338 := Tryz.func268.trans (congrArg some (by kernel_rfl))
  t0 := Tryz.underlying0
  a0 := Tryz.isAgg0
  z0 := Tryz.sizeOf0
  v0 := Tryz.zeroValue0
  t2 := Tryz.underlying2
  a2 := Tryz.isAgg2
  z2 := Tryz.sizeOf2
  v2 := Tryz.zeroValue2
  t3 := Tryz.underlying3
  a3 := Tryz.isAgg3
  z3 := Tryz.sizeOf3
  v3 := Tryz.zeroValue3
  t4 := Tryz.underlying4
  a4 := Tryz.isAgg4
  z4 := Tryz.sizeOf4
  v4 := Tryz.zeroValue4
  t5 := Tryz.underlying5
  a5 := Tryz.isAgg5
  z5 := Tryz.sizeOf5
  v5 := Tryz.zeroValue5
  t9 := Tryz.underlying9
  a9 := Tryz.isAgg9
  z9 := Tryz.sizeOf9
  v9 := Tryz.zeroValue9
  t20 := Tryz.underlying20
  a20 := Tryz.isAgg20
  z20 := Tryz.sizeOf20
  v20 := Tryz.zeroValue20
  t37 := Tryz.underlying200
  a37 := Tryz.isAgg200
  z37 := Tryz.sizeOf200
  v37 := Tryz.zeroValue200
  t46 := Tryz.underlying137
  a46 := Tryz.isAgg137
  z46 := Tryz.sizeOf137
  v46 := Tryz.zeroValue137
  t51 := Tryz.underlying270
  a51 := Tryz.isAgg270
  z51 := Tryz.sizeOf270
  v51 := Tryz.zeroValue270
  t53 := Tryz.underlying57
  a53 := Tryz.isAgg57
  z53 := Tryz.sizeOf57
  v53 := Tryz.zeroValue57
  t171 := Tryz.underlying266
  a171 := Tryz.isAgg266
  z171 := Tryz.sizeOf266
  v171 := Tryz.zeroValue266
  t173 := Tryz.underlying268
  a173 := Tryz.isAgg268
  z173 := Tryz.sizeOf268
  v173 := Tryz.zeroValue268
  t212 := Tryz.underlying301
  a212 := Tryz.isAgg301
  z212 := Tryz.sizeOf301
  v212 := Tryz.zeroValue301
  t213 := Tryz.underlying302
  a213 := Tryz.isAgg302
  z213 := Tryz.sizeOf302
  t232 := Tryz.underlying317
  a232 := Tryz.isAgg317
  z232 := Tryz.sizeOf317
  v232 := Tryz.zeroValue317
  t233 := Tryz.underlying316
  a233 := Tryz.isAgg316
  z233 := Tryz.sizeOf316
  v233 := Tryz.zeroValue316
  g17 := by kernel_rfl
  g18 := by kernel_rfl
  g19 := by kernel_rfl
  i0 := by kernel_rfl
  i2 := by kernel_rfl
  i3 := by kernel_rfl
  i4 := by kernel_rfl
  i5 := by kernel_rfl
  i9 := by kernel_rfl
  i20 := by kernel_rfl
  i37 := by kernel_rfl
  i46 := by kernel_rfl
  i51 := by kernel_rfl
  i53 := by kernel_rfl
  i171 := by kernel_rfl
  i173 := by kernel_rfl
  i212 := by kernel_rfl
  i232 := by kernel_rfl
  i233 := by kernel_rfl
  m17 := by kernel_rfl
  m18 := by kernel_rfl
  m19 := by kernel_rfl }
open Go.RowKit Go.Sort Go.Lib in
/-- internal/strconv.Itoa: "Itoa is equivalent to FormatInt(int64(i), 10).": i's decimal numeral, for every int. (LAID: no walk: one application.) -/
theorem Tryz.internal_strconv_Itoa (n : Int) (h0 : -9223372036854775808 ≤ n) (h1 : n ≤ 9223372036854775807) (w : World) (htab : Lib.TabIs Tryz.prog w "internal/strconv.uint64pow10" .u64 Lib.pow10Tab) :
    Calls Tryz.prog 228 #[.int .i64 n] w fun e w' => e = .returned (.string ⟨(Lib.itoa n).toArray⟩) ∧ ∃ k os, w' = grow (w.drewN k) os := Any.internal_strconv_Itoa Tryz.laysM243 n h0 h1 w htab
def Tryz.lays243_ren : Go.Shelf.Ren := ⟨fun | 243 => 228 | 246 => 259 | 283 => 240 | 284 => 241 | 285 => 242 | 286 => 243 | 129 => 236 | 317 => 262 | 318 => 263 | 319 => 264 | 320 => 265 | 337 => 273 | 338 => 268 | n => n, fun | 3 => 3 | 9 => 9 | 2 => 2 | 4 => 4 | 171 => 266 | 0 => 0 | 53 => 57 | 37 => 200 | 5 => 5 | 173 => 268 | 212 => 301 | 51 => 270 | 20 => 20 | 213 => 302 | 46 => 137 | 232 => 317 | 233 => 316 | n => n, fun | 17 => 6 | 18 => 10 | 19 => 9 | n => n⟩
theorem Tryz.lays243 : Go.Proofs.Lays.n243 Tryz.prog Tryz.lays243_ren := {
  mixed := by kernel_rfl
  f129 := Tryz.func236.trans (congrArg some (by kernel_rfl))
  f243 := Tryz.func228.trans (congrArg some (by kernel_rfl))
  f246 := Tryz.func259.trans (congrArg some (by kernel_rfl))
  f283 := Tryz.func240.trans (congrArg some (by kernel_rfl))
  f284 := Tryz.func241.trans (congrArg some (by kernel_rfl))
  f285 := Tryz.func242.trans (congrArg some (by kernel_rfl))
  f286 := Tryz.func243.trans (congrArg some (by kernel_rfl))
  f317 := Tryz.func262.trans (congrArg some (by kernel_rfl))
  f318 := Tryz.func263.trans (congrArg some (by kernel_rfl))
  f319 := Tryz.func264.trans (congrArg some (by kernel_rfl))
  f320 := Tryz.func265.trans (congrArg some (by kernel_rfl))
  f337 := Tryz.func273.trans (congrArg some (by kernel_rfl))
  f338 := Tryz.func268.trans (congrArg some (by kernel_rfl))
  t0 := Tryz.underlying0
  a0 := Tryz.isAgg0
  z0 := Tryz.sizeOf0
  v0 := Tryz.zeroValue0
  t2 := Tryz.underlying2
  a2 := Tryz.isAgg2
  z2 := Tryz.sizeOf2
  v2 := Tryz.zeroValue2
  t3 := Tryz.underlying3
  a3 := Tryz.isAgg3
  z3 := Tryz.sizeOf3
  v3 := Tryz.zeroValue3
  t4 := Tryz.underlying4
  a4 := Tryz.isAgg4
  z4 := Tryz.sizeOf4
  v4 := Tryz.zeroValue4
  t5 := Tryz.underlying5
  a5 := Tryz.isAgg5
  z5 := Tryz.sizeOf5
  v5 := Tryz.zeroValue5
  t9 := Tryz.underlying9
  a9 := Tryz.isAgg9
  z9 := Tryz.sizeOf9
  v9 := Tryz.zeroValue9
  t20 := Tryz.underlying20
  a20 := Tryz.isAgg20
  z20 := Tryz.sizeOf20
  v20 := Tryz.zeroValue20
  t37 := Tryz.underlying200
  a37 := Tryz.isAgg200
  z37 := Tryz.sizeOf200
  v37 := Tryz.zeroValue200
  t46 := Tryz.underlying137
  a46 := Tryz.isAgg137
  z46 := Tryz.sizeOf137
  v46 := Tryz.zeroValue137
  t51 := Tryz.underlying270
  a51 := Tryz.isAgg270
  z51 := Tryz.sizeOf270
  v51 := Tryz.zeroValue270
  t53 := Tryz.underlying57
  a53 := Tryz.isAgg57
  z53 := Tryz.sizeOf57
  v53 := Tryz.zeroValue57
  t171 := Tryz.underlying266
  a171 := Tryz.isAgg266
  z171 := Tryz.sizeOf266
  v171 := Tryz.zeroValue266
  t173 := Tryz.underlying268
  a173 := Tryz.isAgg268
  z173 := Tryz.sizeOf268
  v173 := Tryz.zeroValue268
  t212 := Tryz.underlying301
  a212 := Tryz.isAgg301
  z212 := Tryz.sizeOf301
  v212 := Tryz.zeroValue301
  t213 := Tryz.underlying302
  a213 := Tryz.isAgg302
  z213 := Tryz.sizeOf302
  t232 := Tryz.underlying317
  a232 := Tryz.isAgg317
  z232 := Tryz.sizeOf317
  v232 := Tryz.zeroValue317
  t233 := Tryz.underlying316
  a233 := Tryz.isAgg316
  z233 := Tryz.sizeOf316
  v233 := Tryz.zeroValue316
  g17 := by kernel_rfl
  g18 := by kernel_rfl
  g19 := by kernel_rfl }
open Go.RowKit Go.Sort Go.Lib in
/-- THE ROAD WITHOUT THE TABLE: 0 <= i < 100. (LAID: no walk: one application.) -/
theorem Tryz.internal_strconv_Itoa_small (i : Nat) (hi : i < 100) (w : World) :
    Calls Tryz.prog 228 #[.int .i64 i] w fun e w' => e = .returned (.string ⟨(Lib.decDigits i).toArray⟩) ∧ w' = w := Any.internal_strconv_Itoa_small Tryz.lays243 i hi w
def Tryz.laysM171_ren : Go.Shelf.Ren := ⟨fun | 171 => 190 | 243 => 228 | 246 => 259 | 283 => 240 | 284 => 241 | 285 => 242 | 286 => 243 | 129 => 236 | 317 => 262 | 318 => 263 | 319 => 264 | 320 => 265 | 337 => 273 | 338 => 268 | n => n, fun | 3 => 3 | 9 => 9 | 2 => 2 | 4 => 4 | 171 => 266 | 0 => 0 | 53 => 57 | 37 => 200 | 5 => 5 | 173 => 268 | 212 => 301 | 51 => 270 | 20 => 20 | 213 => 302 | 46 => 137 | 232 => 317 | 233 => 316 | n => n, fun | 17 => 6 | 18 => 10 | 19 => 9 | n => n⟩
theorem Tryz.laysM171 : Go.Proofs.LaysM.n171 Tryz.prog Tryz.laysM171_ren := {
  mixed := by kernel_rfl
  f129 := Tryz.func236.trans (congrArg some (by kernel_rfl))
  f171 := Tryz.func190.trans (congrArg some (by kernel_rfl))
  f243 := Tryz.func228.trans (congrArg some (by kernel_rfl))
  f246 := Tryz.func259.trans (congrArg some (by kernel_rfl))
  f283 := Tryz.func240.trans (congrArg some (by kernel_rfl))
  f284 := Tryz.func241.trans (congrArg some (by kernel_rfl))
  f285 := Tryz.func242.trans (congrArg some (by kernel_rfl))
  f286 := Tryz.func243.trans (congrArg some (by kernel_rfl))
  f317 := Tryz.func262.trans (congrArg some (by kernel_rfl))
  f318 := Tryz.func263.trans (congrArg some (by kernel_rfl))
  f319 := Tryz.func264.trans (congrArg some (by kernel_rfl))
  f320 := Tryz.func265.trans (congrArg some (by kernel_rfl))
  f337 := Tryz.func273.trans (congrArg some (by kernel_rfl))
  f338 := Tryz.func268.trans (congrArg some (by kernel_rfl))
  t0 := Tryz.underlying0
  a0 := Tryz.isAgg0
  z0 := Tryz.sizeOf0
  v0 := Tryz.zeroValue0
  t2 := Tryz.underlying2
  a2 := Tryz.isAgg2
  z2 := Tryz.sizeOf2
  v2 := Tryz.zeroValue2
  t3 := Tryz.underlying3
  a3 := Tryz.isAgg3
  z3 := Tryz.sizeOf3
  v3 := Tryz.zeroValue3
  t4 := Tryz.underlying4
  a4 := Tryz.isAgg4
  z4 := Tryz.sizeOf4
  v4 := Tryz.zeroValue4
  t5 := Tryz.underlying5
  a5 := Tryz.isAgg5
  z5 := Tryz.sizeOf5
  v5 := Tryz.zeroValue5
  t9 := Tryz.underlying9
  a9 := Tryz.isAgg9
  z9 := Tryz.sizeOf9
  v9 := Tryz.zeroValue9
  t20 := Tryz.underlying20
  a20 := Tryz.isAgg20
  z20 := Tryz.sizeOf20
  v20 := Tryz.zeroValue20
  t37 := Tryz.underlying200
  a37 := Tryz.isAgg200
  z37 := Tryz.sizeOf200
  v37 := Tryz.zeroValue200
  t46 := Tryz.underlying137
  a46 := Tryz.isAgg137
  z46 := Tryz.sizeOf137
  v46 := Tryz.zeroValue137
  t51 := Tryz.underlying270
  a51 := Tryz.isAgg270
  z51 := Tryz.sizeOf270
  v51 := Tryz.zeroValue270
  t53 := Tryz.underlying57
  a53 := Tryz.isAgg57
  z53 := Tryz.sizeOf57
  v53 := Tryz.zeroValue57
  t171 := Tryz.underlying266
  a171 := Tryz.isAgg266
  z171 := Tryz.sizeOf266
  v171 := Tryz.zeroValue266
  t173 := Tryz.underlying268
  a173 := Tryz.isAgg268
  z173 := Tryz.sizeOf268
  v173 := Tryz.zeroValue268
  t212 := Tryz.underlying301
  a212 := Tryz.isAgg301
  z212 := Tryz.sizeOf301
  v212 := Tryz.zeroValue301
  t213 := Tryz.underlying302
  a213 := Tryz.isAgg302
  z213 := Tryz.sizeOf302
  t232 := Tryz.underlying317
  a232 := Tryz.isAgg317
  z232 := Tryz.sizeOf317
  v232 := Tryz.zeroValue317
  t233 := Tryz.underlying316
  a233 := Tryz.isAgg316
  z233 := Tryz.sizeOf316
  v233 := Tryz.zeroValue316
  g17 := by kernel_rfl
  g18 := by kernel_rfl
  g19 := by kernel_rfl
  i0 := by kernel_rfl
  i2 := by kernel_rfl
  i3 := by kernel_rfl
  i4 := by kernel_rfl
  i5 := by kernel_rfl
  i9 := by kernel_rfl
  i20 := by kernel_rfl
  i37 := by kernel_rfl
  i46 := by kernel_rfl
  i51 := by kernel_rfl
  i53 := by kernel_rfl
  i171 := by kernel_rfl
  i173 := by kernel_rfl
  i212 := by kernel_rfl
  i232 := by kernel_rfl
  i233 := by kernel_rfl
  m17 := by kernel_rfl
  m18 := by kernel_rfl
  m19 := by kernel_rfl }
open Go.RowKit Go.Sort Go.Lib in
/-- strconv.Itoa: "Itoa is equivalent to FormatInt(int64(i), 10).": i's DECIMAL NUMERAL ('Lib.itoa': a '-' where i is negative, then the digits), FOR EVERY int. The world behind the call: the world before it, new blocks behind the heap (the library's 'var a [24]byte'), draws. (LAID: no walk: one application.) -/
theorem Tryz.strconv_Itoa (n : Int) (h0 : -9223372036854775808 ≤ n) (h1 : n ≤ 9223372036854775807) (w : World) (htab : Lib.TabIs Tryz.prog w "internal/strconv.uint64pow10" .u64 Lib.pow10Tab) :
    Calls Tryz.prog 190 #[.int .i64 n] w fun e w' => e = .returned (.string ⟨(Lib.itoa n).toArray⟩) ∧ ∃ k os, w' = grow (w.drewN k) os := Any.strconv_Itoa Tryz.laysM171 n h0 h1 w htab
def Tryz.lays171_ren : Go.Shelf.Ren := ⟨fun | 171 => 190 | 243 => 228 | 246 => 259 | 283 => 240 | 284 => 241 | 285 => 242 | 286 => 243 | 129 => 236 | 317 => 262 | 318 => 263 | 319 => 264 | 320 => 265 | 337 => 273 | 338 => 268 | n => n, fun | 3 => 3 | 9 => 9 | 2 => 2 | 4 => 4 | 171 => 266 | 0 => 0 | 53 => 57 | 37 => 200 | 5 => 5 | 173 => 268 | 212 => 301 | 51 => 270 | 20 => 20 | 213 => 302 | 46 => 137 | 232 => 317 | 233 => 316 | n => n, fun | 17 => 6 | 18 => 10 | 19 => 9 | n => n⟩
theorem Tryz.lays171 : Go.Proofs.Lays.n171 Tryz.prog Tryz.lays171_ren := {
  mixed := by kernel_rfl
  f129 := Tryz.func236.trans (congrArg some (by kernel_rfl))
  f171 := Tryz.func190.trans (congrArg some (by kernel_rfl))
  f243 := Tryz.func228.trans (congrArg some (by kernel_rfl))
  f246 := Tryz.func259.trans (congrArg some (by kernel_rfl))
  f283 := Tryz.func240.trans (congrArg some (by kernel_rfl))
  f284 := Tryz.func241.trans (congrArg some (by kernel_rfl))
  f285 := Tryz.func242.trans (congrArg some (by kernel_rfl))
  f286 := Tryz.func243.trans (congrArg some (by kernel_rfl))
  f317 := Tryz.func262.trans (congrArg some (by kernel_rfl))
  f318 := Tryz.func263.trans (congrArg some (by kernel_rfl))
  f319 := Tryz.func264.trans (congrArg some (by kernel_rfl))
  f320 := Tryz.func265.trans (congrArg some (by kernel_rfl))
  f337 := Tryz.func273.trans (congrArg some (by kernel_rfl))
  f338 := Tryz.func268.trans (congrArg some (by kernel_rfl))
  t0 := Tryz.underlying0
  a0 := Tryz.isAgg0
  z0 := Tryz.sizeOf0
  v0 := Tryz.zeroValue0
  t2 := Tryz.underlying2
  a2 := Tryz.isAgg2
  z2 := Tryz.sizeOf2
  v2 := Tryz.zeroValue2
  t3 := Tryz.underlying3
  a3 := Tryz.isAgg3
  z3 := Tryz.sizeOf3
  v3 := Tryz.zeroValue3
  t4 := Tryz.underlying4
  a4 := Tryz.isAgg4
  z4 := Tryz.sizeOf4
  v4 := Tryz.zeroValue4
  t5 := Tryz.underlying5
  a5 := Tryz.isAgg5
  z5 := Tryz.sizeOf5
  v5 := Tryz.zeroValue5
  t9 := Tryz.underlying9
  a9 := Tryz.isAgg9
  z9 := Tryz.sizeOf9
  v9 := Tryz.zeroValue9
  t20 := Tryz.underlying20
  a20 := Tryz.isAgg20
  z20 := Tryz.sizeOf20
  v20 := Tryz.zeroValue20
  t37 := Tryz.underlying200
  a37 := Tryz.isAgg200
  z37 := Tryz.sizeOf200
  v37 := Tryz.zeroValue200
  t46 := Tryz.underlying137
  a46 := Tryz.isAgg137
  z46 := Tryz.sizeOf137
  v46 := Tryz.zeroValue137
  t51 := Tryz.underlying270
  a51 := Tryz.isAgg270
  z51 := Tryz.sizeOf270
  v51 := Tryz.zeroValue270
  t53 := Tryz.underlying57
  a53 := Tryz.isAgg57
  z53 := Tryz.sizeOf57
  v53 := Tryz.zeroValue57
  t171 := Tryz.underlying266
  a171 := Tryz.isAgg266
  z171 := Tryz.sizeOf266
  v171 := Tryz.zeroValue266
  t173 := Tryz.underlying268
  a173 := Tryz.isAgg268
  z173 := Tryz.sizeOf268
  v173 := Tryz.zeroValue268
  t212 := Tryz.underlying301
  a212 := Tryz.isAgg301
  z212 := Tryz.sizeOf301
  v212 := Tryz.zeroValue301
  t213 := Tryz.underlying302
  a213 := Tryz.isAgg302
  z213 := Tryz.sizeOf302
  t232 := Tryz.underlying317
  a232 := Tryz.isAgg317
  z232 := Tryz.sizeOf317
  v232 := Tryz.zeroValue317
  t233 := Tryz.underlying316
  a233 := Tryz.isAgg316
  z233 := Tryz.sizeOf316
  v233 := Tryz.zeroValue316
  g17 := by kernel_rfl
  g18 := by kernel_rfl
  g19 := by kernel_rfl }
open Go.RowKit Go.Sort Go.Lib in
/-- THE ROAD WITHOUT THE TABLE: 0 <= i < 100: NO PREMISE ON THE WORLD, AND THE WORLD IS AS IT WAS: a row that keeps its argument in that range need list no table ('laid = []'). (LAID: no walk: one application.) -/
theorem Tryz.strconv_Itoa_small (i : Nat) (hi : i < 100) (w : World) :
    Calls Tryz.prog 190 #[.int .i64 i] w fun e w' => e = .returned (.string ⟨(Lib.decDigits i).toArray⟩) ∧ w' = w := Any.strconv_Itoa_small Tryz.lays171 i hi w
def Tryz.lays217_ren : Go.Shelf.Ren := ⟨fun | 217 => 250 | 266 => 269 | n => n, fun | 9 => 9 | 5 => 5 | 3 => 3 | n => n, fun | n => n⟩
theorem Tryz.lays217 : Go.Proofs.Lays.n217 Tryz.prog Tryz.lays217_ren := {
  mixed := by kernel_rfl
  f217 := Tryz.func250.trans (congrArg some (by kernel_rfl))
  f266 := Tryz.func269.trans (congrArg some (by kernel_rfl))
  t3 := Tryz.underlying3
  a3 := Tryz.isAgg3
  z3 := Tryz.sizeOf3
  v3 := Tryz.zeroValue3
  t5 := Tryz.underlying5
  a5 := Tryz.isAgg5
  z5 := Tryz.sizeOf5
  v5 := Tryz.zeroValue5
  t9 := Tryz.underlying9
  a9 := Tryz.isAgg9
  z9 := Tryz.sizeOf9
  v9 := Tryz.zeroValue9 }
open Go.RowKit Go.Lib in
/-- internal/stringslite.IndexByte (what strings.IndexByte calls): IT RETURNS 'Lib.indexByte s c'; the world is as it was. (LAID: no walk: one application.) -/
theorem Tryz.stringslite_IndexByte (s : ByteArray) (c : Int) (w : World) :
    Calls Tryz.prog 250 #[.string s, .int .u8 c] w fun e w' => e = .returned (.int .i64 (Lib.indexByte s.data.toList c.toNat.toUInt8)) ∧ w' = w := Any.stringslite_IndexByte Tryz.lays217 s c w
def Tryz.lays224_ren : Go.Shelf.Ren := ⟨fun | 224 => 252 | n => n, fun | 3 => 3 | n => n, fun | n => n⟩
theorem Tryz.lays224 : Go.Proofs.Lays.n224 Tryz.prog Tryz.lays224_ren := {
  mixed := by kernel_rfl
  f224 := Tryz.func252.trans (congrArg some (by kernel_rfl))
  t3 := Tryz.underlying3
  a3 := Tryz.isAgg3
  z3 := Tryz.sizeOf3
  v3 := Tryz.zeroValue3 }
open Go.RowKit Go.Lib in
/-- internal/bytealg.Cutover: "Cutover reports the number of failures of IndexByte we should tolerate before switching over to Index. n is the number of bytes processed so far.": on amd64: (n + 16) / 8. (LAID: no walk: one application.) -/
theorem Tryz.bytealg_Cutover (n : Int) (h0 : 0 ≤ n) (h1 : n < 4611686018427387904) (w : World) :
    Calls Tryz.prog 252 #[.int .i64 n] w fun e w' => e = .returned (.int .i64 ((n + 16) / 8)) ∧ w' = w := Any.bytealg_Cutover Tryz.lays224 n h0 h1 w
def Tryz.lays314_ren : Go.Shelf.Ren := ⟨fun | 314 => 270 | n => n, fun | 9 => 9 | 51 => 270 | 3 => 3 | 4 => 4 | 5 => 5 | 46 => 137 | n => n, fun | n => n⟩
theorem Tryz.lays314 : Go.Proofs.Lays.n314 Tryz.prog Tryz.lays314_ren := {
  mixed := by kernel_rfl
  f314 := Tryz.func270.trans (congrArg some (by kernel_rfl))
  t3 := Tryz.underlying3
  a3 := Tryz.isAgg3
  z3 := Tryz.sizeOf3
  v3 := Tryz.zeroValue3
  t4 := Tryz.underlying4
  a4 := Tryz.isAgg4
  z4 := Tryz.sizeOf4
  v4 := Tryz.zeroValue4
  t5 := Tryz.underlying5
  a5 := Tryz.isAgg5
  z5 := Tryz.sizeOf5
  v5 := Tryz.zeroValue5
  t9 := Tryz.underlying9
  a9 := Tryz.isAgg9
  z9 := Tryz.sizeOf9
  v9 := Tryz.zeroValue9
  t46 := Tryz.underlying137
  a46 := Tryz.isAgg137
  z46 := Tryz.sizeOf137
  v46 := Tryz.zeroValue137
  t51 := Tryz.underlying270
  a51 := Tryz.isAgg270
  z51 := Tryz.sizeOf270
  v51 := Tryz.zeroValue270 }
open Go.RowKit Go.Lib in
/-- hashStr: "returns the hash and the appropriate multiplicative factor for use in Rabin-Karp algorithm": THE HASH OF ALL OF sep, AND 16777619 ^ len(sep), both in uint32. (LAID: no walk: one application.) -/
theorem Tryz.bytealg_hashStr (sep : ByteArray) (hs : sep.size < 4294967281) (w : World) :
    Calls Tryz.prog 270 #[.string sep] w fun e w' => e = .returned (.tuple #[.int .u32 (RK.H sep.data.toList % 4294967296), .int .u32 (16777619 ^ sep.size % 4294967296)]) ∧ w' = w := Any.bytealg_hashStr Tryz.lays314 sep hs w
def Tryz.lays267_ren : Go.Shelf.Ren := ⟨fun | 267 => 253 | 314 => 270 | n => n, fun | 9 => 9 | 3 => 3 | 146 => 271 | 51 => 270 | 4 => 4 | 5 => 5 | 46 => 137 | n => n, fun | n => n⟩
theorem Tryz.lays267 : Go.Proofs.Lays.n267 Tryz.prog Tryz.lays267_ren := {
  mixed := by kernel_rfl
  f267 := Tryz.func253.trans (congrArg some (by kernel_rfl))
  f314 := Tryz.func270.trans (congrArg some (by kernel_rfl))
  t3 := Tryz.underlying3
  a3 := Tryz.isAgg3
  z3 := Tryz.sizeOf3
  v3 := Tryz.zeroValue3
  t4 := Tryz.underlying4
  a4 := Tryz.isAgg4
  z4 := Tryz.sizeOf4
  v4 := Tryz.zeroValue4
  t5 := Tryz.underlying5
  a5 := Tryz.isAgg5
  z5 := Tryz.sizeOf5
  v5 := Tryz.zeroValue5
  t9 := Tryz.underlying9
  a9 := Tryz.isAgg9
  z9 := Tryz.sizeOf9
  v9 := Tryz.zeroValue9
  t46 := Tryz.underlying137
  a46 := Tryz.isAgg137
  z46 := Tryz.sizeOf137
  v46 := Tryz.zeroValue137
  t51 := Tryz.underlying270
  a51 := Tryz.isAgg270
  z51 := Tryz.sizeOf270
  v51 := Tryz.zeroValue270
  t146 := Tryz.underlying271
  a146 := Tryz.isAgg271
  z146 := Tryz.sizeOf271
  v146 := Tryz.zeroValue271 }
open Go.RowKit Go.Lib in
theorem Tryz.bytealg_IndexRabinKarp (s sep : ByteArray) (h1 : 1 ≤ sep.size) (h2 : sep.size ≤ s.size) (hs : s.size < 4294967281) (w : World) :
    Calls Tryz.prog 253 #[.string s, .string sep] w fun e w' => e = .returned (.int .i64 (Lib.index s.data.toList sep.data.toList)) ∧ w' = w := Any.bytealg_IndexRabinKarp Tryz.lays267 s sep h1 h2 hs w
def Tryz.lays219_ren : Go.Shelf.Ren := ⟨fun | 219 => 214 | 217 => 250 | 225 => 251 | 224 => 252 | 267 => 253 | 266 => 269 | 314 => 270 | n => n, fun | 9 => 9 | 3 => 3 | 4 => 4 | 5 => 5 | 46 => 137 | 146 => 271 | 51 => 270 | n => n, fun | 1 => 3 | n => n⟩
theorem Tryz.lays219 : Go.Proofs.Lays.n219 Tryz.prog Tryz.lays219_ren := {
  mixed := by kernel_rfl
  f217 := Tryz.func250.trans (congrArg some (by kernel_rfl))
  f219 := Tryz.func214.trans (congrArg some (by kernel_rfl))
  f224 := Tryz.func252.trans (congrArg some (by kernel_rfl))
  f225 := Tryz.func251.trans (congrArg some (by kernel_rfl))
  f266 := Tryz.func269.trans (congrArg some (by kernel_rfl))
  f267 := Tryz.func253.trans (congrArg some (by kernel_rfl))
  f314 := Tryz.func270.trans (congrArg some (by kernel_rfl))
  t3 := Tryz.underlying3
  a3 := Tryz.isAgg3
  z3 := Tryz.sizeOf3
  v3 := Tryz.zeroValue3
  t4 := Tryz.underlying4
  a4 := Tryz.isAgg4
  z4 := Tryz.sizeOf4
  v4 := Tryz.zeroValue4
  t5 := Tryz.underlying5
  a5 := Tryz.isAgg5
  z5 := Tryz.sizeOf5
  v5 := Tryz.zeroValue5
  t9 := Tryz.underlying9
  a9 := Tryz.isAgg9
  z9 := Tryz.sizeOf9
  v9 := Tryz.zeroValue9
  t46 := Tryz.underlying137
  a46 := Tryz.isAgg137
  z46 := Tryz.sizeOf137
  v46 := Tryz.zeroValue137
  t51 := Tryz.underlying270
  a51 := Tryz.isAgg270
  z51 := Tryz.sizeOf270
  v51 := Tryz.zeroValue270
  t146 := Tryz.underlying271
  a146 := Tryz.isAgg271
  z146 := Tryz.sizeOf271
  v146 := Tryz.zeroValue271
  g1 := by kernel_rfl }
open Go.RowKit Go.Lib in
/-- internal/stringslite.Index (what strings.Index calls) AT A substr OF ONE BYTE c: IT RETURNS 'Lib.indexByte s c'; the world is as it was. (LAID: no walk: one application.) -/
theorem Tryz.stringslite_Index_one (s : ByteArray) (c : UInt8) (w : World) :
    Calls Tryz.prog 214 #[.string s, .string ⟨#[c]⟩] w fun e w' => e = .returned (.int .i64 (Lib.indexByte s.data.toList c)) ∧ w' = w := Any.stringslite_Index_one Tryz.lays219 s c w
open Go.RowKit Go.Lib in
/-- internal/stringslite.Index (what strings.Index calls) AT A substr OF WHATEVER LENGTH: IT RETURNS 'Lib.index s substr'; the world is as it was. 'm': what internal/bytealg.MaxLen holds: whatever. (LAID: no walk: one application.) -/
theorem Tryz.stringslite_Index (s sub : ByteArray) (m : Int) (w : World) (hs : s.size < 4294967281) (hm : w.cell? ⟨3, 0, none⟩ = some (.int .i64 m)) :
    Calls Tryz.prog 214 #[.string s, .string sub] w fun e w' => e = .returned (.int .i64 (Lib.index s.data.toList sub.data.toList)) ∧ w' = w := Any.stringslite_Index Tryz.lays219 s sub m w hs hm
def Tryz.lays220_ren : Go.Shelf.Ren := ⟨fun | 220 => 168 | 219 => 214 | 217 => 250 | 225 => 251 | 224 => 252 | 267 => 253 | 266 => 269 | 314 => 270 | n => n, fun | 9 => 9 | 4 => 4 | 3 => 3 | 5 => 5 | 46 => 137 | 146 => 271 | 51 => 270 | n => n, fun | 1 => 3 | n => n⟩
theorem Tryz.lays220 : Go.Proofs.Lays.n220 Tryz.prog Tryz.lays220_ren := {
  mixed := by kernel_rfl
  f217 := Tryz.func250.trans (congrArg some (by kernel_rfl))
  f219 := Tryz.func214.trans (congrArg some (by kernel_rfl))
  f220 := Tryz.func168.trans (congrArg some (by kernel_rfl))
  f224 := Tryz.func252.trans (congrArg some (by kernel_rfl))
  f225 := Tryz.func251.trans (congrArg some (by kernel_rfl))
  f266 := Tryz.func269.trans (congrArg some (by kernel_rfl))
  f267 := Tryz.func253.trans (congrArg some (by kernel_rfl))
  f314 := Tryz.func270.trans (congrArg some (by kernel_rfl))
  t3 := Tryz.underlying3
  a3 := Tryz.isAgg3
  z3 := Tryz.sizeOf3
  v3 := Tryz.zeroValue3
  t4 := Tryz.underlying4
  a4 := Tryz.isAgg4
  z4 := Tryz.sizeOf4
  v4 := Tryz.zeroValue4
  t5 := Tryz.underlying5
  a5 := Tryz.isAgg5
  z5 := Tryz.sizeOf5
  v5 := Tryz.zeroValue5
  t9 := Tryz.underlying9
  a9 := Tryz.isAgg9
  z9 := Tryz.sizeOf9
  v9 := Tryz.zeroValue9
  t46 := Tryz.underlying137
  a46 := Tryz.isAgg137
  z46 := Tryz.sizeOf137
  v46 := Tryz.zeroValue137
  t51 := Tryz.underlying270
  a51 := Tryz.isAgg270
  z51 := Tryz.sizeOf270
  v51 := Tryz.zeroValue270
  t146 := Tryz.underlying271
  a146 := Tryz.isAgg271
  z146 := Tryz.sizeOf271
  v146 := Tryz.zeroValue271
  g1 := by kernel_rfl }
open Go.RowKit Go.Lib in
/-- internal/stringslite.Cut (what strings.Cut calls): IT RETURNS 'Lib.cut s sep'; the world is as it was but for the count of draws. (LAID: no walk: one application.) -/
theorem Tryz.stringslite_Cut (s sep : ByteArray) (m : Int) (w : World) (hs : s.size < 4294967281) (hm : w.cell? ⟨3, 0, none⟩ = some (.int .i64 m)) :
    Calls Tryz.prog 168 #[.string s, .string sep] w fun e w' => e = .returned (.tuple #[.string ⟨(Lib.cut s.data.toList sep.data.toList).1.toArray⟩, .string ⟨(Lib.cut s.data.toList sep.data.toList).2.1.toArray⟩, .bool (Lib.cut s.data.toList sep.data.toList).2.2]) ∧ ∃ n, w' = w.drewN n := Any.stringslite_Cut Tryz.lays220 s sep m w hs hm
def Tryz.lays145_ren : Go.Shelf.Ren := ⟨fun | 145 => 108 | 220 => 168 | 219 => 214 | 217 => 250 | 225 => 251 | 224 => 252 | 267 => 253 | 266 => 269 | 314 => 270 | n => n, fun | 9 => 9 | 4 => 4 | 59 => 146 | 3 => 3 | 5 => 5 | 46 => 137 | 146 => 271 | 51 => 270 | n => n, fun | 1 => 3 | n => n⟩
theorem Tryz.lays145 : Go.Proofs.Lays.n145 Tryz.prog Tryz.lays145_ren := {
  mixed := by kernel_rfl
  f145 := Tryz.func108.trans (congrArg some (by kernel_rfl))
  f217 := Tryz.func250.trans (congrArg some (by kernel_rfl))
  f219 := Tryz.func214.trans (congrArg some (by kernel_rfl))
  f220 := Tryz.func168.trans (congrArg some (by kernel_rfl))
  f224 := Tryz.func252.trans (congrArg some (by kernel_rfl))
  f225 := Tryz.func251.trans (congrArg some (by kernel_rfl))
  f266 := Tryz.func269.trans (congrArg some (by kernel_rfl))
  f267 := Tryz.func253.trans (congrArg some (by kernel_rfl))
  f314 := Tryz.func270.trans (congrArg some (by kernel_rfl))
  t3 := Tryz.underlying3
  a3 := Tryz.isAgg3
  z3 := Tryz.sizeOf3
  v3 := Tryz.zeroValue3
  t4 := Tryz.underlying4
  a4 := Tryz.isAgg4
  z4 := Tryz.sizeOf4
  v4 := Tryz.zeroValue4
  t5 := Tryz.underlying5
  a5 := Tryz.isAgg5
  z5 := Tryz.sizeOf5
  v5 := Tryz.zeroValue5
  t9 := Tryz.underlying9
  a9 := Tryz.isAgg9
  z9 := Tryz.sizeOf9
  v9 := Tryz.zeroValue9
  t46 := Tryz.underlying137
  a46 := Tryz.isAgg137
  z46 := Tryz.sizeOf137
  v46 := Tryz.zeroValue137
  t51 := Tryz.underlying270
  a51 := Tryz.isAgg270
  z51 := Tryz.sizeOf270
  v51 := Tryz.zeroValue270
  t59 := Tryz.underlying146
  a59 := Tryz.isAgg146
  z59 := Tryz.sizeOf146
  v59 := Tryz.zeroValue146
  t146 := Tryz.underlying271
  a146 := Tryz.isAgg271
  z146 := Tryz.sizeOf271
  v146 := Tryz.zeroValue271
  g1 := by kernel_rfl }
open Go.RowKit Go.Lib in
/-- strings.Cut: "Cut slices s around the first instance of sep, returning the text before and after sep. The found result reports whether sep appears in s. If sep does not appear in s, cut returns s, "", false.": IT RETURNS 'Lib.cut s sep'; the world is as it was but for the count of draws. (LAID: no walk: one application.) -/
theorem Tryz.strings_Cut (s sep : ByteArray) (m : Int) (w : World) (hs : s.size < 4294967281) (hm : w.cell? ⟨3, 0, none⟩ = some (.int .i64 m)) :
    Calls Tryz.prog 108 #[.string s, .string sep] w fun e w' => e = .returned (.tuple #[.string ⟨(Lib.cut s.data.toList sep.data.toList).1.toArray⟩, .string ⟨(Lib.cut s.data.toList sep.data.toList).2.1.toArray⟩, .bool (Lib.cut s.data.toList sep.data.toList).2.2]) ∧ ∃ n, w' = w.drewN n := Any.strings_Cut Tryz.lays145 s sep m w hs hm
def Tryz.laysM219_ren : Go.Shelf.Ren := ⟨fun | 219 => 214 | 217 => 250 | 225 => 251 | 224 => 252 | 267 => 253 | 266 => 269 | 314 => 270 | n => n, fun | 9 => 9 | 3 => 3 | 4 => 4 | 5 => 5 | 46 => 137 | 146 => 271 | 51 => 270 | n => n, fun | 1 => 3 | n => n⟩
theorem Tryz.laysM219 : Go.Proofs.LaysM.n219 Tryz.prog Tryz.laysM219_ren := {
  mixed := by kernel_rfl
  f217 := Tryz.func250.trans (congrArg some (by kernel_rfl))
  f219 := Tryz.func214.trans (congrArg some (by kernel_rfl))
  f224 := Tryz.func252.trans (congrArg some (by kernel_rfl))
  f225 := Tryz.func251.trans (congrArg some (by kernel_rfl))
  f266 := Tryz.func269.trans (congrArg some (by kernel_rfl))
  f267 := Tryz.func253.trans (congrArg some (by kernel_rfl))
  f314 := Tryz.func270.trans (congrArg some (by kernel_rfl))
  t3 := Tryz.underlying3
  a3 := Tryz.isAgg3
  z3 := Tryz.sizeOf3
  v3 := Tryz.zeroValue3
  t4 := Tryz.underlying4
  a4 := Tryz.isAgg4
  z4 := Tryz.sizeOf4
  v4 := Tryz.zeroValue4
  t5 := Tryz.underlying5
  a5 := Tryz.isAgg5
  z5 := Tryz.sizeOf5
  v5 := Tryz.zeroValue5
  t9 := Tryz.underlying9
  a9 := Tryz.isAgg9
  z9 := Tryz.sizeOf9
  v9 := Tryz.zeroValue9
  t46 := Tryz.underlying137
  a46 := Tryz.isAgg137
  z46 := Tryz.sizeOf137
  v46 := Tryz.zeroValue137
  t51 := Tryz.underlying270
  a51 := Tryz.isAgg270
  z51 := Tryz.sizeOf270
  v51 := Tryz.zeroValue270
  t146 := Tryz.underlying271
  a146 := Tryz.isAgg271
  z146 := Tryz.sizeOf271
  v146 := Tryz.zeroValue271
  g1 := by kernel_rfl
  i3 := by kernel_rfl
  i4 := by kernel_rfl
  i5 := by kernel_rfl
  i9 := by kernel_rfl
  i46 := by kernel_rfl
  i51 := by kernel_rfl
  i146 := by kernel_rfl
  m1 := by kernel_rfl
  s1_3 := fun w h => Go.Proofs.cell_of_shapedOpen_int (zero := #[.int .i64 0]) (t := 3) h (of_decide_eq_true (by kernel_rfl)) (by kernel_rfl) rfl (by kernel_rfl) (by kernel_rfl) Tryz.underlying3 }
open Go.RowKit Go.Lib in
theorem Tryz.stringslite_Index_shaped (s sub : ByteArray) (w : World) (h : w.ShapedOpen Tryz.prog) (hs : s.size < 4294967281) :
    Calls Tryz.prog 214 #[.string s, .string sub] w fun e w' => e = .returned (.int .i64 (Lib.index s.data.toList sub.data.toList)) ∧ w' = w := Any.stringslite_Index_shaped Tryz.laysM219 s sub w h hs
def Tryz.laysM220_ren : Go.Shelf.Ren := ⟨fun | 220 => 168 | 219 => 214 | 217 => 250 | 225 => 251 | 224 => 252 | 267 => 253 | 266 => 269 | 314 => 270 | n => n, fun | 9 => 9 | 4 => 4 | 3 => 3 | 5 => 5 | 46 => 137 | 146 => 271 | 51 => 270 | n => n, fun | 1 => 3 | n => n⟩
theorem Tryz.laysM220 : Go.Proofs.LaysM.n220 Tryz.prog Tryz.laysM220_ren := {
  mixed := by kernel_rfl
  f217 := Tryz.func250.trans (congrArg some (by kernel_rfl))
  f219 := Tryz.func214.trans (congrArg some (by kernel_rfl))
  f220 := Tryz.func168.trans (congrArg some (by kernel_rfl))
  f224 := Tryz.func252.trans (congrArg some (by kernel_rfl))
  f225 := Tryz.func251.trans (congrArg some (by kernel_rfl))
  f266 := Tryz.func269.trans (congrArg some (by kernel_rfl))
  f267 := Tryz.func253.trans (congrArg some (by kernel_rfl))
  f314 := Tryz.func270.trans (congrArg some (by kernel_rfl))
  t3 := Tryz.underlying3
  a3 := Tryz.isAgg3
  z3 := Tryz.sizeOf3
  v3 := Tryz.zeroValue3
  t4 := Tryz.underlying4
  a4 := Tryz.isAgg4
  z4 := Tryz.sizeOf4
  v4 := Tryz.zeroValue4
  t5 := Tryz.underlying5
  a5 := Tryz.isAgg5
  z5 := Tryz.sizeOf5
  v5 := Tryz.zeroValue5
  t9 := Tryz.underlying9
  a9 := Tryz.isAgg9
  z9 := Tryz.sizeOf9
  v9 := Tryz.zeroValue9
  t46 := Tryz.underlying137
  a46 := Tryz.isAgg137
  z46 := Tryz.sizeOf137
  v46 := Tryz.zeroValue137
  t51 := Tryz.underlying270
  a51 := Tryz.isAgg270
  z51 := Tryz.sizeOf270
  v51 := Tryz.zeroValue270
  t146 := Tryz.underlying271
  a146 := Tryz.isAgg271
  z146 := Tryz.sizeOf271
  v146 := Tryz.zeroValue271
  g1 := by kernel_rfl
  i3 := by kernel_rfl
  i4 := by kernel_rfl
  i5 := by kernel_rfl
  i9 := by kernel_rfl
  i46 := by kernel_rfl
  i51 := by kernel_rfl
  i146 := by kernel_rfl
  m1 := by kernel_rfl
  s1_3 := fun w h => Go.Proofs.cell_of_shapedOpen_int (zero := #[.int .i64 0]) (t := 3) h (of_decide_eq_true (by kernel_rfl)) (by kernel_rfl) rfl (by kernel_rfl) (by kernel_rfl) Tryz.underlying3 }
open Go.RowKit Go.Lib in
theorem Tryz.stringslite_Cut_shaped (s sep : ByteArray) (w : World) (h : w.ShapedOpen Tryz.prog) (hs : s.size < 4294967281) :
    Calls Tryz.prog 168 #[.string s, .string sep] w fun e w' => e = .returned (.tuple #[.string ⟨(Lib.cut s.data.toList sep.data.toList).1.toArray⟩, .string ⟨(Lib.cut s.data.toList sep.data.toList).2.1.toArray⟩, .bool (Lib.cut s.data.toList sep.data.toList).2.2]) ∧ ∃ n, w' = w.drewN n := Any.stringslite_Cut_shaped Tryz.laysM220 s sep w h hs
def Tryz.laysM145_ren : Go.Shelf.Ren := ⟨fun | 145 => 108 | 220 => 168 | 219 => 214 | 217 => 250 | 225 => 251 | 224 => 252 | 267 => 253 | 266 => 269 | 314 => 270 | n => n, fun | 9 => 9 | 4 => 4 | 59 => 146 | 3 => 3 | 5 => 5 | 46 => 137 | 146 => 271 | 51 => 270 | n => n, fun | 1 => 3 | n => n⟩
theorem Tryz.laysM145 : Go.Proofs.LaysM.n145 Tryz.prog Tryz.laysM145_ren := {
  mixed := by kernel_rfl
  f145 := Tryz.func108.trans (congrArg some (by kernel_rfl))
  f217 := Tryz.func250.trans (congrArg some (by kernel_rfl))
  f219 := Tryz.func214.trans (congrArg some (by kernel_rfl))
  f220 := Tryz.func168.trans (congrArg some (by kernel_rfl))
  f224 := Tryz.func252.trans (congrArg some (by kernel_rfl))
  f225 := Tryz.func251.trans (congrArg some (by kernel_rfl))
  f266 := Tryz.func269.trans (congrArg some (by kernel_rfl))
  f267 := Tryz.func253.trans (congrArg some (by kernel_rfl))
  f314 := Tryz.func270.trans (congrArg some (by kernel_rfl))
  t3 := Tryz.underlying3
  a3 := Tryz.isAgg3
  z3 := Tryz.sizeOf3
  v3 := Tryz.zeroValue3
  t4 := Tryz.underlying4
  a4 := Tryz.isAgg4
  z4 := Tryz.sizeOf4
  v4 := Tryz.zeroValue4
  t5 := Tryz.underlying5
  a5 := Tryz.isAgg5
  z5 := Tryz.sizeOf5
  v5 := Tryz.zeroValue5
  t9 := Tryz.underlying9
  a9 := Tryz.isAgg9
  z9 := Tryz.sizeOf9
  v9 := Tryz.zeroValue9
  t46 := Tryz.underlying137
  a46 := Tryz.isAgg137
  z46 := Tryz.sizeOf137
  v46 := Tryz.zeroValue137
  t51 := Tryz.underlying270
  a51 := Tryz.isAgg270
  z51 := Tryz.sizeOf270
  v51 := Tryz.zeroValue270
  t59 := Tryz.underlying146
  a59 := Tryz.isAgg146
  z59 := Tryz.sizeOf146
  v59 := Tryz.zeroValue146
  t146 := Tryz.underlying271
  a146 := Tryz.isAgg271
  z146 := Tryz.sizeOf271
  v146 := Tryz.zeroValue271
  g1 := by kernel_rfl
  i3 := by kernel_rfl
  i4 := by kernel_rfl
  i5 := by kernel_rfl
  i9 := by kernel_rfl
  i46 := by kernel_rfl
  i51 := by kernel_rfl
  i59 := by kernel_rfl
  i146 := by kernel_rfl
  m1 := by kernel_rfl
  s1_3 := fun w h => Go.Proofs.cell_of_shapedOpen_int (zero := #[.int .i64 0]) (t := 3) h (of_decide_eq_true (by kernel_rfl)) (by kernel_rfl) rfl (by kernel_rfl) (by kernel_rfl) Tryz.underlying3 }
open Go.RowKit Go.Lib in
theorem Tryz.strings_Cut_shaped (s sep : ByteArray) (w : World) (h : w.ShapedOpen Tryz.prog) (hs : s.size < 4294967281) :
    Calls Tryz.prog 108 #[.string s, .string sep] w fun e w' => e = .returned (.tuple #[.string ⟨(Lib.cut s.data.toList sep.data.toList).1.toArray⟩, .string ⟨(Lib.cut s.data.toList sep.data.toList).2.1.toArray⟩, .bool (Lib.cut s.data.toList sep.data.toList).2.2]) ∧ ∃ n, w' = w.drewN n := Any.strings_Cut_shaped Tryz.laysM145 s sep w h hs
def Tryz.lays197_ren : Go.Shelf.Ren := ⟨fun | 197 => 216 | 260 => 254 | n => n, fun | 9 => 9 | 21 => 21 | 3 => 3 | 4 => 4 | 5 => 5 | 105 => 240 | 119 => 307 | 0 => 0 | 46 => 137 | 139 => 310 | 138 => 309 | n => n, fun | 3 => 7 | 4 => 8 | n => n⟩
theorem Tryz.lays197 : Go.Proofs.Lays.n197 Tryz.prog Tryz.lays197_ren := {
  mixed := by kernel_rfl
  f197 := Tryz.func216.trans (congrArg some (by kernel_rfl))
  f260 := Tryz.func254.trans (congrArg some (by kernel_rfl))
  t0 := Tryz.underlying0
  a0 := Tryz.isAgg0
  z0 := Tryz.sizeOf0
  v0 := Tryz.zeroValue0
  t3 := Tryz.underlying3
  a3 := Tryz.isAgg3
  z3 := Tryz.sizeOf3
  v3 := Tryz.zeroValue3
  t4 := Tryz.underlying4
  a4 := Tryz.isAgg4
  z4 := Tryz.sizeOf4
  v4 := Tryz.zeroValue4
  t5 := Tryz.underlying5
  a5 := Tryz.isAgg5
  z5 := Tryz.sizeOf5
  v5 := Tryz.zeroValue5
  t9 := Tryz.underlying9
  a9 := Tryz.isAgg9
  z9 := Tryz.sizeOf9
  v9 := Tryz.zeroValue9
  t21 := Tryz.underlying21
  a21 := Tryz.isAgg21
  z21 := Tryz.sizeOf21
  v21 := Tryz.zeroValue21
  t46 := Tryz.underlying137
  a46 := Tryz.isAgg137
  z46 := Tryz.sizeOf137
  v46 := Tryz.zeroValue137
  t105 := Tryz.underlying240
  a105 := Tryz.isAgg240
  z105 := Tryz.sizeOf240
  v105 := Tryz.zeroValue240
  t119 := Tryz.underlying307
  a119 := Tryz.isAgg307
  z119 := Tryz.sizeOf307
  t138 := Tryz.underlying309
  a138 := Tryz.isAgg309
  z138 := Tryz.sizeOf309
  v138 := Tryz.zeroValue309
  t139 := Tryz.underlying310
  a139 := Tryz.isAgg310
  z139 := Tryz.sizeOf310
  v139 := Tryz.zeroValue310
  g3 := by kernel_rfl
  g4 := by kernel_rfl }
open Go.RowKit Go.Lib in
/-- unicode/utf8.DecodeRuneInString: "DecodeRuneInString is like DecodeRune but its input is a string.": ("DecodeRune unpacks the first UTF-8 encoding in p and returns the rune and its width in bytes."): WHERE s BEGINS WITH AN ASCII BYTE x: (x, 1). (LAID: no walk: one application.) -/
theorem Tryz.utf8_DecodeRuneInString_ascii (s : ByteArray) (x : UInt8) (w : World) (h0 : s.data.toList[0]? = some x) (hx : x.toNat < 128) :
    Calls Tryz.prog 216 #[.string s] w fun e w' => e = .returned (.tuple #[.int .i32 x.toNat, .int .i64 1]) ∧ w' = w := Any.utf8_DecodeRuneInString_ascii Tryz.lays197 s x w h0 hx
def Tryz.lays152_ren : Go.Shelf.Ren := ⟨fun | 152 => 255 | 137 => 271 | 119 => 272 | 224 => 252 | 225 => 251 | 217 => 250 | 266 => 269 | n => n, fun | 9 => 9 | 21 => 21 | 3 => 3 | 4 => 4 | 5 => 5 | 0 => 0 | 46 => 137 | n => n, fun | n => n⟩
theorem Tryz.lays152 : Go.Proofs.Lays.n152 Tryz.prog Tryz.lays152_ren := {
  mixed := by kernel_rfl
  f119 := Tryz.func272.trans (congrArg some (by kernel_rfl))
  f137 := Tryz.func271.trans (congrArg some (by kernel_rfl))
  f152 := Tryz.func255.trans (congrArg some (by kernel_rfl))
  f217 := Tryz.func250.trans (congrArg some (by kernel_rfl))
  f224 := Tryz.func252.trans (congrArg some (by kernel_rfl))
  f225 := Tryz.func251.trans (congrArg some (by kernel_rfl))
  f266 := Tryz.func269.trans (congrArg some (by kernel_rfl))
  t0 := Tryz.underlying0
  a0 := Tryz.isAgg0
  z0 := Tryz.sizeOf0
  v0 := Tryz.zeroValue0
  t3 := Tryz.underlying3
  a3 := Tryz.isAgg3
  z3 := Tryz.sizeOf3
  v3 := Tryz.zeroValue3
  t4 := Tryz.underlying4
  a4 := Tryz.isAgg4
  z4 := Tryz.sizeOf4
  v4 := Tryz.zeroValue4
  t5 := Tryz.underlying5
  a5 := Tryz.isAgg5
  z5 := Tryz.sizeOf5
  v5 := Tryz.zeroValue5
  t9 := Tryz.underlying9
  a9 := Tryz.isAgg9
  z9 := Tryz.sizeOf9
  v9 := Tryz.zeroValue9
  t21 := Tryz.underlying21
  a21 := Tryz.isAgg21
  z21 := Tryz.sizeOf21
  v21 := Tryz.zeroValue21
  t46 := Tryz.underlying137
  a46 := Tryz.isAgg137
  z46 := Tryz.sizeOf137
  v46 := Tryz.zeroValue137 }
open Go.RowKit Go.Lib in
theorem Tryz.strings_IndexRune_ascii (s : ByteArray) (r : Int) (w : World) (h0 : 0 ≤ r) (h1 : r < 128) :
    Calls Tryz.prog 255 #[.string s, .int .i32 r] w fun e w' => e = .returned (.int .i64 (Lib.indexByte s.data.toList r.toNat.toUInt8)) ∧ w' = w := Any.strings_IndexRune_ascii Tryz.lays152 s r w h0 h1
def Tryz.lays151_ren : Go.Shelf.Ren := ⟨fun | 151 => 217 | 152 => 255 | 137 => 271 | 119 => 272 | 224 => 252 | 225 => 251 | 217 => 250 | 266 => 269 | n => n, fun | 9 => 9 | 21 => 21 | 4 => 4 | 3 => 3 | 5 => 5 | 0 => 0 | 46 => 137 | n => n, fun | n => n⟩
theorem Tryz.lays151 : Go.Proofs.Lays.n151 Tryz.prog Tryz.lays151_ren := {
  mixed := by kernel_rfl
  f119 := Tryz.func272.trans (congrArg some (by kernel_rfl))
  f137 := Tryz.func271.trans (congrArg some (by kernel_rfl))
  f151 := Tryz.func217.trans (congrArg some (by kernel_rfl))
  f152 := Tryz.func255.trans (congrArg some (by kernel_rfl))
  f217 := Tryz.func250.trans (congrArg some (by kernel_rfl))
  f224 := Tryz.func252.trans (congrArg some (by kernel_rfl))
  f225 := Tryz.func251.trans (congrArg some (by kernel_rfl))
  f266 := Tryz.func269.trans (congrArg some (by kernel_rfl))
  t0 := Tryz.underlying0
  a0 := Tryz.isAgg0
  z0 := Tryz.sizeOf0
  v0 := Tryz.zeroValue0
  t3 := Tryz.underlying3
  a3 := Tryz.isAgg3
  z3 := Tryz.sizeOf3
  v3 := Tryz.zeroValue3
  t4 := Tryz.underlying4
  a4 := Tryz.isAgg4
  z4 := Tryz.sizeOf4
  v4 := Tryz.zeroValue4
  t5 := Tryz.underlying5
  a5 := Tryz.isAgg5
  z5 := Tryz.sizeOf5
  v5 := Tryz.zeroValue5
  t9 := Tryz.underlying9
  a9 := Tryz.isAgg9
  z9 := Tryz.sizeOf9
  v9 := Tryz.zeroValue9
  t21 := Tryz.underlying21
  a21 := Tryz.isAgg21
  z21 := Tryz.sizeOf21
  v21 := Tryz.zeroValue21
  t46 := Tryz.underlying137
  a46 := Tryz.isAgg137
  z46 := Tryz.sizeOf137
  v46 := Tryz.zeroValue137 }
open Go.RowKit Go.Lib in
theorem Tryz.strings_ContainsRune_ascii (s : ByteArray) (r : Int) (w : World) (h0 : 0 ≤ r) (h1 : r < 128) :
    Calls Tryz.prog 217 #[.string s, .int .i32 r] w fun e w' => e = .returned (.bool (decide (0 ≤ Lib.indexByte s.data.toList r.toNat.toUInt8))) ∧ w' = w := Any.strings_ContainsRune_ascii Tryz.lays151 s r w h0 h1
def Tryz.lays227_ren : Go.Shelf.Ren := ⟨fun | 227 => 171 | n => n, fun | 9 => 9 | 116 => 203 | 4 => 4 | 0 => 0 | 3 => 3 | 5 => 5 | n => n, fun | n => n⟩
theorem Tryz.lays227 : Go.Proofs.Lays.n227 Tryz.prog Tryz.lays227_ren := {
  mixed := by kernel_rfl
  f227 := Tryz.func171.trans (congrArg some (by kernel_rfl))
  t0 := Tryz.underlying0
  a0 := Tryz.isAgg0
  z0 := Tryz.sizeOf0
  v0 := Tryz.zeroValue0
  t3 := Tryz.underlying3
  a3 := Tryz.isAgg3
  z3 := Tryz.sizeOf3
  v3 := Tryz.zeroValue3
  t4 := Tryz.underlying4
  a4 := Tryz.isAgg4
  z4 := Tryz.sizeOf4
  v4 := Tryz.zeroValue4
  t5 := Tryz.underlying5
  a5 := Tryz.isAgg5
  z5 := Tryz.sizeOf5
  v5 := Tryz.zeroValue5
  t9 := Tryz.underlying9
  a9 := Tryz.isAgg9
  z9 := Tryz.sizeOf9
  v9 := Tryz.zeroValue9
  t116 := Tryz.underlying203
  a116 := Tryz.isAgg203
  z116 := Tryz.sizeOf203 }
open Go.RowKit Go.Lib in
theorem Tryz.strings_makeASCIISet (hv116 : ∀ w, (zeroValue 203).run Tryz.prog w = .ok (.agg (Array.replicate 256 (.bool false))) w) (chars : ByteArray) (w : World) (hs : chars.size < 4294967281) (hascii : ∀ (j : Nat) b, chars.data.toList[j]? = some b → b.toNat < 128) :
    Calls Tryz.prog 171 #[.string chars] w fun e w' => e = .returned (.tuple #[.agg (Lib.setCells chars.data.toList), .bool true]) ∧ w' = w.alloc (.cells (Lib.setCells chars.data.toList) 203) := Any.strings_makeASCIISet Tryz.lays227 hv116 (by kernel_rfl) chars w hs hascii
def Tryz.lays228_ren : Go.Shelf.Ren := ⟨fun | 228 => 215 | n => n, fun | 124 => 207 | 5 => 5 | 4 => 4 | 0 => 0 | 116 => 203 | n => n, fun | n => n⟩
theorem Tryz.lays228 : Go.Proofs.Lays.n228 Tryz.prog Tryz.lays228_ren := {
  mixed := by kernel_rfl
  f228 := Tryz.func215.trans (congrArg some (by kernel_rfl))
  t0 := Tryz.underlying0
  a0 := Tryz.isAgg0
  z0 := Tryz.sizeOf0
  v0 := Tryz.zeroValue0
  t4 := Tryz.underlying4
  a4 := Tryz.isAgg4
  z4 := Tryz.sizeOf4
  v4 := Tryz.zeroValue4
  t5 := Tryz.underlying5
  a5 := Tryz.isAgg5
  z5 := Tryz.sizeOf5
  v5 := Tryz.zeroValue5
  t116 := Tryz.underlying203
  a116 := Tryz.isAgg203
  z116 := Tryz.sizeOf203
  t124 := Tryz.underlying207
  a124 := Tryz.isAgg207
  z124 := Tryz.sizeOf207
  v124 := Tryz.zeroValue207 }
open Go.RowKit Go.Lib in
/-- '(as *asciiSet) contains(c)': 'as[c]': the set lies at block b, whole. (LAID: no walk: one application.) -/
theorem Tryz.asciiSet_contains (b : Nat) (x : UInt8) (v : Bool) (w : World) (hc : w.cell? ⟨b, x.toNat, none⟩ = some (.bool v)) :
    Calls Tryz.prog 215 #[.pointer (some ⟨b, 0, none⟩), .int .u8 x.toNat] w fun e w' => e = .returned (.bool v) ∧ w' = w := Any.asciiSet_contains Tryz.lays228 b x v w hc
def Tryz.lays264_ren : Go.Shelf.Ren := ⟨fun | 264 => 157 | n => n, fun | 53 => 57 | 46 => 137 | n => n, fun | n => n⟩
theorem Tryz.lays264 : Go.Proofs.Lays.n264 Tryz.prog Tryz.lays264_ren := {
  mixed := by kernel_rfl
  f264 := Tryz.func157.trans (congrArg some (by kernel_rfl))
  t46 := Tryz.underlying137
  a46 := Tryz.isAgg137
  z46 := Tryz.sizeOf137
  v46 := Tryz.zeroValue137
  t53 := Tryz.underlying57
  a53 := Tryz.isAgg57
  z53 := Tryz.sizeOf57
  v53 := Tryz.zeroValue57 }
open Go.RowKit Go.Lib in
theorem Tryz.bits_Mul64 (x y : Nat) (hx : x < 18446744073709551616) (hy : y < 18446744073709551616) (w : World) :
    Calls Tryz.prog 157 #[.int .u64 x, .int .u64 y] w fun e w' => e = .returned (.tuple #[.int .u64 ((x * y / 18446744073709551616 : Nat) : Int), .int .u64 ((x * y % 18446744073709551616 : Nat) : Int)]) ∧ w' = w := Any.bits_Mul64 Tryz.lays264 x y hx hy w
def Tryz.lays212_ren : Go.Shelf.Ren := ⟨fun | 212 => 206 | 263 => 244 | 264 => 157 | n => n, fun | 46 => 137 | 51 => 270 | 146 => 271 | 53 => 57 | 148 => 188 | n => n, fun | n => n⟩
theorem Tryz.lays212 : Go.Proofs.Lays.n212 Tryz.prog Tryz.lays212_ren := {
  mixed := by kernel_rfl
  f212 := Tryz.func206.trans (congrArg some (by kernel_rfl))
  f263 := Tryz.func244.trans (congrArg some (by kernel_rfl))
  f264 := Tryz.func157.trans (congrArg some (by kernel_rfl))
  t46 := Tryz.underlying137
  a46 := Tryz.isAgg137
  z46 := Tryz.sizeOf137
  v46 := Tryz.zeroValue137
  t51 := Tryz.underlying270
  a51 := Tryz.isAgg270
  z51 := Tryz.sizeOf270
  v51 := Tryz.zeroValue270
  t53 := Tryz.underlying57
  a53 := Tryz.isAgg57
  z53 := Tryz.sizeOf57
  v53 := Tryz.zeroValue57
  t146 := Tryz.underlying271
  a146 := Tryz.isAgg271
  z146 := Tryz.sizeOf271
  v146 := Tryz.zeroValue271
  t148 := Tryz.underlying188
  a148 := Tryz.isAgg188
  z148 := Tryz.sizeOf188
  v148 := Tryz.zeroValue188 }
open Go.RowKit Go.Lib in
/-- math/bits.Mul: "Mul returns the full-width product of x and y": on a machine of 64 bits: Mul64's. (LAID: no walk: one application.) -/
theorem Tryz.bits_Mul (x y : Nat) (hx : x < 18446744073709551616) (hy : y < 18446744073709551616) (w : World) :
    Calls Tryz.prog 206 #[.int .u64 x, .int .u64 y] w fun e w' => e = .returned (.tuple #[.int .u64 ((x * y / 18446744073709551616 : Nat) : Int), .int .u64 ((x * y % 18446744073709551616 : Nat) : Int)]) ∧ w' = w := Any.bits_Mul Tryz.lays212 x y hx hy w
def Tryz.lays260_ren : Go.Shelf.Ren := ⟨fun | 260 => 254 | n => n, fun | 9 => 9 | 21 => 21 | 3 => 3 | 4 => 4 | 5 => 5 | 119 => 307 | 0 => 0 | 46 => 137 | 139 => 310 | 138 => 309 | n => n, fun | 3 => 7 | 4 => 8 | n => n⟩
theorem Tryz.lays260 : Go.Proofs.Lays.n260 Tryz.prog Tryz.lays260_ren := {
  mixed := by kernel_rfl
  f260 := Tryz.func254.trans (congrArg some (by kernel_rfl))
  t0 := Tryz.underlying0
  a0 := Tryz.isAgg0
  z0 := Tryz.sizeOf0
  v0 := Tryz.zeroValue0
  t3 := Tryz.underlying3
  a3 := Tryz.isAgg3
  z3 := Tryz.sizeOf3
  v3 := Tryz.zeroValue3
  t4 := Tryz.underlying4
  a4 := Tryz.isAgg4
  z4 := Tryz.sizeOf4
  v4 := Tryz.zeroValue4
  t5 := Tryz.underlying5
  a5 := Tryz.isAgg5
  z5 := Tryz.sizeOf5
  v5 := Tryz.zeroValue5
  t9 := Tryz.underlying9
  a9 := Tryz.isAgg9
  z9 := Tryz.sizeOf9
  v9 := Tryz.zeroValue9
  t21 := Tryz.underlying21
  a21 := Tryz.isAgg21
  z21 := Tryz.sizeOf21
  v21 := Tryz.zeroValue21
  t46 := Tryz.underlying137
  a46 := Tryz.isAgg137
  z46 := Tryz.sizeOf137
  v46 := Tryz.zeroValue137
  t119 := Tryz.underlying307
  a119 := Tryz.isAgg307
  z119 := Tryz.sizeOf307
  t138 := Tryz.underlying309
  a138 := Tryz.isAgg309
  z138 := Tryz.sizeOf309
  v138 := Tryz.zeroValue309
  t139 := Tryz.underlying310
  a139 := Tryz.isAgg310
  z139 := Tryz.sizeOf310
  v139 := Tryz.zeroValue310
  g3 := by kernel_rfl
  g4 := by kernel_rfl }
open Go.RowKit Go.Lib in
theorem Tryz.utf8_decodeRuneInStringSlow (s : ByteArray) (w : World) (hT : Lib.Utf8Tabs 7 8 w) :
    Calls Tryz.prog 254 #[.string s] w fun e w' => e = .returned (.tuple #[.int .i32 (Lib.decodeGo s).1, .int .i64 (Lib.decodeGo s).2]) ∧ Below w.heap.size w w' := Any.utf8_decodeRuneInStringSlow Tryz.lays260 s w hT
open Go.RowKit Go.Lib in
/-- **unicode/utf8.DecodeRuneInString AT EVERY STRING.** (LAID: no walk: one application.) -/
theorem Tryz.utf8_DecodeRuneInString (s : ByteArray) (w : World) (hT : Lib.Utf8Tabs 7 8 w) :
    Calls Tryz.prog 216 #[.string s] w fun e w' => e = .returned (.tuple #[.int .i32 (Lib.decodeGo s).1, .int .i64 (Lib.decodeGo s).2]) ∧ Below w.heap.size w w' := Any.utf8_DecodeRuneInString Tryz.lays197 s w hT
def Tryz.lays271_ren : Go.Shelf.Ren := ⟨fun | 271 => 218 | 120 => 256 | 197 => 216 | 260 => 254 | n => n, fun | 9 => 9 | 21 => 21 | 3 => 3 | 4 => 4 | 5 => 5 | 105 => 240 | 119 => 307 | 0 => 0 | 46 => 137 | 139 => 310 | 138 => 309 | n => n, fun | 3 => 7 | 4 => 8 | n => n⟩
theorem Tryz.lays271 : Go.Proofs.Lays.n271 Tryz.prog Tryz.lays271_ren := {
  mixed := by kernel_rfl
  f120 := Tryz.func256.trans (congrArg some (by kernel_rfl))
  f197 := Tryz.func216.trans (congrArg some (by kernel_rfl))
  f260 := Tryz.func254.trans (congrArg some (by kernel_rfl))
  f271 := Tryz.func218.trans (congrArg some (by kernel_rfl))
  t0 := Tryz.underlying0
  a0 := Tryz.isAgg0
  z0 := Tryz.sizeOf0
  v0 := Tryz.zeroValue0
  t3 := Tryz.underlying3
  a3 := Tryz.isAgg3
  z3 := Tryz.sizeOf3
  v3 := Tryz.zeroValue3
  t4 := Tryz.underlying4
  a4 := Tryz.isAgg4
  z4 := Tryz.sizeOf4
  v4 := Tryz.zeroValue4
  t5 := Tryz.underlying5
  a5 := Tryz.isAgg5
  z5 := Tryz.sizeOf5
  v5 := Tryz.zeroValue5
  t9 := Tryz.underlying9
  a9 := Tryz.isAgg9
  z9 := Tryz.sizeOf9
  v9 := Tryz.zeroValue9
  t21 := Tryz.underlying21
  a21 := Tryz.isAgg21
  z21 := Tryz.sizeOf21
  v21 := Tryz.zeroValue21
  t46 := Tryz.underlying137
  a46 := Tryz.isAgg137
  z46 := Tryz.sizeOf137
  v46 := Tryz.zeroValue137
  t105 := Tryz.underlying240
  a105 := Tryz.isAgg240
  z105 := Tryz.sizeOf240
  v105 := Tryz.zeroValue240
  t119 := Tryz.underlying307
  a119 := Tryz.isAgg307
  z119 := Tryz.sizeOf307
  t138 := Tryz.underlying309
  a138 := Tryz.isAgg309
  z138 := Tryz.sizeOf309
  v138 := Tryz.zeroValue309
  t139 := Tryz.underlying310
  a139 := Tryz.isAgg310
  z139 := Tryz.sizeOf310
  v139 := Tryz.zeroValue310
  g3 := by kernel_rfl
  g4 := by kernel_rfl }
open Go.RowKit Go.Lib in
/-- **unicode/utf8.DecodeLastRuneInString AT EVERY STRING.** (LAID: no walk: one application.) -/
theorem Tryz.utf8_DecodeLastRuneInString (s : ByteArray) (w : World) (hs : s.size ≤ 9223372036854775807) (hT : Lib.Utf8Tabs 7 8 w) :
    Calls Tryz.prog 218 #[.string s] w fun e w' => e = .returned (.tuple #[.int .i32 (Lib.decodeLastL s.data.toList).1, .int .i64 (Lib.decodeLastL s.data.toList).2]) ∧ Below w.heap.size w w' := Any.utf8_DecodeLastRuneInString Tryz.lays271 s w hs hT
def Tryz.laysNm217_ren : Go.Shelf.Ren := ⟨fun | 17 => 162 | n => n, fun | 24 => 69 | 9 => 9 | 3 => 3 | 4 => 4 | 0 => 0 | n => n, fun | n => n⟩
theorem Tryz.laysNm217 : Go.Proofs.Lays2.n17 Tryz.prog Tryz.laysNm217_ren := {
  mixed := by kernel_rfl
  f17 := Tryz.func162.trans (congrArg some (by kernel_rfl))
  t0 := Tryz.underlying0
  a0 := Tryz.isAgg0
  z0 := Tryz.sizeOf0
  v0 := Tryz.zeroValue0
  t3 := Tryz.underlying3
  a3 := Tryz.isAgg3
  z3 := Tryz.sizeOf3
  v3 := Tryz.zeroValue3
  t4 := Tryz.underlying4
  a4 := Tryz.isAgg4
  z4 := Tryz.sizeOf4
  v4 := Tryz.zeroValue4
  t9 := Tryz.underlying9
  a9 := Tryz.isAgg9
  z9 := Tryz.sizeOf9
  v9 := Tryz.zeroValue9
  t24 := Tryz.underlying69
  a24 := Tryz.isAgg69
  z24 := Tryz.sizeOf69
  v24 := Tryz.zeroValue69 }
open Go.RowKit Go.Lib Go.Sort in
/-- slices.Reverse at []string, over an array: Go's loop from the two ends inward is walked; it makes 'Sort.reverseLoop 0 (len - 1)', which is 'Array.reverse' (Derived/Lib/SlicesMore.lean). (LAID: no walk: one application.) -/
theorem Tryz.slices_Reverse_string_arr (blk off cap : Nat) (d : Array (List UInt8)) (w : World) (hH : Holds encStr w blk off d) (hsz : d.size ≤ 9223372036854775807) :
    Calls Tryz.prog 162 #[.slice (some ⟨blk, off, none⟩) d.size cap] w fun e w' => e = .returned (.tuple #[]) ∧ ∃ n, w' = putRow encStr (Sort.ahead w n) blk off d.reverse := Any.slices_Reverse_string_arr Tryz.laysNm217 blk off cap d w hH hsz
open Go.RowKit Go.Lib Go.Sort in
/-- slices.Reverse at []string: "Reverse reverses the elements of the slice in place.": THE SLICE's CELLS HOLD 'zs.reverse' BEHIND THE CALL; all else is as it was, but for the count of draws (the exchange 's[i], s[j] = s[j], s[i]' draws its order, once a round). IN THE WORDS OF slices.Sort's CONTRACT: 'Holds': the cells hold zs and none is frozen; 'putRow': the world with those cells holding another array. A slice of length 0 that is not nil is among them ('zs = []'); nil: '.._nil'. (LAID: no walk: one application.) -/
theorem Tryz.slices_Reverse_string (blk off cap : Nat) (zs : List (List UInt8)) (w : World) (hH : Holds encStr w blk off zs.toArray) (hsz : zs.length ≤ 9223372036854775807) :
    Calls Tryz.prog 162 #[.slice (some ⟨blk, off, none⟩) zs.length cap] w fun e w' => e = .returned (.tuple #[]) ∧ ∃ n, w' = putRow encStr (Sort.ahead w n) blk off zs.reverse.toArray := Any.slices_Reverse_string Tryz.laysNm217 blk off cap zs w hH hsz
open Go.RowKit Go.Lib Go.Sort in
/-- The same at a slice of length 0, a nil one too: nothing is read, nothing written, nothing drawn. (LAID: no walk: one application.) -/
theorem Tryz.slices_Reverse_string_empty (a : Option Addr) (cap : Nat) (w : World) :
    Calls Tryz.prog 162 #[.slice a 0 cap] w fun e w' => e = .returned (.tuple #[]) ∧ w' = w := Any.slices_Reverse_string_empty Tryz.laysNm217 a cap w
open Go.RowKit Go.Lib Go.Sort in
/-- slices.Reverse at []string, of an argument. (LAID: no walk: one application.) -/
theorem Tryz.slices_Reverse_string_cells (b off n c : Nat) (Sx : Nat → ByteArray) (w : World) (hbig : n ≤ 9223372036854775807) (hc : ∀ i, i < n → w.cell? ⟨b, off + i, none⟩ = some (.string (Sx i))) (hf : ∀ j, j < n → w.frozen? ⟨b, off + j, none⟩ = false) :
    Calls Tryz.prog 162 #[.slice (some ⟨b, off, none⟩) n c] w fun e w' => e = .returned (.tuple #[]) ∧ ∃ q, w' = (w.drewN q).setCells b off ((Lib.strsOf Sx n).reverse.map encStr) := Any.slices_Reverse_string_cells Tryz.laysNm217 b off n c Sx w hbig hc hf
def Tryz.laysSlE041_f159_ren : Go.Shelf.Ren := ⟨fun | 41 => 159 | n => n, fun | 22 => 33 | 23 => 57 | 4 => 4 | n => n, fun | n => n⟩
theorem Tryz.laysSlE041_f159 : Go.Proofs.SlLaysE0.n41 Tryz.prog Tryz.laysSlE041_f159_ren := {
  mixed := by kernel_rfl
  f41 := ⟨Tryz.f159.name, by decide, Tryz.func159.trans (congrArg some (by kernel_rfl))⟩
  t4 := Tryz.underlying4
  a4 := Tryz.isAgg4
  z4 := Tryz.sizeOf4
  v4 := Tryz.zeroValue4
  t22 := Tryz.underlying33
  a22 := Tryz.isAgg33
  z22 := Tryz.sizeOf33
  v22 := Tryz.zeroValue33 }
open Go.RowKit Go.Lib in
/-- slices.Clone: "Clone returns a copy of the slice. The elements are copied using assignment, so this is a shallow clone. The result may have additional unused capacity. The result preserves the nilness of s.": OF A SLICE THAT IS NOT nil IT RETURNS A SLICE THAT IS NOT nil, OF THE SAME CELLS, IN MEMORY OF THE CALL's OWN ('ownsRow': the how-to's 6f); below the heap's size at the call all is as it was. (LAID AT THE INSTANCE 'slices.Clone[[]uint64,uint64]': no walk: one application.) -/
theorem Tryz.slices_Clone (i0 : TypeInfo) (z : Value) (size bytes : Nat) (hi : Tryz.prog.info? 57 = some i0) (hz0 : i0.zero = some z) (hz1 : i0.size = size) (hz2 : i0.bytes = bytes) (hzs : z.cells.size = size) (hsz : 0 < size) (z23 : ∀ w, (Go.sizeOf 57).run Tryz.prog w = .ok size w) (b off n c : Nat) (news : List Value) (w : World) (hl : news.length = n * size) (hn : n ≤ maxLen) (hbig : n * bytes ≤ 140737488355328) (hc : ∀ j u, news[j]? = some u → w.cell? ⟨b, off + j, none⟩ = some u) (h1 : ∀ u ∈ news, u.oneCell' = true) :
    Calls Tryz.prog 159 #[.slice (some ⟨b, off, none⟩) n c] w fun e w' => ∃ v', e = .returned v' ∧ w'.ownsRow w.heap.size 57 size v' n news ∧ v' ≠ .slice none 0 0 ∧ Below w.heap.size w w' := AnyE.slices_Clone Tryz.laysSlE041_f159 i0 z size bytes hi hz0 hz1 hz2 hzs hsz z23 b off n c news w hl hn hbig hc h1
open Go.RowKit Go.Lib in
/-- The same at nil: nil comes back; the world is as it was; nothing is asked of the element's type. (LAID AT THE INSTANCE 'slices.Clone[[]uint64,uint64]': no walk: one application.) -/
theorem Tryz.slices_Clone_nil (n c : Nat) (w : World) :
    Calls Tryz.prog 159 #[.slice none n c] w fun e w' => e = .returned (.slice none 0 0) ∧ w' = w := AnyE.slices_Clone_nil Tryz.laysSlE041_f159 n c w
end Go.Proofs

/- The library's word arithmetic that the program calls: products and quotients of two words. -/
namespace Go.Proofs.YtdlcleecjeipnaaGreatDoor
open Go.RowKit
set_option linter.unusedVariables false

/-- math/bits.Mul64. -/
theorem mul64_calls (x y : Int) (hx0 : 0 ≤ x) (hx : x < B64) (hy0 : 0 ≤ y) (hy : y < B64) : ∃ hi lo : Int, (0 ≤ hi ∧ hi ≤ B64 - 2 ∧ 0 ≤ lo ∧ lo < B64 ∧ Hid (lo + B64 * hi = x * y)) ∧
    ∀ w, Calls Tryz.prog 157 #[.int .u64 x, .int .u64 y] w fun e w' => e = .returned (.tuple #[.int .u64 hi, .int .u64 lo]) ∧ w = w' := by
  obtain ⟨x, rfl⟩ := Int.eq_ofNat_of_zero_le hx0
  obtain ⟨y, rfl⟩ := Int.eq_ofNat_of_zero_le hy0
  have hxy : x * y ≤ 18446744073709551615 * 18446744073709551615 := Nat.mul_le_mul (by unfold B64 at hx; omega) (by unfold B64 at hy; omega)
  refine ⟨_, _, ⟨?_, ?_, ?_, ?_, ?_⟩, fun w => (Tryz.bits_Mul64 x y (by unfold B64 at hx; omega) (by unfold B64 at hy; omega) w).mono fun e w' h => ⟨h.1, h.2.symm⟩⟩
  · omega
  · unfold B64; omega
  · omega
  · unfold B64; omega
  · apply Lib.hid
    unfold B64
    rw [← Int.natCast_mul]
    omega

end Go.Proofs.YtdlcleecjeipnaaGreatDoor

/- math/bits.LeadingZeros64, Div64: the calls. -/
namespace Go.Proofs.YtdlcleecjeipnaaGreatDoor
open Go.RowKit Limbs
set_option linter.unusedVariables false

/-- The names of the words that Div64 works with. -/
theorem div_pre {hi lo y : Int} {s : Nat} (h0 : 0 < hi) (h1 : hi < y) (l0 : 0 ≤ lo) (l1 : lo < B64) (hs : s ≤ 63) (hn1 : B64 ≤ 2 * (y * 2 ^ s)) (hn2 : y * 2 ^ s < B64) :
    ∃ Y t s0 u1 L ua ub : Int, IntKind.u64.wrap (y * 2 ^ s) = Y ∧ Y / 4294967296 = t ∧ bits .and .u64 Y 4294967295 = s0 ∧ bits .or .u64 (IntKind.u64.wrap (hi * 2 ^ s)) (lo / 2 ^ (64 - s)) = u1 ∧
      IntKind.u64.wrap (lo * 2 ^ s) = L ∧ L / 4294967296 = ua ∧ bits .and .u64 L 4294967295 = ub ∧
      DivIn u1 ua t s0 ∧ 0 ≤ ub ∧ ub < B32 ∧ Y = t * B32 + s0 ∧ Y = y * 2 ^ s ∧ (u1 * B32 + ua) * B32 + ub = (hi * B64 + lo) * 2 ^ s := by
  have p0 : (0 : Int) < 2 ^ s := pow_pos (by decide) s
  have hi2 : hi * 2 ^ s < y * 2 ^ s := Int.mul_lt_mul_of_pos_right h1 p0
  have hi3 : 0 ≤ hi * 2 ^ s := Int.mul_nonneg (by omega) (Int.le_of_lt p0)
  have eY : IntKind.u64.wrap (y * 2 ^ s) = y * 2 ^ s := wrap_in (by omega) hn2
  have eH : IntKind.u64.wrap (hi * 2 ^ s) = hi * 2 ^ s := wrap_in hi3 (by omega)
  have pp : (2 : Int) ^ s * 2 ^ (64 - s) = B64 := by
    rw [← Int.pow_add, show s + (64 - s) = 64 from by omega]; rfl
  have q0 : (0 : Int) < 2 ^ (64 - s) := pow_pos (by decide) _
  -- lo = top * 2^(64-s) + rest
  have hlo := Int.mul_ediv_add_emod lo (2 ^ (64 - s))
  have hrest0 := Int.emod_nonneg lo (show (2 : Int) ^ (64 - s) ≠ 0 by omega)
  have hrest1 := Int.emod_lt_of_pos lo q0
  have top0 : 0 ≤ lo / 2 ^ (64 - s) := Int.ediv_nonneg l0 (Int.le_of_lt q0)
  have top1 : lo / 2 ^ (64 - s) < 2 ^ s := by
    apply Int.ediv_lt_of_lt_mul q0
    rw [pp]; exact l1
  generalize htop : lo / 2 ^ (64 - s) = top at *
  generalize hrs : lo % 2 ^ (64 - s) = rest at *
  have eL : IntKind.u64.wrap (lo * 2 ^ s) = rest * 2 ^ s := by
    refine wrap_eq top (Int.mul_nonneg hrest0 (Int.le_of_lt p0)) ?_ ?_
    · have := Int.mul_lt_mul_of_pos_right hrest1 p0
      rw [Int.mul_comm (2 ^ (64 - s)), pp] at this; exact this
    · rw [← hlo, ← pp]; grind
  have hL0 : 0 ≤ rest * 2 ^ s := Int.mul_nonneg hrest0 (Int.le_of_lt p0)
  have hL1 : rest * 2 ^ s < B64 := by
    have := Int.mul_lt_mul_of_pos_right hrest1 p0
    rw [Int.mul_comm (2 ^ (64 - s)), pp] at this; exact this
  have eO : bits .or .u64 (hi * 2 ^ s) top = hi * 2 ^ s + top := or_add hs (by omega) (by omega) top0 top1
  have eN : (hi * 2 ^ s + top) * B64 + rest * 2 ^ s = (hi * B64 + lo) * 2 ^ s := by
    rw [← hlo, ← pp]; grind
  have hu1 : hi * 2 ^ s + top < y * 2 ^ s := by
    have h3 : (hi + 1) * 2 ^ s ≤ y * 2 ^ s := Int.mul_le_mul_of_nonneg_right (by omega) (Int.le_of_lt p0)
    have e : (hi + 1) * 2 ^ s = hi * 2 ^ s + 2 ^ s := by grind
    omega
  generalize hYv : y * 2 ^ s = Y at *
  generalize hLv : rest * 2 ^ s = L at *
  generalize hUv : hi * 2 ^ s + top = u at *
  unfold B64 at hn1 hn2 hL1 eN
  refine ⟨Y, Y / 4294967296, Y % 4294967296, u, L, L / 4294967296, L % 4294967296, by rw [eY], rfl, and_low32 _ (by omega) (by omega), by rw [eH]; exact eO, eL, rfl, and_low32 _ hL0 hL1, ⟨?_, ?_, ?_, ?_, ?_, ?_, ?_, ?_⟩, ?_, ?_, ?_, rfl, ?_⟩ <;> unfold B32 B64 at * <;> omega

theorem lz64 (x : Int) (hx0 : 0 < x) (hx : x < B64) : ∃ s : Nat, (s ≤ 63 ∧ B64 ≤ 2 * (x * 2 ^ s) ∧ x * 2 ^ s < B64) ∧ ∀ w, Calls Tryz.prog 195 #[.int .u64 x] w fun e w' => e = .returned (.int .i64 s) ∧ w = w' := by
  obtain ⟨x, rfl⟩ := Int.eq_ofNat_of_zero_le (Int.le_of_lt hx0)
  have hx' : x < 2 ^ 64 := by unfold B64 at hx; omega
  obtain ⟨b1, b2, b3⟩ := Lib.bitLenAux_bounds 64 x hx' (by omega)
  have hb : Lib.bitLen x = Lib.bitLenAux 64 x := rfl
  have b4 : Lib.bitLenAux 64 x ≤ 64 := by
    rcases Nat.lt_or_ge 64 (Lib.bitLenAux 64 x) with h | h
    · have h2 : 2 ^ 64 ≤ 2 ^ (Lib.bitLenAux 64 x - 1) := Nat.pow_le_pow_right (by decide) (by omega)
      omega
    · exact h
  generalize Lib.bitLenAux 64 x = L at *
  refine ⟨64 - L, ⟨by omega, ?_, ?_⟩, fun w => ?_⟩
  · have h2 : 2 ^ (L - 1) * 2 ^ (64 - L) ≤ x * 2 ^ (64 - L) := Nat.mul_le_mul_right _ b2
    rw [← Nat.pow_add, show L - 1 + (64 - L) = 63 from by omega] at h2
    have e : ((x : Int) * 2 ^ (64 - L)) = ((x * 2 ^ (64 - L) : Nat) : Int) := by rw [Int.natCast_mul, Int.natCast_pow]; rfl
    rw [e]; unfold B64; omega
  · have h2 : x * 2 ^ (64 - L) < 2 ^ L * 2 ^ (64 - L) := Nat.mul_lt_mul_of_pos_right b3 (Nat.pow_pos (by decide))
    rw [← Nat.pow_add, show L + (64 - L) = 64 from by omega] at h2
    have e : ((x : Int) * 2 ^ (64 - L)) = ((x * 2 ^ (64 - L) : Nat) : Int) := by rw [Int.natCast_mul, Int.natCast_pow]; rfl
    rw [e]; unfold B64; omega
  · refine (Tryz.bits_LeadingZeros64 x w (by omega) (by omega)).mono ?_
    rintro e w' ⟨rfl, rfl⟩
    refine ⟨?_, rfl⟩
    rw [Int.toNat_natCast, hb]
    congr 2
    omega

/-- What a correction of a half-digit reckons. -/
theorem div_test {u a t s q r : Int} (hi : DivIn u a t s) (h : DivSt u a t s q r) (hq : q < B32) : ∃ m n1 n2 : Int, IntKind.u64.wrap (q * s) = m ∧ IntKind.u64.wrap (4294967296 * r) = n1 ∧ IntKind.u64.wrap (n1 + a) = n2 ∧ m = q * s ∧ n2 = B32 * r + a := by
  have h1 : q * s ≤ (B32 - 1) * (B32 - 1) := Int.mul_le_mul (by omega) (by have := hi.s1; omega) hi.s0 (by unfold B32; omega)
  have h2 := Int.mul_nonneg h.q0 hi.s0
  have := h.r0
  have := h.r1
  have := hi.a0
  have := hi.a1
  unfold B32 at *
  exact ⟨q * s, 4294967296 * r, 4294967296 * r + a, wrap_in h2 (by unfold B64; omega), wrap_in (by omega) (by unfold B64; omega), wrap_in (by omega) (by unfold B64; omega), rfl, rfl⟩

theorem DivSt.q_lt {u a t s q r : Int} (h : DivSt u a t s q r) (hi : DivIn u a t s) : q < B64 := by
  have h1 : q * 1 ≤ q * t := Int.mul_le_mul_of_nonneg_left (by have := hi.tpos; omega) h.q0
  have h2 := h.eqn
  have h3 := h.r0
  have h4 := hi.ul
  have h5 : t * B32 + s < B64 := by
    have := hi.t1
    have := hi.s1
    unfold B32 B64 at *
    omega
  omega

theorem div_start {u a t s : Int} (hD : DivIn u a t s) : ∃ q0 m0 r0 : Int, IntKind.u64.wrap (u.tdiv t) = q0 ∧ IntKind.u64.wrap (q0 * t) = m0 ∧ IntKind.u64.wrap (u - m0) = r0 ∧ DivSt u a t s q0 r0 := by
  have hS := hD.start
  have hq := hS.q_lt hD
  have ht := hD.tpos
  have hul : u < B64 := by
    have h1 := hD.ul
    have h2 := hD.t1
    have h3 := hD.s1
    unfold B32 B64 at *
    omega
  have hqt : u / t * t ≤ u := Int.ediv_mul_le _ (by omega)
  have e1 : IntKind.u64.wrap (u / t * t) = u / t * t := wrap_in (Int.mul_nonneg hS.q0 (by omega)) (by omega)
  have e2 : IntKind.u64.wrap (u - u / t * t) = u - u / t * t := wrap_in hS.r0 (by have := hS.r1; unfold B32 at this; unfold B64; omega)
  exact ⟨u / t, u / t * t, u - u / t * t, by rw [Int.tdiv_eq_ediv_of_nonneg hD.u0]; exact wrap_in hS.q0 hq, e1, e2, hS⟩

theorem DivIn.y_lt {u a t s : Int} (h : DivIn u a t s) : t * B32 + s < B64 := by
  have h2 := h.t1
  have h3 := h.s1
  unfold B32 B64 at *
  omega

/-- What is left behind the first half-digit. -/
theorem div_mid {u a b t s q Y : Int} (hD : DivIn u a t s) (hO : DivOut u a t s q) (hY : Y = t * B32 + s) (hb0 : 0 ≤ b) (hb1 : b < B32) :
    ∃ v1 v2 v3 R : Int, IntKind.u64.wrap (u * 4294967296) = v1 ∧ IntKind.u64.wrap (v1 + a) = v2 ∧ IntKind.u64.wrap (q * Y) = v3 ∧ IntKind.u64.wrap (v2 - v3) = R ∧ R = u * B32 + a - q * Y ∧ DivIn R b t s := by
  obtain ⟨k1, h1⟩ := wrap_back (u * 4294967296)
  obtain ⟨k2, h2⟩ := wrap_back (IntKind.u64.wrap (u * 4294967296) + a)
  obtain ⟨k3, h3⟩ := wrap_back (q * Y)
  have hR : IntKind.u64.wrap (IntKind.u64.wrap (IntKind.u64.wrap (u * 4294967296) + a) - IntKind.u64.wrap (q * Y)) = u * B32 + a - q * Y := by
    refine wrap_eq (k1 + k2 - k3) (by have := hO.r0; rw [← hY] at this; exact this) ?_ ?_
    · have h4 := hO.r1
      have h5 := hD.y_lt
      rw [← hY] at h4 h5
      omega
    · rw [h2, h3, h1]
      have e : B64 * (k1 + k2 - k3) = B64 * k1 + B64 * k2 - B64 * k3 := by grind
      unfold B32
      omega
  refine ⟨_, _, _, _, rfl, rfl, rfl, hR, rfl, ⟨?_, ?_, hb0, hb1, hD.t0, hD.t1, hD.s0, hD.s1⟩⟩
  · have := hO.r0; rw [← hY] at this; exact this
  · have := hO.r1; rw [← hY] at this ⊢; exact this

/-- The two half-digits and what is left, put together. -/
theorem div_end {u a b t s q q2 Y R y N : Int} {sh : Nat} (hD : DivIn u a t s) (hR : DivIn R b t s) (hO : DivOut u a t s q) (hO2 : DivOut R b t s q2) (hY : Y = t * B32 + s) (hYy : Y = y * 2 ^ sh) (hRe : R = u * B32 + a - q * Y)
    (hN : (u * B32 + a) * B32 + b = N * 2 ^ sh) (hy : 0 < y) :
    ∃ f1 F g1 g2 g3 G : Int, IntKind.u64.wrap (q * 4294967296) = f1 ∧ IntKind.u64.wrap (f1 + q2) = F ∧ IntKind.u64.wrap (R * 4294967296) = g1 ∧ IntKind.u64.wrap (g1 + b) = g2 ∧ IntKind.u64.wrap (q2 * Y) = g3 ∧ IntKind.u64.wrap (g2 - g3) = G ∧
      F = N / y ∧ G / 2 ^ sh = N % y := by
  have hq0 := hO.q0
  have hq1 := hO.q1
  have h20 := hO2.q0
  have h21 := hO2.q1
  have r0 := hO2.r0
  have r1 := hO2.r1
  have yl := hD.y_lt
  rw [← hY] at r0 r1 yl
  have e1 : IntKind.u64.wrap (q * 4294967296) = q * B32 := by unfold B32; exact wrap_in (by unfold B32 at *; omega) (by unfold B32 B64 at *; omega)
  have e2 : IntKind.u64.wrap (q * B32 + q2) = q * B32 + q2 := wrap_in (by unfold B32 at *; omega) (by unfold B32 B64 at *; omega)
  obtain ⟨k1, h1⟩ := wrap_back (R * 4294967296)
  obtain ⟨k2, h2⟩ := wrap_back (IntKind.u64.wrap (R * 4294967296) + b)
  obtain ⟨k3, h3⟩ := wrap_back (q2 * Y)
  have hG : IntKind.u64.wrap (IntKind.u64.wrap (IntKind.u64.wrap (R * 4294967296) + b) - IntKind.u64.wrap (q2 * Y)) = R * B32 + b - q2 * Y := by
    refine wrap_eq (k1 + k2 - k3) r0 (by omega) ?_
    rw [h2, h3, h1]
    have e : B64 * (k1 + k2 - k3) = B64 * k1 + B64 * k2 - B64 * k3 := by grind
    unfold B32
    omega
  have p0 : (0 : Int) < 2 ^ sh := pow_pos (by decide) sh
  -- N 2^s = (q B32 + q2) y 2^s + rest
  have key : N * 2 ^ sh = (q * B32 + q2) * Y + (R * B32 + b - q2 * Y) := by rw [← hN, hRe]; grind
  have k4 : R * B32 + b - q2 * Y = (N - (q * B32 + q2) * y) * 2 ^ sh := by
    have : (N - (q * B32 + q2) * y) * 2 ^ sh = N * 2 ^ sh - (q * B32 + q2) * (y * 2 ^ sh) := by grind
    rw [this, ← hYy, key]
    omega
  have m0 : 0 ≤ N - (q * B32 + q2) * y := by
    rcases Int.lt_or_le (N - (q * B32 + q2) * y) 0 with h | h
    · have := Int.mul_neg_of_neg_of_pos h p0; omega
    · exact h
  have m1 : N - (q * B32 + q2) * y < y := by
    apply Knuth.mul_lt_of p0
    rw [← k4, ← hYy]; exact r1
  have hdiv : N / y = q * B32 + q2 := by
    have e : N = (N - (q * B32 + q2) * y) + (q * B32 + q2) * y := by omega
    rw [e, Int.add_mul_ediv_right _ _ (by omega), Int.ediv_eq_zero_of_lt m0 m1]; omega
  refine ⟨q * B32, q * B32 + q2, _, _, _, _, e1, e2, rfl, rfl, rfl, hG, hdiv.symm, ?_⟩
  rw [k4, Int.mul_ediv_cancel _ (by omega)]
  have := Int.mul_ediv_add_emod N y
  rw [hdiv] at this
  have e : y * (q * B32 + q2) = (q * B32 + q2) * y := Int.mul_comm _ _
  omega

set_option maxHeartbeats 4000000 in
theorem div64_big (hi lo y : Int) (h0 : 0 < hi) (h1 : hi < y) (h2 : y < B64) (l0 : 0 ≤ lo) (l1 : lo < B64) (w : World) :
    Calls Tryz.prog 194 #[.int .u64 hi, .int .u64 lo, .int .u64 y] w fun e w' => e = .returned (.tuple #[.int .u64 ((hi * B64 + lo) / y), .int .u64 ((hi * B64 + lo) % y)]) ∧ w = w' := by
  obtain ⟨s, ⟨hs, hn1, hn2⟩, hlz⟩ := lz64 y (by omega) h2
  obtain ⟨Y, t, s0, u1, L, ua, ub, eY, et, es0, eu1, eL, eua, eub, hD, hb0, hb1, hYt, hYy, hN⟩ := div_pre h0 h1 l0 l1 hs hn1 hn2
  obtain ⟨N, hNN⟩ : ∃ N, Hid (hi * B64 + lo = N) := ⟨_, Lib.hid rfl⟩
  rw [hNN.out] at hN ⊢
  have HLz := Lib.hid hlz
  have HN := Lib.hid hN
  have HYt := Lib.hid hYt
  have HYy := Lib.hid hYy
  have HD := Lib.hid hD
  have ht1 := hD.tpos
  have ht2 := hD.t1
  obtain ⟨q0, m0, r0, ew, em, er, hSt⟩ := div_start hD
  clear hlz hN hYt hYy hn1 hn2
  unfold B64 at h2 l1
  go_enter Tryz.func194, Tryz.ntmps194
  go_upto_block 0 with (go_at_call 195; refine (HLz.out _).mono ?_; rintro e w' ⟨rfl, rfl⟩)
  go_cut [15, 16] (fun a b wc => ∃ q r : Int, a = .int .u64 q ∧ b = .int .u64 r ∧ DivOut u1 ua t s0 q ∧ w = wc)
  case first =>
    clear ew em er HN HYt HYy HLz HD
    go_wp2_with fail
    go_loop [15, 16] (fun a b => ∃ q r : Int, a = .int .u64 q ∧ b = .int .u64 r ∧ DivSt u1 ua t s0 q r) (fun a _ => (intOf a).toNat)
    case atStart => exact ⟨_, _, rfl, rfl, hSt⟩
    case round =>
      clear hSt
      obtain ⟨q, r, rfl, rfl, hS⟩ := hrel
      have hr0 := hS.r0
      have hr1 := hS.r1
      have hq0 := hS.q0
      have hq1 := hS.q_lt hD
      unfold B32 at hr1 ht2
      unfold B64 at hq1
      by_cases hbig : B32 ≤ q
      · have hdn := (hS.down hD (.inl hbig)).1
        by_cases hbr : B32 ≤ r + t
        · have hO := hS.leave hD (.inl hbig) hbr
          unfold B32 at hbig hbr
          clear hS hD
          go_wp2
          go_meet
          exact ⟨_, _, rfl, rfl, hO, rfl⟩
        · have hO := hS.next hD (.inl hbig) (by omega)
          unfold B32 at hbig hbr
          clear hS hD
          go_wp2
          go_round
          case rel => exact ⟨_, _, rfl, rfl, hO⟩
          case measure => simp [intOf]; omega
      · obtain ⟨m, n1, n2, em, en1, en2, vm, vn⟩ := div_test hD hS (by omega)
        by_cases hlt : n2 < m
        · have hb' : B32 * r + ua < q * s0 := by omega
          have hdn := (hS.down hD (.inr hb')).1
          by_cases hbr : B32 ≤ r + t
          · have hO := hS.leave hD (.inr hb') hbr
            unfold B32 at hbig hbr
            clear hS hD vm vn hb'
            go_wp2
            go_meet
            exact ⟨_, _, rfl, rfl, hO, rfl⟩
          · have hO := hS.next hD (.inr hb') (by omega)
            unfold B32 at hbig hbr
            clear hS hD vm vn hb'
            go_wp2
            go_round
            case rel => exact ⟨_, _, rfl, rfl, hO⟩
            case measure => simp [intOf]; omega
        · have hO := hS.done hD (by omega)
          unfold B32 at hbig
          clear hS hD vm vn
          go_wp2
          go_meet
          exact ⟨_, _, rfl, rfl, hO, rfl⟩
  case rest =>
    obtain ⟨q, r, rfl, rfl, hO, rfl⟩ := hcut
    clear ew em er hSt
    obtain ⟨v1, v2, v3, R, ev1, ev2, ev3, eR, hRe, hD2⟩ := div_mid hD hO HYt.out hb0 hb1
    have HRe := Lib.hid hRe
    obtain ⟨p0, m0', r0', ew2, em2, er2, hSt2⟩ := div_start hD2
    have HD2 := Lib.hid hD2
    clear hRe hD
    go_upto_block 2 with (fail)
    go_cut [18, 16] (fun a b wc => ∃ q2 r : Int, a = .int .u64 q2 ∧ b = .int .u64 r ∧ DivOut R ub t s0 q2 ∧ w = wc)
    case first =>
      clear ew2 em2 er2 HN HYt HYy HLz HD HD2 HRe ev1 ev2 ev3 eR hO
      go_wp2_with fail
      go_loop [18, 16] (fun a b => ∃ q r : Int, a = .int .u64 q ∧ b = .int .u64 r ∧ DivSt R ub t s0 q r) (fun a _ => (intOf a).toNat)
      case atStart => exact ⟨_, _, rfl, rfl, hSt2⟩
      case round =>
        clear hSt2
        obtain ⟨q, r, rfl, rfl, hS⟩ := hrel
        have hr0 := hS.r0
        have hr1 := hS.r1
        have hq0 := hS.q0
        have hq1 := hS.q_lt hD2
        unfold B32 at hr1 ht2
        unfold B64 at hq1
        by_cases hbig : B32 ≤ q
        · have hdn := (hS.down hD2 (.inl hbig)).1
          by_cases hbr : B32 ≤ r + t
          · have hO := hS.leave hD2 (.inl hbig) hbr
            unfold B32 at hbig hbr
            clear hS hD2
            go_wp2
            go_meet
            exact ⟨_, _, rfl, rfl, hO, rfl⟩
          · have hO := hS.next hD2 (.inl hbig) (by omega)
            unfold B32 at hbig hbr
            clear hS hD2
            go_wp2
            go_round
            case rel => exact ⟨_, _, rfl, rfl, hO⟩
            case measure => simp [intOf]; omega
        · obtain ⟨m, n1, n2, em, en1, en2, vm, vn⟩ := div_test hD2 hS (by omega)
          by_cases hlt : n2 < m
          · have hb' : B32 * r + ub < q * s0 := by omega
            have hdn := (hS.down hD2 (.inr hb')).1
            by_cases hbr : B32 ≤ r + t
            · have hO := hS.leave hD2 (.inr hb') hbr
              unfold B32 at hbig hbr
              clear hS hD2 vm vn hb'
              go_wp2
              go_meet
              exact ⟨_, _, rfl, rfl, hO, rfl⟩
            · have hO := hS.next hD2 (.inr hb') (by omega)
              unfold B32 at hbig hbr
              clear hS hD2 vm vn hb'
              go_wp2
              go_round
              case rel => exact ⟨_, _, rfl, rfl, hO⟩
              case measure => simp [intOf]; omega
          · have hO := hS.done hD2 (by omega)
            unfold B32 at hbig
            clear hS hD2 vm vn
            go_wp2
            go_meet
            exact ⟨_, _, rfl, rfl, hO, rfl⟩

    case rest =>
      obtain ⟨q2, r2, rfl, rfl, hO2, rfl⟩ := hcut
      clear ew2 em2 er2 hSt2 ev1 ev2 ev3 eR
      obtain ⟨f1, F, g1, g2, g3, G, ef1, eF, eg1, eg2, eg3, eG, hF, hG⟩ := div_end HD.out HD2.out hO hO2 HYt.out HYy.out HRe.out HN.out (by omega)
      have HF := Lib.hid hF
      have HG := Lib.hid hG
      clear hF hG hO hO2
      go_wp2
      go_ret2
      exact ⟨by rw [← HF.out, ← HG.out]; rfl, rfl⟩

theorem div64_small (lo y : Int) (h1 : 0 < y) (h2 : y < B64) (l0 : 0 ≤ lo) (l1 : lo < B64) (w : World) :
    Calls Tryz.prog 194 #[.int .u64 0, .int .u64 lo, .int .u64 y] w fun e w' => e = .returned (.tuple #[.int .u64 (lo / y), .int .u64 (lo % y)]) ∧ ∃ k, w' = w.drewN k := by
  unfold B64 at h2 l1
  have hy : (y == 0) = false := beq_eq_false_iff_ne.2 (by omega)
  go_enter Tryz.func194, Tryz.ntmps194
  go_wp2
  go_quiet (fail)
  go_wp2
  go_ret2
  exact ⟨rfl, _, rfl⟩

/-- math/bits.Div64. -/
theorem div64_calls (hi lo y : Int) (h0 : 0 ≤ hi) (h1 : hi < y) (h2 : y < B64) (l0 : 0 ≤ lo) (l1 : lo < B64) : ∃ q r : Int, (0 ≤ q ∧ q < B64 ∧ 0 ≤ r ∧ r < y ∧ Hid (q * y + r = hi * B64 + lo)) ∧
    ∀ w, Calls Tryz.prog 194 #[.int .u64 hi, .int .u64 lo, .int .u64 y] w fun e w' => e = .returned (.tuple #[.int .u64 q, .int .u64 r]) ∧ ∃ k, w' = w.drewN k := by
  have hn : 0 ≤ hi * B64 + lo := by have := Int.mul_nonneg h0 (Int.le_of_lt B64_pos); omega
  have hlt : hi * B64 + lo < B64 * y := by
    have h3 : (hi + 1) * B64 ≤ y * B64 := Int.mul_le_mul_of_nonneg_right (by omega) (Int.le_of_lt B64_pos)
    have e : (hi + 1) * B64 = hi * B64 + B64 := by grind
    have e2 : y * B64 = B64 * y := Int.mul_comm _ _
    omega
  refine ⟨(hi * B64 + lo) / y, (hi * B64 + lo) % y, ⟨Int.ediv_nonneg hn (by omega), Int.ediv_lt_of_lt_mul (by omega) hlt, Int.emod_nonneg _ (by omega), Int.emod_lt_of_pos _ (by omega), Lib.hid ?_⟩, fun w => ?_⟩
  · have := Int.mul_ediv_add_emod (hi * B64 + lo) y
    rw [Int.mul_comm ((hi * B64 + lo) / y)]
    exact this
  · rcases Int.lt_or_le 0 hi with h | h
    · refine (div64_big hi lo y h h1 h2 l0 l1 w).mono ?_
      rintro e w' ⟨rfl, rfl⟩
      exact ⟨rfl, 0, by simp [World.drewN_zero]⟩
    · obtain rfl : hi = 0 := by omega
      rw [Int.zero_mul, Int.zero_add]
      exact div64_small lo y h1 h2 l0 l1 w
end Go.Proofs.YtdlcleecjeipnaaGreatDoor

/- nat.short: limbs divided by one word. -/
namespace Go.Proofs.YtdlcleecjeipnaaGreatDoor
open Go.RowKit Go.Proofs.YtdlcleecjeipnaaGreatDoorW.PrintWords Limbs
set_option linter.unusedVariables false

/-- What holds of the quotient's limbs from the k-th on. -/
structure ShortInv (xs zs : List Int) (d : Int) (k : Nat) (r : Int) : Prop where
  len : zs.length = xs.length
  dig : Dig B64 zs
  r0 : 0 ≤ r
  r1 : r < d
  eqn : Limbs.val B64 (zs.drop k) * d + r = Limbs.val B64 (xs.drop k)

theorem ShortInv.start (xs : List Int) {d : Int} (hd : 0 < d) : ShortInv xs (List.replicate xs.length 0) d xs.length 0 := by
  refine ⟨by simp, Dig.replicate B64_pos _, Int.le_refl _, hd, ?_⟩
  rw [List.drop_length, List.drop_eq_nil_of_le (by simp)]; simp [Limbs.val]

theorem ShortInv.step {xs zs : List Int} {d r q r' : Int} {k : Nat} (h : ShortInv xs zs d (k + 1) r) (hk : k < xs.length) (hq0 : 0 ≤ q) (hq1 : q < B64) (hr0 : 0 ≤ r') (hr1 : r' < d) (he : q * d + r' = r * B64 + xs.getD k 0) :
    ShortInv xs (zs.set k q) d k r' := by
  have hl := h.len
  refine ⟨by simpa using h.len, h.dig.set k hq0 hq1, hr0, hr1, ?_⟩
  rw [val_drop B64 xs k hk, val_drop B64 (zs.set k q) k (by simpa using (by omega : k < zs.length)), Limbs.getD_set_eq _ _ _ (by omega), drop_set_lt _ _ _ _ (by omega), ← h.eqn]
  grind

/-- What short answers. -/
def ShortPost (xs : List Int) (d : Int) (w : World) (e : Ending) (w' : World) : Prop :=
  ∃ (g : Nat) (zs : List Int) (r : Int), e = .returned (.tuple #[.slice (some ⟨g, 0, none⟩) xs.length xs.length, .int .u64 r]) ∧ Arr w' g zs ∧ w.heap.size ≤ g ∧ ShortInv xs zs d 0 r ∧ Ext w w'

set_option maxHeartbeats 1000000 in
theorem short_any {w : World} {A : Option Addr} {c : Nat} {xs : List Int} {d : Int} (hc : xs.length ≤ c) (hr : U.C w A xs.length xs) (hx : Dig B64 xs) (hl : xs.length ≤ 35184372088832) (hd0 : 0 < d) (hd1 : d < B64) :
    Calls Tryz.prog 153 #[.slice A xs.length c, .int .u64 d] w (ShortPost xs d w) := by
  obtain ⟨O, HO, hmk⟩ := make_words xs.length hl
  have hA0 : Arr (w.alloc O) w.heap.size (List.replicate xs.length 0) := by rw [HO.out]; exact Arr.new w _
  have hE0 : Ext w (w.alloc O) := Ext.alloc w O
  have hI0 := ShortInv.start xs hd0
  go_enter Tryz.func153, Tryz.ntmps153
  go_wp2_with fail
  go_loopw [7, 8] (fun rr ix wr => ∃ (k : Nat) (r : Int) (zs : List Int), ix = .int .i64 ((k : Int) - 1) ∧ rr = .int .u64 r ∧ k ≤ xs.length ∧ ShortInv xs zs d k r ∧ Arr wr w.heap.size zs ∧ Ext w wr) (fun _ ix _ => (intOf ix + 1).toNat)
  case atStart => exact ⟨xs.length, 0, _, rfl, rfl, Nat.le_refl _, hI0, hA0, hE0⟩
  case round =>
    clear hmk hA0 hE0 hI0 HO
    obtain ⟨k, r, zs, rfl, rfl, hk, hI, hA, hE⟩ := hrel
    rcases Nat.eq_zero_or_pos k with h0 | h0
    · subst h0
      go_wp2
      go_ret2
      exact ⟨_, zs, r, rfl, hA, Nat.le_refl _, hI, hE⟩
    · obtain ⟨j, rfl⟩ : ∃ j, k = j + 1 := ⟨k - 1, by omega⟩
      have ej : ((j + 1 : Nat) : Int) - 1 = (j : Int) := by omega
      rw [ej]
      clear ej
      have hzl := hI.len
      obtain ⟨ad, rfl, hcell⟩ := Kd.at_int hr (j : Int) (by omega) (by omega)
      have hcx : wr.cell? (ad.add j) = some (.int .u64 (xs.getD j 0)) := hE.cell hcell
      clear hcell
      have dx := hx.get j B64_pos
      obtain ⟨x, hxx⟩ : ∃ x, Hid (x = xs.getD j 0) := ⟨_, Lib.hid rfl⟩
      rw [← hxx.out] at hcx dx
      obtain ⟨q, r', ⟨q0, q1, r0, r1, he⟩, hdiv⟩ := div64_calls r x d hI.r0 hI.r1 hd1 dx.1 dx.2
      have hI' : ShortInv xs (zs.set j q) d j r' := hI.step (by omega) q0 q1 r0 r1 (by rw [← hxx.out]; exact he.out)
      have HD := Lib.hid hdiv
      clear hI hxx he dx q0 q1 r0 r1 hdiv
      go_wp2_with fail
      refine (HD.out _).mono ?_
      rintro e w' ⟨rfl, nd, hnd⟩
      have hE2 : Ext wr w' := by rw [hnd]; exact Ext.drewN _ _
      clear hnd
      have hA2 := hA.ext hE2
      have hco := hA2.cell j (by omega)
      have hfo := hA2.free j
      obtain ⟨z, hz⟩ : ∃ z, Hid (z = zs.getD j 0) := ⟨_, Lib.hid rfl⟩
      rw [← hz.out] at hco
      have hA' := hA2.set j q
      have hE' : Ext w (w'.setCell ⟨w.heap.size, j, none⟩ (.int .u64 q)) := Below.setCell (hE.trans hE2) (Nat.le_refl _) _
      clear hA hE hE2 hA2 hz HD hzl
      go_wp2
      go_roundw
      case rel => exact ⟨j, _, _, rfl, rfl, by omega, hI', hA', hE'⟩
      case measure => simp [intOf]
end Go.Proofs.YtdlcleecjeipnaaGreatDoor

/- nat.Mul: the product of two numbers, row by row. -/
namespace Go.Proofs.YtdlcleecjeipnaaGreatDoor
open Go.RowKit Go.Proofs.YtdlcleecjeipnaaGreatDoorW.PrintWords Limbs
set_option linter.unusedVariables false

/-- What holds of the product's limbs within row i, behind k limbs of it. -/
structure MulInv (xs ys zs : List Int) (i k : Nat) (x c : Int) : Prop where
  len : zs.length = xs.length + ys.length
  dig : Dig B64 zs
  c0 : 0 ≤ c
  c1 : c < B64
  top : ∀ j, i + ys.length ≤ j → zs.getD j 0 = 0
  eqn : Limbs.val B64 zs + B64 ^ (i + k) * c = Limbs.val B64 (xs.take i) * Limbs.val B64 ys + B64 ^ i * x * Limbs.val B64 (ys.take k)

/-- What holds behind i rows. -/
structure MulRow (xs ys zs : List Int) (i : Nat) : Prop where
  len : zs.length = xs.length + ys.length
  dig : Dig B64 zs
  top : ∀ j, i + ys.length ≤ j → zs.getD j 0 = 0
  eqn : Limbs.val B64 zs = Limbs.val B64 (xs.take i) * Limbs.val B64 ys

theorem MulRow.start (xs ys : List Int) : MulRow xs ys (List.replicate (xs.length + ys.length) 0) 0 := by
  refine ⟨by simp, Dig.replicate B64_pos _, fun j _ => ?_, ?_⟩
  · simp only [List.getD_eq_getElem?_getD, List.getElem?_replicate]; split <;> rfl
  · rw [val_replicate]; simp [Limbs.val]

theorem MulRow.enter {xs ys zs : List Int} {i : Nat} (h : MulRow xs ys zs i) (x : Int) : MulInv xs ys zs i 0 x 0 :=
  ⟨h.len, h.dig, Int.le_refl _, B64_pos, h.top, by rw [h.eqn]; simp [Limbs.val]⟩

theorem MulInv.step {xs ys zs : List Int} {i k : Nat} {x c s d : Int} (h : MulInv xs ys zs i k x c) (hi : i < xs.length) (hk : k < ys.length)
    (hs0 : 0 ≤ s) (hs1 : s < B64) (hd0 : 0 ≤ d) (hd1 : d < B64) (he : s + B64 * d = x * ys.getD k 0 + zs.getD (i + k) 0 + c) : MulInv xs ys (zs.set (i + k) s) i (k + 1) x d := by
  have hl := h.len
  refine ⟨by simpa using h.len, h.dig.set _ hs0 hs1, hd0, hd1, fun j hj => ?_, ?_⟩
  · rw [Limbs.getD_set_ne _ _ _ _ (by omega)]; exact h.top j hj
  · rw [val_set B64 s zs (i + k) (by omega), val_take_succ B64 ys k hk, show i + (k + 1) = (i + k) + 1 from rfl, Int.pow_succ]
    have h1 := h.eqn
    have h2 : B64 ^ (i + k) * (s + B64 * d) = B64 ^ (i + k) * (x * ys.getD k 0 + zs.getD (i + k) 0 + c) := by rw [he]
    have h3 : B64 ^ (i + k) = B64 ^ i * B64 ^ k := Int.pow_add ..
    rw [h3] at *
    grind

theorem MulInv.fin {xs ys zs : List Int} {i : Nat} {x c : Int} (h : MulInv xs ys zs i ys.length x c) (hi : i < xs.length) (hx : x = xs.getD i 0) : MulRow xs ys (zs.set (i + ys.length) c) (i + 1) := by
  have hl := h.len
  refine ⟨by simpa using h.len, h.dig.set _ h.c0 h.c1, fun j hj => ?_, ?_⟩
  · rw [Limbs.getD_set_ne _ _ _ _ (by omega)]; exact h.top j (by omega)
  · rw [val_set B64 c zs _ (by omega), h.top _ (Nat.le_refl _), val_take_succ B64 xs i hi, ← hx]
    have h1 := h.eqn
    rw [List.take_length] at h1
    have h2 : B64 ^ (i + ys.length) * (c - 0) = B64 ^ (i + ys.length) * c := by grind
    have h3 : (Limbs.val B64 (xs.take i) + B64 ^ i * x) * Limbs.val B64 ys = Limbs.val B64 (xs.take i) * Limbs.val B64 ys + B64 ^ i * x * Limbs.val B64 ys := by grind
    omega

theorem MulRow.fin {xs ys zs : List Int} (h : MulRow xs ys zs xs.length) {a b : Nat} (hx : Lim xs a) (hy : Lim ys b) : (Limbs.val B64 zs).toNat = a * b := by
  rw [h.eqn, List.take_length, hx.val, hy.val, ← Int.natCast_mul]; rfl

/-- One limb of a row: what carries fits. -/
theorem mul_carry {x y z c hi lo s1 c1 s2 c2 : Int} (hx0 : 0 ≤ x) (hx : x < B64) (hy0 : 0 ≤ y) (hy : y < B64) (hz0 : 0 ≤ z) (hz : z < B64) (hc0 : 0 ≤ c) (hc : c < B64)
    (h1 : lo + B64 * hi = x * y) (h2 : s1 + B64 * c1 = lo + z + 0) (h3 : s2 + B64 * c2 = s1 + c + 0) (hs : 0 ≤ s2) : hi + c1 + c2 < B64 ∧ s2 + B64 * (hi + c1 + c2) = x * y + z + c := by
  have e : s2 + B64 * (hi + c1 + c2) = x * y + z + c := by grind
  refine ⟨?_, e⟩
  have hxy : x * y ≤ (B64 - 1) * (B64 - 1) := Int.mul_le_mul (by omega) (by omega) hy0 (by unfold B64; omega)
  have e2 : (B64 - 1) * (B64 - 1) = B64 * B64 - 2 * B64 + 1 := by grind
  have h4 : B64 * (hi + c1 + c2) < B64 * B64 := by omega
  exact Int.lt_of_mul_lt_mul_left h4 (Int.le_of_lt B64_pos)

set_option maxHeartbeats 2000000 in
theorem mul_any {w : World} {u v : Value} {a b : Nat} (hu : IsNat w u a) (hv : IsNat w v b) (ha : a < BIG) (hb : b < BIG) :
    Calls Tryz.prog 90 #[u, v] w (Ans (fun r w' => NatAt w' r (a * b)) w) := by
  obtain ⟨A, c, xs, ⟨h1, h2, h3⟩, c0⟩ := limbs_any hu
  obtain ⟨A', c', ys, ⟨k1, k2, k3⟩, c1⟩ := limbs_any hv
  have lx := h3.len_le ha
  have ly := k3.len_le hb
  clear ha hb
  obtain ⟨O, HO, hmk⟩ := make_words (xs.length + ys.length) (by omega)
  have ec : ((xs.length + ys.length : Nat) : Int) = (xs.length : Int) + ys.length := by omega
  rw [ec] at hmk
  clear ec
  have hA0 : Arr (w.alloc O) w.heap.size (List.replicate (xs.length + ys.length) 0) := by rw [HO.out]; exact Arr.new w _
  have hE0 : Ext w (w.alloc O) := Ext.alloc w O
  have hI0 := MulRow.start xs ys
  go_enter Tryz.func90, Tryz.ntmps90
  go_wp2_with fail
  refine c0.mono ?_; rintro e w1 ⟨rfl, rfl⟩
  go_wp2_with fail
  refine c1.mono ?_; rintro e w1 ⟨rfl, rfl⟩
  go_wp2_with fail
  go_loopw [28] (fun ix wr => ∃ (i : Nat) (zs : List Int), ix = .int .i64 i ∧ i ≤ xs.length ∧ MulRow xs ys zs i ∧ Arr wr w.heap.size zs ∧ Ext w wr) (fun ix _ => xs.length - (intOf ix).toNat)
  case atStart => exact ⟨0, _, rfl, Nat.zero_le _, hI0, hA0, hE0⟩
  case round =>
    clear hmk hA0 hE0 hI0 HO
    obtain ⟨i, zs, rfl, hi, hR, hA, hE⟩ := hrel
    obtain ⟨wo, rfl⟩ : ∃ wo : World, wo = wr := ⟨_, rfl⟩
    by_cases hil : i < xs.length
    · obtain ⟨ad, rfl, hcell⟩ := Kd.at_int h2 (i : Int) (by omega) (by omega)
      have hcx : wo.cell? (ad.add i) = some (.int .u64 (xs.getD i 0)) := hE.cell hcell
      clear hcell
      have dx := h3.dig.get i B64_pos
      obtain ⟨x, hx⟩ : ∃ x, Hid (x = xs.getD i 0) := ⟨_, Lib.hid rfl⟩
      rw [← hx.out] at hcx dx
      have hIn := hR.enter x
      clear hR
      go_wp2_with fail
      go_loopw [10, 35] (fun cr ix wq => ∃ (k : Nat) (c : Int) (zs : List Int), ix = .int .i64 k ∧ cr = .int .u64 c ∧ k ≤ ys.length ∧ MulInv xs ys zs i k x c ∧ Arr wq w.heap.size zs ∧ Ext w wq) (fun _ ix _ => ys.length - (intOf ix).toNat)
      case atStart => exact ⟨0, 0, _, rfl, rfl, Nat.zero_le _, hIn, hA, hE⟩
      case round =>
        clear hIn hA hE hcx
        obtain ⟨k, c, zs, rfl, rfl, hk, hI, hA, hE⟩ := hrel
        have hzl := hI.len
        by_cases hkl : k < ys.length
        · obtain ⟨ad', rfl, hcell⟩ := Kd.at_int k2 (k : Int) (by omega) (by omega)
          have hcy : wr.cell? (ad'.add k) = some (.int .u64 (ys.getD k 0)) := hE.cell hcell
          clear hcell
          have dy := k3.dig.get k B64_pos
          obtain ⟨y, hy⟩ : ∃ y, Hid (y = ys.getD k 0) := ⟨_, Lib.hid rfl⟩
          rw [← hy.out] at hcy dy
          have hco := hA.cell (i + k) (by omega)
          have hfo := hA.free (i + k)
          have dz := hI.dig.get (i + k) B64_pos
          obtain ⟨z, hz⟩ : ∃ z, Hid (z = zs.getD (i + k) 0) := ⟨_, Lib.hid rfl⟩
          rw [← hz.out] at hco dz
          obtain ⟨hi, lo, ⟨a0, a1, a2, a3, ea⟩, hmul⟩ := mul64_calls x y dx.1 dx.2 dy.1 dy.2
          obtain ⟨s1, d1, ⟨b0, b1, b2, b3, eb⟩, hr1⟩ := add64_run lo z 0 a2 a3 dz.1 dz.2 (by decide) (by decide)
          obtain ⟨s2, d2, ⟨e0, e1, e2, e3, ec⟩, hr2⟩ := add64_run s1 c 0 b0 b1 hI.c0 hI.c1 (by decide) (by decide)
          obtain ⟨m1, m2⟩ := mul_carry dx.1 dx.2 dy.1 dy.2 dz.1 dz.2 hI.c0 hI.c1 ea.out eb.out ec.out e0
          have hI' : MulInv xs ys (zs.set (i + k) s2) i (k + 1) x (hi + d1 + d2) := hI.step hil hkl e0 e1 (by omega) m1 (by rw [← hy.out, ← hz.out]; exact m2)
          have hA' := hA.set (i + k) s2
          have hE' : Ext w (wr.setCell ⟨w.heap.size, i + k, none⟩ (.int .u64 s2)) := Below.setCell hE (Nat.le_refl _) _
          have M2 := Lib.hid m2
          have lim1 : hi + d1 < B64 := by omega
          unfold B64 at m1 lim1
          clear hI hA hE hx hy hz ea eb ec m2 M2 dx dy dz hzl
          go_wp2_with (go_at_call 157; refine (hmul _).mono ?_; rintro e w' ⟨rfl, rfl⟩)
          go_roundw
          case rel => exact ⟨k + 1, _, _, by go_num, rfl, by omega, hI', hA', hE'⟩
          case measure => simp [intOf]; omega
        · obtain rfl : k = ys.length := by omega
          have hco := hA.cell (i + ys.length) (by omega)
          have hfo := hA.free (i + ys.length)
          obtain ⟨z, hz⟩ : ∃ z, Hid (z = zs.getD (i + ys.length) 0) := ⟨_, Lib.hid rfl⟩
          rw [← hz.out] at hco
          have hR' := hI.fin hil hx.out
          have hA' := hA.set (i + ys.length) c
          have hE' : Ext w (wr.setCell ⟨w.heap.size, i + ys.length, none⟩ (.int .u64 c)) := Below.setCell hE (Nat.le_refl _) _
          clear hI hA hE hx hz hzl
          go_wp2
          go_roundw
          case rel => exact ⟨i + 1, _, by go_num, by omega, hR', hA', hE'⟩
          case measure => simp [intOf]; omega
    · obtain rfl : i = xs.length := by omega
      have hF := hR.fin h3 k3
      have hl := hR.len
      have hm := made_nat (c := xs.length + ys.length) (by omega) (hA.reads (by omega)) hR.dig
      rw [hF, hl] at hm
      clear hR hA hF hl
      go_wp2_with (go_at_call 150; refine hm.mono ?_; rintro e w' ⟨r, rfl, hr, hE2⟩)
      go_ret
      exact ⟨_, rfl, hr, hE.trans hE2⟩
end Go.Proofs.YtdlcleecjeipnaaGreatDoor

/- nat.takes, nat.gives: a multiple of a number taken from a part of another one, or the number given back. -/
namespace Go.Proofs.YtdlcleecjeipnaaGreatDoor
open Go.RowKit Go.Proofs.YtdlcleecjeipnaaGreatDoorW.PrintWords Limbs
set_option linter.unusedVariables false

/-- k limbs from the j-th on. -/
def seg (zs : List Int) (j k : Nat) : List Int := (zs.drop j).take k
theorem seg_succ (zs : List Int) (j k : Nat) (h : j + k < zs.length) : Limbs.val B64 (seg zs j (k + 1)) = Limbs.val B64 (seg zs j k) + B64 ^ k * zs.getD (j + k) 0 := by
  unfold seg
  rw [val_take_succ B64 (zs.drop j) k (by simp; omega)]
  congr 2
  simp [List.getD_eq_getElem?_getD, List.getElem?_drop]
theorem seg_set (zs : List Int) (j k : Nat) (s : Int) (h : j + k < zs.length) : Limbs.val B64 (seg (zs.set (j + k) s) j (k + 1)) = Limbs.val B64 (seg zs j k) + B64 ^ k * s := by
  unfold seg
  rw [List.drop_set, if_neg (by omega), show j + k - j = k from by omega, val_take_set B64 s (zs.drop j) k (by simp; omega)]
theorem seg_dig {zs : List Int} (h : Dig B64 zs) (j k : Nat) : Dig B64 (seg zs j k) := (h.drop j).take k
theorem seg_length (zs : List Int) (j k : Nat) (h : j + k ≤ zs.length) : (seg zs j k).length = k := by unfold seg; rw [List.length_take, List.length_drop]; omega

/-- Only this block may have turned. -/
theorem Arr.other {w w' : World} {g g' : Nat} {xs : List Int} (h : Arr w g xs) (hg : w.grownBy w' (some g')) (hne : g ≠ g') : Arr w' g xs := h.block (hg.block g h.lt (by simp; exact hne))
theorem only_refl (w : World) (r : Option Nat) : w.grownBy w r := grown_of_below (Below.refl _ _) r
theorem only_set {a w : World} {g : Nat} (h : a.grownBy w (some g)) (i : Nat) (u : Value) : a.grownBy (w.setCell ⟨g, i, none⟩ u) (some g) :=
  ⟨h.os, h.tape, h.output, by simpa [World.setCell] using h.size, fun k hk hne => (Below.heap_setCell w ⟨g, i, none⟩ u k (fun e => hne (by rw [e]))).trans (h.block k hk hne)⟩
theorem only_ext {a w w' : World} {r : Option Nat} (h : a.grownBy w r) (he : Ext w w') : a.grownBy w' r :=
  ⟨he.os.trans h.os, he.tape.trans h.tape, he.output.trans h.output, Nat.le_trans h.size he.size, fun k hk hne => (he.block k (Nat.lt_of_lt_of_le hk h.size)).trans (h.block k hk hne)⟩

/-- While q times v is taken: behind k limbs. -/
structure TakesInv (us vz zs : List Int) (q : Int) (j k : Nat) (carry borrow : Int) : Prop where
  len : zs.length = us.length
  dig : Dig B64 zs
  c0 : 0 ≤ carry
  c1 : carry < B64
  b0 : 0 ≤ borrow
  b1 : borrow ≤ 1
  same : ∀ i, i < j ∨ j + k ≤ i → zs.getD i 0 = us.getD i 0
  eqn : Limbs.val B64 (seg zs j k) - B64 ^ k * (borrow + carry) = Limbs.val B64 (seg us j k) - q * Limbs.val B64 (vz.take k)

theorem TakesInv.start {us : List Int} (vz : List Int) (q : Int) (j : Nat) (h : Dig B64 us) : TakesInv us vz us q j 0 0 0 :=
  ⟨rfl, h, Int.le_refl _, B64_pos, Int.le_refl _, by decide, fun _ _ => rfl, by simp [seg, Limbs.val]⟩

theorem TakesInv.step {us vz zs : List Int} {q carry borrow hi lo lo2 c s b' : Int} {j k : Nat} (h : TakesInv us vz zs q j k carry borrow) (hk : k < vz.length) (hj : j + k < us.length)
    (hh0 : 0 ≤ hi) (hh : hi ≤ B64 - 2) (hc0 : 0 ≤ c) (hc1 : c ≤ 1) (hs0 : 0 ≤ s) (hs1 : s < B64) (hb0 : 0 ≤ b') (hb1 : b' ≤ 1)
    (e1 : lo + B64 * hi = q * vz.getD k 0) (e2 : lo2 + B64 * c = lo + carry + 0) (e3 : s - B64 * b' = zs.getD (j + k) 0 - lo2 - borrow) : TakesInv us vz (zs.set (j + k) s) q j (k + 1) (hi + c) b' := by
  have hl := h.len
  refine ⟨by simpa using h.len, h.dig.set _ hs0 hs1, by omega, by omega, hb0, hb1, fun i hi' => ?_, ?_⟩
  · rw [Limbs.getD_set_ne _ _ _ _ (by omega)]; exact h.same i (by omega)
  · rw [seg_set zs j k s (by omega), seg_succ us j k hj, val_take_succ B64 vz k hk, Int.pow_succ]
    have h1 := h.eqn
    have h2 := h.same (j + k) (by omega)
    rw [h2] at e3
    have h3 : B64 ^ k * (s - B64 * b') = B64 ^ k * (us.getD (j + k) 0 - lo2 - borrow) := by rw [e3]
    have h4 : B64 ^ k * (lo2 + B64 * c) = B64 ^ k * (lo + carry + 0) := by rw [e2]
    have h5 : B64 ^ k * (lo + B64 * hi) = B64 ^ k * (q * vz.getD k 0) := by rw [e1]
    grind

/-- What is behind takes: the part, the other limbs, whether it was too much. -/
structure TakesOut (us zs : List Int) (j n : Nat) (d b : Int) : Prop where
  len : zs.length = us.length
  dig : Dig B64 zs
  b0 : 0 ≤ b
  b1 : b ≤ 1
  same : ∀ i, i < j ∨ j + n + 1 ≤ i → zs.getD i 0 = us.getD i 0
  eqn : Limbs.val B64 (seg zs j (n + 1)) = Limbs.val B64 (seg us j (n + 1)) - d + B64 ^ (n + 1) * b

theorem TakesInv.fin {us vz zs : List Int} {q carry borrow s b' : Int} {j n : Nat} (h : TakesInv us vz zs q j n carry borrow) (hj : j + n < us.length) (hs0 : 0 ≤ s) (hs1 : s < B64) (hb0 : 0 ≤ b') (hb1 : b' ≤ 1)
    (e3 : s - B64 * b' = zs.getD (j + n) 0 - carry - borrow) : TakesOut us (zs.set (j + n) s) j n (q * Limbs.val B64 (vz.take n)) b' := by
  have hl := h.len
  refine ⟨by simpa using h.len, h.dig.set _ hs0 hs1, hb0, hb1, fun i hi' => ?_, ?_⟩
  · rw [Limbs.getD_set_ne _ _ _ _ (by omega)]; exact h.same i (by omega)
  · rw [seg_set zs j n s (by omega), seg_succ us j n hj, Int.pow_succ]
    have h1 := h.eqn
    have h2 := h.same (j + n) (by omega)
    rw [h2] at e3
    have h3 : B64 ^ n * (s - B64 * b') = B64 ^ n * (us.getD (j + n) 0 - carry - borrow) := by rw [e3]
    grind

def TakesPost (us : List Int) (g j n : Nat) (d : Int) (w : World) (e : Ending) (w' : World) : Prop :=
  ∃ (zs : List Int) (b : Int), e = .returned (.bool (b != 0)) ∧ TakesOut us zs j n d b ∧ Arr w' g zs ∧ w.grownBy w' (some g)

set_option maxHeartbeats 2000000 in
theorem takes_any {w : World} {g gv j n cu cv : Nat} {us vz : List Int} {q : Int} (hU : Arr w g us) (hV : Arr w gv vz) (hne : gv ≠ g) (hud : Dig B64 us) (hvd : Dig B64 vz) (hn : n ≤ vz.length) (hj : j + n < us.length)
    (hcu : n + 1 ≤ cu) (hcv : n ≤ cv) (hm : us.length ≤ 35184372088832) (q0 : 0 ≤ q) (q1 : q < B64) :
    Calls Tryz.prog 198 #[.slice (some ⟨g, j, none⟩) (n + 1) cu, .slice (some ⟨gv, 0, none⟩) n cv, .int .u64 q] w (TakesPost us g j n (q * Limbs.val B64 (vz.take n)) w) := by
  have hI0 := TakesInv.start vz q j hud
  have hG0 := only_refl w (some g)
  go_enter Tryz.func198, Tryz.ntmps198
  go_wp2_with fail
  go_loopw [7, 8, 16] (fun cr br ix wr => ∃ (k : Nat) (c b : Int) (zs : List Int), ix = .int .i64 k ∧ cr = .int .u64 c ∧ br = .int .u64 b ∧ k ≤ n ∧ TakesInv us vz zs q j k c b ∧ Arr wr g zs ∧ w.grownBy wr (some g)) (fun _ _ ix _ => n - (intOf ix).toNat)
  case atStart => exact ⟨0, 0, 0, _, rfl, rfl, rfl, Nat.zero_le _, hI0, hU, hG0⟩
  case round =>
    clear hI0 hG0 hU
    obtain ⟨k, c, b, zs, rfl, rfl, rfl, hk, hI, hA, hG⟩ := hrel
    have hzl := hI.len
    have hVr := hV.other hG hne
    by_cases hkl : k < n
    · have hcx := hVr.cell k (by omega)
      have dx := hvd.get k B64_pos
      obtain ⟨x, hx⟩ : ∃ x, Hid (x = vz.getD k 0) := ⟨_, Lib.hid rfl⟩
      rw [← hx.out] at hcx dx
      have hco := hA.cell (j + k) (by omega)
      have hfo := hA.free (j + k)
      have dz := hI.dig.get (j + k) B64_pos
      obtain ⟨z, hz⟩ : ∃ z, Hid (z = zs.getD (j + k) 0) := ⟨_, Lib.hid rfl⟩
      rw [← hz.out] at hco dz
      obtain ⟨hi, lo, ⟨a0, a1, a2, a3, ea⟩, hmul⟩ := mul64_calls q x q0 q1 dx.1 dx.2
      obtain ⟨lo2, d1, ⟨b0, b1, b2, b3, eb⟩, hr1⟩ := add64_run lo c 0 a2 a3 hI.c0 hI.c1 (by decide) (by decide)
      obtain ⟨s, d2, ⟨e0, e1, e2, e3, ec⟩, hr2⟩ := sub64_run z lo2 b dz.1 dz.2 b0 b1 hI.b0 hI.b1
      have hI' : TakesInv us vz (zs.set (j + k) s) q j (k + 1) (hi + d1) d2 := hI.step (by omega) (by omega) a0 a1 b2 b3 e0 e1 e2 e3 (by rw [← hx.out]; exact ea.out) eb.out (by rw [← hz.out]; exact ec.out)
      have hA' := hA.set (j + k) s
      have hG' := only_set hG (j + k) (.int .u64 s)
      have lim1 : hi + d1 < B64 := by omega
      unfold B64 at lim1
      clear hI hA hG hx hz ea eb ec dx dz hzl hVr
      go_wp2_with (go_at_call 157; refine (hmul _).mono ?_; rintro e w' ⟨rfl, rfl⟩)
      go_roundw
      case rel => exact ⟨k + 1, _, _, _, by go_num, rfl, rfl, by omega, hI', hA', hG'⟩
      case measure => simp [intOf]; omega
    · obtain rfl : k = n := by omega
      have hco := hA.cell (j + k) (by omega)
      have hfo := hA.free (j + k)
      have dz := hI.dig.get (j + k) B64_pos
      obtain ⟨z, hz⟩ : ∃ z, Hid (z = zs.getD (j + k) 0) := ⟨_, Lib.hid rfl⟩
      rw [← hz.out] at hco dz
      obtain ⟨s, d2, ⟨e0, e1, e2, e3, ec⟩, hr2⟩ := sub64_run z c b dz.1 dz.2 hI.c0 hI.c1 hI.b0 hI.b1
      have hO := hI.fin hj e0 e1 e2 e3 (by rw [← hz.out]; exact ec.out)
      have hA' := hA.set (j + k) s
      have hG' := only_set hG (j + k) (.int .u64 s)
      clear hI hA hG hz ec dz hzl hVr
      go_wp2
      go_ret
      exact ⟨_, _, rfl, hO, hA', hG'⟩

/-- While v is given back: behind k limbs. -/
structure GivesInv (us vz zs : List Int) (j k : Nat) (carry : Int) : Prop where
  len : zs.length = us.length
  dig : Dig B64 zs
  c0 : 0 ≤ carry
  c1 : carry ≤ 1
  same : ∀ i, i < j ∨ j + k ≤ i → zs.getD i 0 = us.getD i 0
  eqn : Limbs.val B64 (seg zs j k) + B64 ^ k * carry = Limbs.val B64 (seg us j k) + Limbs.val B64 (vz.take k)

theorem GivesInv.start {us : List Int} (vz : List Int) (j : Nat) (h : Dig B64 us) : GivesInv us vz us j 0 0 :=
  ⟨rfl, h, Int.le_refl _, by decide, fun _ _ => rfl, by simp [seg, Limbs.val]⟩

theorem GivesInv.step {us vz zs : List Int} {carry s c : Int} {j k : Nat} (h : GivesInv us vz zs j k carry) (hk : k < vz.length) (hj : j + k < us.length)
    (hs0 : 0 ≤ s) (hs1 : s < B64) (hc0 : 0 ≤ c) (hc1 : c ≤ 1) (e : s + B64 * c = zs.getD (j + k) 0 + vz.getD k 0 + carry) : GivesInv us vz (zs.set (j + k) s) j (k + 1) c := by
  have hl := h.len
  refine ⟨by simpa using h.len, h.dig.set _ hs0 hs1, hc0, hc1, fun i hi' => ?_, ?_⟩
  · rw [Limbs.getD_set_ne _ _ _ _ (by omega)]; exact h.same i (by omega)
  · rw [seg_set zs j k s (by omega), seg_succ us j k hj, val_take_succ B64 vz k hk, Int.pow_succ]
    have h1 := h.eqn
    have h2 := h.same (j + k) (by omega)
    rw [h2] at e
    have h3 : B64 ^ k * (s + B64 * c) = B64 ^ k * (us.getD (j + k) 0 + vz.getD k 0 + carry) := by rw [e]
    grind

theorem GivesInv.fin {us vz zs : List Int} {carry s b : Int} {j n : Nat} (h : GivesInv us vz zs j n carry) (hj : j + n < us.length) (hs0 : 0 ≤ s) (hs1 : s < B64) (hb0 : 0 ≤ b) (hb1 : b ≤ 1)
    (e : s + B64 * b = zs.getD (j + n) 0 + carry) : TakesOut us (zs.set (j + n) s) j n (B64 ^ (n + 1) * b - Limbs.val B64 (vz.take n)) 0 := by
  have hl := h.len
  refine ⟨by simpa using h.len, h.dig.set _ hs0 hs1, by decide, by decide, fun i hi' => ?_, ?_⟩
  · rw [Limbs.getD_set_ne _ _ _ _ (by omega)]; exact h.same i (by omega)
  · rw [seg_set zs j n s (by omega), seg_succ us j n hj, Int.pow_succ]
    have h1 := h.eqn
    have h2 := h.same (j + n) (by omega)
    rw [h2] at e
    have h3 : B64 ^ n * (s + B64 * b) = B64 ^ n * (us.getD (j + n) 0 + carry) := by rw [e]
    grind

def GivesPost (us : List Int) (g j n : Nat) (v : Int) (w : World) (e : Ending) (w' : World) : Prop :=
  ∃ (zs : List Int) (b : Int), e = .returned (.tuple #[]) ∧ 0 ≤ b ∧ b ≤ 1 ∧ TakesOut us zs j n (B64 ^ (n + 1) * b - v) 0 ∧ Arr w' g zs ∧ w.grownBy w' (some g)

theorem wrap_sum (z c : Int) (hz0 : 0 ≤ z) (hz : z < B64) (hc0 : 0 ≤ c) (hc : c ≤ 1) : ∃ s b : Int, IntKind.u64.wrap (z + c) = s ∧ 0 ≤ s ∧ s < B64 ∧ 0 ≤ b ∧ b ≤ 1 ∧ s + B64 * b = z + c := by
  unfold B64 at *
  refine ⟨(z + c) % 18446744073709551616, (z + c) / 18446744073709551616, by rw [IntKind.wrap_u64], ?_, ?_, ?_, ?_, ?_⟩ <;> omega

set_option maxHeartbeats 2000000 in
theorem gives_any {w : World} {g gv j n cu cv : Nat} {us vz : List Int} (hU : Arr w g us) (hV : Arr w gv vz) (hne : gv ≠ g) (hud : Dig B64 us) (hvd : Dig B64 vz) (hn : n ≤ vz.length) (hj : j + n < us.length)
    (hcu : n + 1 ≤ cu) (hcv : n ≤ cv) (hm : us.length ≤ 35184372088832) :
    Calls Tryz.prog 199 #[.slice (some ⟨g, j, none⟩) (n + 1) cu, .slice (some ⟨gv, 0, none⟩) n cv] w (GivesPost us g j n (Limbs.val B64 (vz.take n)) w) := by
  have hI0 := GivesInv.start vz j hud
  have hG0 := only_refl w (some g)
  go_enter Tryz.func199, Tryz.ntmps199
  go_wp2_with fail
  go_loopw [4, 9] (fun cr ix wr => ∃ (k : Nat) (c : Int) (zs : List Int), ix = .int .i64 k ∧ cr = .int .u64 c ∧ k ≤ n ∧ GivesInv us vz zs j k c ∧ Arr wr g zs ∧ w.grownBy wr (some g)) (fun _ ix _ => n - (intOf ix).toNat)
  case atStart => exact ⟨0, 0, _, rfl, rfl, Nat.zero_le _, hI0, hU, hG0⟩
  case round =>
    clear hI0 hG0 hU
    obtain ⟨k, c, zs, rfl, rfl, hk, hI, hA, hG⟩ := hrel
    have hzl := hI.len
    have hVr := hV.other hG hne
    by_cases hkl : k < n
    · have hcx := hVr.cell k (by omega)
      have dx := hvd.get k B64_pos
      obtain ⟨x, hx⟩ : ∃ x, Hid (x = vz.getD k 0) := ⟨_, Lib.hid rfl⟩
      rw [← hx.out] at hcx dx
      have hco := hA.cell (j + k) (by omega)
      have hfo := hA.free (j + k)
      have dz := hI.dig.get (j + k) B64_pos
      obtain ⟨z, hz⟩ : ∃ z, Hid (z = zs.getD (j + k) 0) := ⟨_, Lib.hid rfl⟩
      rw [← hz.out] at hco dz
      obtain ⟨s, d1, ⟨b0, b1, b2, b3, eb⟩, hr1⟩ := add64_run z x c dz.1 dz.2 dx.1 dx.2 hI.c0 hI.c1
      have hI' : GivesInv us vz (zs.set (j + k) s) j (k + 1) d1 := hI.step (by omega) (by omega) b0 b1 b2 b3 (by rw [← hx.out, ← hz.out]; exact eb.out)
      have hA' := hA.set (j + k) s
      have hG' := only_set hG (j + k) (.int .u64 s)
      clear hI hA hG hx hz eb dx dz hzl hVr
      go_wp2
      go_roundw
      case rel => exact ⟨k + 1, _, _, by go_num, rfl, by omega, hI', hA', hG'⟩
      case measure => simp [intOf]; omega
    · obtain rfl : k = n := by omega
      have hco := hA.cell (j + k) (by omega)
      have hfo := hA.free (j + k)
      have dz := hI.dig.get (j + k) B64_pos
      obtain ⟨z, hz⟩ : ∃ z, Hid (z = zs.getD (j + k) 0) := ⟨_, Lib.hid rfl⟩
      rw [← hz.out] at hco dz
      obtain ⟨s, b, hw, s0, s1, b0, b1, es⟩ := wrap_sum z c dz.1 dz.2 hI.c0 hI.c1
      have hO := hI.fin hj s0 s1 b0 b1 (by rw [← hz.out]; exact es)
      have hA' := hA.set (j + k) s
      have hG' := only_set hG (j + k) (.int .u64 s)
      clear hI hA hG hz dz hzl hVr es s1
      go_wp2
      go_end0
      exact ⟨_, b, rfl, b0, b1, hO, hA', hG'⟩
end Go.Proofs.YtdlcleecjeipnaaGreatDoor

/- nat.guess: a digit of the quotient that may be a bit too great. -/
namespace Go.Proofs.YtdlcleecjeipnaaGreatDoor
open Go.RowKit Go.Proofs.YtdlcleecjeipnaaGreatDoorW.PrintWords Limbs
set_option linter.unusedVariables false

theorem quiet_add {P : Program} {f : FuncId} {args : Array Value} {w : World} {a n : Nat} {v : Value}
    (h : Calls P f args (w.drewN (a + n)) fun e w' => e = .returned v ∧ ∃ m, w' = (w.drewN (a + n)).drewN m) :
    Calls P f args (w.drewN (a + n)) fun e w'' => e = .returned v ∧ ∃ m, w'' = w.drewN (a + m) :=
  h.mono fun _ _ ⟨he, m, hm⟩ => ⟨he, n + m, by rw [hm, World.drewN_drewN, Nat.add_assoc]⟩

/-- The highest digits of a part and of what it is divided by. -/
structure GuessIn (us vz : List Int) (j n : Nat) (u2 u1 u0 t s : Int) : Prop where
  u2r : 0 ≤ u2 ∧ u2 < B64
  u1r : 0 ≤ u1 ∧ u1 < B64
  u0r : 0 ≤ u0 ∧ u0 < B64
  tr : 0 < t ∧ t < B64
  t2 : B64 ≤ 2 * t
  sr : 0 ≤ s ∧ s < B64
  ex : ∃ p U0 V0 : Int, 0 < p ∧ 0 ≤ U0 ∧ U0 < p ∧ 0 ≤ V0 ∧ V0 < p ∧ Limbs.val B64 (seg us j (n + 1)) = ((u2 * B64 + u1) * B64 + u0) * p + U0 ∧ Limbs.val B64 (vz.take n) = (t * B64 + s) * p + V0
  lt : Limbs.val B64 (seg us j (n + 1)) < B64 * Limbs.val B64 (vz.take n)

theorem GuessIn.mk' {us vz : List Int} {j n : Nat} (hu : Dig B64 us) (hv : Dig B64 vz) (hn : 2 ≤ n) (hj : j + n < us.length) (hnv : n ≤ vz.length) (ht : B64 ≤ 2 * vz.getD (n - 1) 0)
    (hlt : Limbs.val B64 (seg us j (n + 1)) < B64 * Limbs.val B64 (vz.take n)) : GuessIn us vz j n (us.getD (j + n) 0) (us.getD (j + (n - 1)) 0) (us.getD (j + (n - 2)) 0) (vz.getD (n - 1) 0) (vz.getD (n - 2) 0) := by
  refine ⟨hu.get _ B64_pos, hu.get _ B64_pos, hu.get _ B64_pos, ⟨by have := B64_pos; omega, (hv.get _ B64_pos).2⟩, ht, hv.get _ B64_pos, ⟨B64 ^ (n - 2), Limbs.val B64 (seg us j (n - 2)), Limbs.val B64 (vz.take (n - 2)), pow_pos B64_pos _, ?_, ?_, ?_, ?_, ?_, ?_⟩, hlt⟩
  · exact val_nonneg B64_pos (seg_dig hu j _)
  · have := val_lt B64_pos (seg_dig hu j (n - 2))
    rwa [seg_length us j (n - 2) (by omega)] at this
  · exact val_nonneg B64_pos (hv.take _)
  · have := val_lt B64_pos (hv.take (n - 2))
    rwa [List.length_take, Nat.min_eq_left (by omega)] at this
  · obtain ⟨m, rfl⟩ : ∃ m, n = m + 2 := ⟨n - 2, by omega⟩
    rw [show m + 2 + 1 = (m + 1 + 1) + 1 from rfl, seg_succ us j (m + 1 + 1) (by omega), seg_succ us j (m + 1) (by omega), seg_succ us j m (by omega)]
    simp only [show m + 2 - 1 = m + 1 from rfl, show m + 2 - 2 = m from rfl, Int.pow_succ]
    grind
  · obtain ⟨m, rfl⟩ : ∃ m, n = m + 2 := ⟨n - 2, by omega⟩
    rw [show m + 2 = (m + 1) + 1 from rfl, val_take_succ B64 vz (m + 1) (by omega), val_take_succ B64 vz m (by omega)]
    simp only [show m + 1 + 1 - 1 = m + 1 from rfl, show m + 1 + 1 - 2 = m from rfl, Int.pow_succ]
    grind

def quot (us vz : List Int) (j n : Nat) : Int := Limbs.val B64 (seg us j (n + 1)) / Limbs.val B64 (vz.take n)

theorem GuessIn.vpos {us vz : List Int} {j n : Nat} {u2 u1 u0 t s : Int} (h : GuessIn us vz j n u2 u1 u0 t s) : 0 < Limbs.val B64 (vz.take n) := by
  obtain ⟨p, U0, V0, hp, _, _, h0, _, _, e⟩ := h.ex
  rw [e]
  have h1 : 0 < t * B64 + s := by have := Int.mul_pos h.tr.1 B64_pos; have := h.sr.1; omega
  have := Int.mul_pos h1 hp
  omega
theorem GuessIn.q0 {us vz : List Int} {j n : Nat} {u2 u1 u0 t s : Int} (h : GuessIn us vz j n u2 u1 u0 t s) : 0 ≤ quot us vz j n ∧ quot us vz j n < B64 := by
  obtain ⟨p, U0, V0, hp, hU0, _, h0, _, e, _⟩ := h.ex
  have hU : 0 ≤ Limbs.val B64 (seg us j (n + 1)) := by
    rw [e]
    have h1 : 0 ≤ (u2 * B64 + u1) * B64 + u0 := by
      have a := Int.mul_nonneg h.u2r.1 (Int.le_of_lt B64_pos)
      have b := Int.mul_nonneg (show 0 ≤ u2 * B64 + u1 by have := h.u1r.1; omega) (Int.le_of_lt B64_pos)
      have := h.u0r.1
      omega
    have := Int.mul_nonneg h1 (Int.le_of_lt hp)
    omega
  exact ⟨Int.ediv_nonneg hU (Int.le_of_lt h.vpos), Int.ediv_lt_of_lt_mul h.vpos h.lt⟩

/-- The guess while it is corrected. -/
structure GuessSt (us vz : List Int) (j n : Nat) (u2 u1 t q r : Int) : Prop where
  q0 : 0 ≤ q
  q1 : q < B64
  r0 : 0 ≤ r
  r1 : r < B64
  eqn : q * t + r = u2 * B64 + u1
  ge : quot us vz j n ≤ q
  le : q ≤ quot us vz j n + 2

/-- What guess answers. -/
structure GuessOut (us vz : List Int) (j n : Nat) (q : Int) : Prop where
  q0 : 0 ≤ q
  q1 : q < B64
  ge : quot us vz j n ≤ q
  le : q ≤ quot us vz j n + 2

theorem GuessSt.out {us vz : List Int} {j n : Nat} {u2 u1 t q r : Int} (h : GuessSt us vz j n u2 u1 t q r) : GuessOut us vz j n q := ⟨h.q0, h.q1, h.ge, h.le⟩

theorem GuessIn.q_le {us vz : List Int} {j n : Nat} {u2 u1 u0 t s q : Int} (h : GuessIn us vz j n u2 u1 u0 t s) (hq : q * t ≤ u2 * B64 + u1) : q ≤ quot us vz j n + 2 := by
  obtain ⟨p, U0, V0, hp, hU0, hU1, hV0, hV1, eU, eV⟩ := h.ex
  refine Knuth.first_le (b := B64) (p := p) (t := t) (s := s) (v0 := V0) (u1 := u2 * B64 + u1) (u0 := u0) (w0 := U0) hp B64_pos eV h.sr.2 hV1 eU h.u0r.1 hU0 (Int.lt_ediv_add_one_mul_self _ h.vpos) h.q0.1 h.q0.2 hq h.t2

theorem GuessIn.start {us vz : List Int} {j n : Nat} {u2 u1 u0 t s q r : Int} (h : GuessIn us vz j n u2 u1 u0 t s) (hq0 : 0 ≤ q) (hq1 : q < B64) (hr0 : 0 ≤ r) (hr1 : r < t) (he : q * t + r = u2 * B64 + u1) : GuessSt us vz j n u2 u1 t q r := by
  refine ⟨hq0, hq1, hr0, Int.lt_trans hr1 h.tr.2, he, ?_, h.q_le (by omega)⟩
  obtain ⟨p, U0, V0, hp, hU0, hU1, hV0, hV1, eU, eV⟩ := h.ex
  refine Knuth.first_ge (b := B64) (p := p) (t := t) (s := s) (v0 := V0) (u1 := u2 * B64 + u1) (u0 := u0) (w0 := U0) hp B64_pos h.q0.1 eV h.sr.1 hV0 eU h.u0r.2 hU1 (Int.ediv_mul_le _ (by have := h.vpos; omega)) ?_ h.tr.1
  have e : (q + 1) * t = q * t + t := by grind
  omega

theorem GuessIn.top {us vz : List Int} {j n : Nat} {u2 u1 u0 t s : Int} (h : GuessIn us vz j n u2 u1 u0 t s) (ht : t ≤ u2) : GuessOut us vz j n (B64 - 1) := by
  have h0 := h.q0
  have hb := B64_pos
  refine ⟨by omega, by omega, by omega, h.q_le ?_⟩
  have h1 : B64 * t ≤ B64 * u2 := Int.mul_le_mul_of_nonneg_left ht (Int.le_of_lt hb)
  have e : (B64 - 1) * t = B64 * t - t := by grind
  have e2 : u2 * B64 = B64 * u2 := Int.mul_comm _ _
  have := h.tr.1
  have := h.u1r.1
  omega

theorem GuessSt.down {us vz : List Int} {j n : Nat} {u2 u1 u0 t s q r : Int} (h : GuessIn us vz j n u2 u1 u0 t s) (hS : GuessSt us vz j n u2 u1 t q r) (hbig : r * B64 + u0 < q * s) : GuessOut us vz j n (q - 1) := by
  obtain ⟨p, U0, V0, hp, hU0, hU1, hV0, hV1, eU, eV⟩ := h.ex
  have h1 : quot us vz j n ≤ q - 1 := Knuth.next_ge (b := B64) (p := p) (t := t) (s := s) (v0 := V0) (u1 := u2 * B64 + u1) (u0 := u0) (w0 := U0) (r := r) hp eV hV0 eU hU1 hS.q0 (Int.ediv_mul_le _ (by have := h.vpos; omega)) h.vpos hS.eqn hbig
  have h2 := h.q0.1
  exact ⟨by omega, by have := hS.q1; omega, h1, by have := hS.le; omega⟩
theorem GuessSt.next {us vz : List Int} {j n : Nat} {u2 u1 u0 t s q r : Int} (h : GuessIn us vz j n u2 u1 u0 t s) (hS : GuessSt us vz j n u2 u1 t q r) (hbig : r * B64 + u0 < q * s) {r' : Int} (hr : r' = r + t) (hlt : r' < B64) : GuessSt us vz j n u2 u1 t (q - 1) r' := by
  have hO := hS.down h hbig
  subst hr
  refine ⟨hO.q0, hO.q1, by have := hS.r0; have := h.tr.1; omega, hlt, ?_, hO.ge, hO.le⟩
  have := hS.eqn
  have e : (q - 1) * t = q * t - t := by grind
  omega

/-- The test of the two highest digits' product, said of the numbers. -/
theorem big_of {hi lo q s r u0 : Int} (e : lo + B64 * hi = q * s) (l0 : 0 ≤ lo) (u1 : u0 < B64) (h : ¬ (hi < r ∨ (hi = r ∧ lo ≤ u0))) : r * B64 + u0 < q * s := by
  rcases Int.lt_trichotomy hi r with h1 | h1 | h1
  · exact absurd (.inl h1) h
  · subst h1
    have : u0 < lo := by
      rcases Int.lt_or_le u0 lo with h2 | h2
      · exact h2
      · exact absurd (.inr ⟨rfl, h2⟩) h
    have e2 : hi * B64 = B64 * hi := Int.mul_comm _ _
    omega
  · have h2 : B64 * (r + 1) ≤ B64 * hi := Int.mul_le_mul_of_nonneg_left (by omega) (Int.le_of_lt B64_pos)
    have e2 : B64 * (r + 1) = r * B64 + B64 := by grind
    omega

def GuessPost (us vz : List Int) (j n : Nat) (w : World) (e : Ending) (w' : World) : Prop := ∃ q : Int, e = .returned (.int .u64 q) ∧ GuessOut us vz j n q ∧ Ext w w'

set_option maxHeartbeats 4000000 in
theorem guess_core {w : World} {g gv j n cu cv : Nat} {us vz : List Int} {u2 u1 u0 t s : Int} (hG : GuessIn us vz j n u2 u1 u0 t s) (hn : 2 ≤ n) (hcu : n + 1 ≤ cu) (hcv : n ≤ cv) (hm : n ≤ 35184372088832)
    (c2 : w.cell? ⟨g, j + n, none⟩ = some (.int .u64 u2)) (c1 : w.cell? ⟨g, j + (n - 1), none⟩ = some (.int .u64 u1)) (c0 : w.cell? ⟨g, j + (n - 2), none⟩ = some (.int .u64 u0))
    (ct : w.cell? ⟨gv, n - 1, none⟩ = some (.int .u64 t)) (cs : w.cell? ⟨gv, n - 2, none⟩ = some (.int .u64 s)) :
    Calls Tryz.prog 197 #[.slice (some ⟨g, j, none⟩) (n + 1) cu, .slice (some ⟨gv, 0, none⟩) n cv] w (GuessPost us vz j n w) := by
  by_cases htop : t ≤ u2
  · have hO := hG.top htop
    have Hb : Hid (B64 - 1 = 18446744073709551615) := Lib.hid (by unfold B64; rfl)
    clear hG
    go_enter Tryz.func197, Tryz.ntmps197
    go_wp2
    go_quiet (fail)
    go_wp2
    go_ret
    exact ⟨18446744073709551615, rfl, by rw [← Hb.out]; exact hO, Ext.drewN _ _⟩
  · obtain ⟨q, r, ⟨q0, q1, r0, r1, he⟩, hdiv⟩ := div64_calls u2 u1 t hG.u2r.1 (by omega) hG.tr.2 hG.u1r.1 hG.u1r.2
    have hS0 := hG.start q0 q1 r0 r1 he.out
    have HD := Lib.hid hdiv
    clear q0 q1 r0 r1 he hdiv
    go_enter Tryz.func197, Tryz.ntmps197
    go_wp2
    go_quiet (fail)
    go_wp2_with fail
    go_quiet ((go_at_call 194; exact quiet_add (HD.out _)))
    clear HD
    go_wp2_with fail
    go_loopw [8, 9] (fun a b wr => ∃ q r : Int, a = .int .u64 q ∧ b = .int .u64 r ∧ GuessSt us vz j n u2 u1 t q r ∧ Ext w wr) (fun a _ _ => (intOf a).toNat)
    case atStart => exact ⟨_, _, rfl, rfl, hS0, (Ext.drewN _ _).trans (Ext.drewN _ _)⟩
    case round =>
      clear hS0
      obtain ⟨q, r, rfl, rfl, hS, hE⟩ := hrel
      replace c0 := hE.cell c0
      clear c2 c1 ct cs
      obtain ⟨hi, lo, ⟨a0, a1, a2, a3, ea⟩, hmul⟩ := mul64_calls q s hS.q0 hS.q1 hG.sr.1 hG.sr.2
      have HM := Lib.hid hmul
      clear hmul
      by_cases h1 : hi < r
      · have hO := hS.out
        clear hS ea hG
        go_wp2_with (go_at_call 157; refine (HM.out _).mono ?_; rintro e w' ⟨rfl, rfl⟩)
        go_ret
        exact ⟨q, rfl, hO, hE⟩
      · by_cases h2 : hi = r ∧ lo ≤ u0
        · obtain ⟨h2, h3⟩ := h2
          subst h2
          have hO := hS.out
          have hb : (hi == hi) = true := beq_self_eq_true hi
          clear hS ea hG
          go_wp2_with (go_at_call 157; refine (HM.out _).mono ?_; rintro e w' ⟨rfl, rfl⟩)
          go_ret
          exact ⟨q, rfl, hO, hE⟩
        · have hbig := big_of ea.out a2 hG.u0r.2 (show ¬ (hi < r ∨ (hi = r ∧ lo ≤ u0)) from fun h => h.elim h1 h2)
          have hdn := hS.down hG hbig
          obtain ⟨s1, d1, ⟨b0, b1, b2, b3, eb⟩, hr1⟩ := add64_run r t 0 hS.r0 hS.r1 (by have := hG.tr; omega) hG.tr.2 (by decide) (by decide)
          have hq1 := hdn.q0
          have hq2 := hS.q1
          rcases Int.lt_or_le 0 d1 with hd | hd
          · obtain rfl : d1 = 1 := by omega
            unfold B64 at hq2
            by_cases h4 : hi = r
            · subst h4
              have h3 : ¬ lo ≤ u0 := fun h => h2 ⟨rfl, h⟩
              have hb : (hi == hi) = true := beq_self_eq_true hi
              clear hS ea eb hG hbig h2 b0 b1
              go_wp2_with (go_at_call 157; refine (HM.out _).mono ?_; rintro e w' ⟨rfl, rfl⟩)
              go_ret
              exact ⟨q - 1, rfl, hdn, hE⟩
            · have hb : (hi == r) = false := beq_eq_false_iff_ne.2 h4
              clear hS ea eb hG hbig h2 b0 b1 h4
              go_wp2_with (go_at_call 157; refine (HM.out _).mono ?_; rintro e w' ⟨rfl, rfl⟩)
              go_ret
              exact ⟨q - 1, rfl, hdn, hE⟩
          · obtain rfl : d1 = 0 := by omega
            have hS' := hS.next hG hbig (r' := s1) (by have := eb.out; omega) b1
            unfold B64 at hq2
            by_cases h4 : hi = r
            · subst h4
              have h3 : ¬ lo ≤ u0 := fun h => h2 ⟨rfl, h⟩
              have hb : (hi == hi) = true := beq_self_eq_true hi
              clear hS ea eb hG hbig h2 b0 b1 hdn
              go_wp2_with (go_at_call 157; refine (HM.out _).mono ?_; rintro e w' ⟨rfl, rfl⟩)
              go_roundw
              case rel => exact ⟨_, _, rfl, rfl, hS', hE⟩
              case measure => simp [intOf]; omega
            · have hb : (hi == r) = false := beq_eq_false_iff_ne.2 h4
              clear hS ea eb hG hbig h2 b0 b1 h4 hdn
              go_wp2_with (go_at_call 157; refine (HM.out _).mono ?_; rintro e w' ⟨rfl, rfl⟩)
              go_roundw
              case rel => exact ⟨_, _, rfl, rfl, hS', hE⟩
              case measure => simp [intOf]; omega

theorem guess_any {w : World} {g gv j n cu cv : Nat} {us vz : List Int} (hU : Arr w g us) (hV : Arr w gv vz) (hud : Dig B64 us) (hvd : Dig B64 vz) (hn : 2 ≤ n) (hnv : n ≤ vz.length) (hj : j + n < us.length)
    (hcu : n + 1 ≤ cu) (hcv : n ≤ cv) (hm : us.length ≤ 35184372088832) (ht : B64 ≤ 2 * vz.getD (n - 1) 0) (hlt : Limbs.val B64 (seg us j (n + 1)) < B64 * Limbs.val B64 (vz.take n)) :
    Calls Tryz.prog 197 #[.slice (some ⟨g, j, none⟩) (n + 1) cu, .slice (some ⟨gv, 0, none⟩) n cv] w (GuessPost us vz j n w) :=
  guess_core (GuessIn.mk' hud hvd hn hj hnv ht hlt) hn hcu hcv (by omega) (hU.cell _ (by omega)) (hU.cell _ (by omega)) (hU.cell _ (by omega)) (hV.cell _ (by omega)) (hV.cell _ (by omega))
end Go.Proofs.YtdlcleecjeipnaaGreatDoor

/- nat.left: limbs shifted to the left by less than a limb. -/
namespace Go.Proofs.YtdlcleecjeipnaaGreatDoor
open Go.RowKit Go.Proofs.YtdlcleecjeipnaaGreatDoorW.PrintWords Limbs
set_option linter.unusedVariables false

/-- Behind k limbs. -/
structure LeftInv (xs zs : List Int) (s k : Nat) : Prop where
  len : zs.length = xs.length + 1
  dig : Dig B64 zs
  small : zs.getD k 0 < 2 ^ s
  top : ∀ j, k < j → zs.getD j 0 = 0
  eqn : Limbs.val B64 (zs.take (k + 1)) = Limbs.val B64 (xs.take k) * 2 ^ s

theorem LeftInv.start (xs : List Int) (s : Nat) : LeftInv xs (List.replicate (xs.length + 1) 0) s 0 := by
  have h0 : ∀ j, (List.replicate (xs.length + 1) (0 : Int)).getD j 0 = 0 := fun j => by
    simp only [List.getD_eq_getElem?_getD, List.getElem?_replicate]; split <;> rfl
  refine ⟨by simp, Dig.replicate B64_pos _, by rw [h0]; exact pow_pos (by decide) s, fun j _ => h0 j, ?_⟩
  rw [val_take_succ B64 _ 0 (by simp), h0]; simp [Limbs.val]

theorem pow_split {s : Nat} (hs : s ≤ 63) : (2 : Int) ^ s * 2 ^ (64 - s) = B64 := by
  rw [← Int.pow_add, show s + (64 - s) = 64 from by omega]; rfl

theorem left_words {x z : Int} {s : Nat} (hs : s ≤ 63) (x0 : 0 ≤ x) (x1 : x < B64) (z0 : 0 ≤ z) (z1 : z < 2 ^ s) :
    ∃ v1 v2 : Int, bits .or .u64 z (IntKind.u64.wrap (x * 2 ^ s)) = v1 ∧ x / 2 / 2 ^ (63 - s) = v2 ∧ 0 ≤ v1 ∧ v1 < B64 ∧ 0 ≤ v2 ∧ v2 < 2 ^ s ∧ v1 + B64 * v2 = z + x * 2 ^ s := by
  have pp := pow_split hs
  have p0 : (0 : Int) < 2 ^ s := pow_pos (by decide) s
  have q0 : (0 : Int) < 2 ^ (64 - s) := pow_pos (by decide) _
  have hx := Int.mul_ediv_add_emod x (2 ^ (64 - s))
  have r0 := Int.emod_nonneg x (show (2 : Int) ^ (64 - s) ≠ 0 by omega)
  have r1 := Int.emod_lt_of_pos x q0
  have e2 : x / 2 / 2 ^ (63 - s) = x / 2 ^ (64 - s) := by
    rw [Int.ediv_ediv_of_nonneg (by decide), ← Int.pow_succ', show 63 - s + 1 = 64 - s from by omega]
  have t0 : 0 ≤ x / 2 ^ (64 - s) := Int.ediv_nonneg x0 (Int.le_of_lt q0)
  have t1 : x / 2 ^ (64 - s) < 2 ^ s := by
    apply Int.ediv_lt_of_lt_mul q0
    rw [pp]; exact x1
  generalize x / 2 ^ (64 - s) = top at *
  generalize x % 2 ^ (64 - s) = rest at *
  have hl : rest * 2 ^ s + 2 ^ s ≤ B64 := by
    have h3 : (rest + 1) * 2 ^ s ≤ 2 ^ (64 - s) * 2 ^ s := Int.mul_le_mul_of_nonneg_right (by omega) (Int.le_of_lt p0)
    rw [Int.mul_comm (2 ^ (64 - s)), pp] at h3
    have e : (rest + 1) * 2 ^ s = rest * 2 ^ s + 2 ^ s := by grind
    omega
  have hn := Int.mul_nonneg r0 (Int.le_of_lt p0)
  have eL : IntKind.u64.wrap (x * 2 ^ s) = rest * 2 ^ s := by
    refine wrap_eq top hn (by omega) ?_
    rw [← hx, ← pp]; grind
  have eO : bits .or .u64 z (rest * 2 ^ s) = rest * 2 ^ s + z := by
    have h := or_add hs r0 (by omega) z0 z1
    rw [← h]
    obtain ⟨z, rfl⟩ := Int.eq_ofNat_of_zero_le z0
    obtain ⟨m, hm⟩ := Int.eq_ofNat_of_zero_le hn
    rw [hm] at hl ⊢
    have hz : (z : Int) < B64 := by omega
    have hm2 : (m : Int) < B64 := by omega
    unfold B64 at hz hm2
    rw [u64_or_nat _ _ (by omega) (by omega), u64_or_nat _ _ (by omega) (by omega), Nat.or_comm]
  refine ⟨rest * 2 ^ s + z, top, by rw [eL]; exact eO, e2, by omega, by omega, t0, t1, ?_⟩
  rw [← hx, ← pp]; grind

theorem LeftInv.step {xs zs : List Int} {s k : Nat} {v1 v2 : Int} (h : LeftInv xs zs s k) (hs : s ≤ 63) (hk : k < xs.length) (a0 : 0 ≤ v1) (a1 : v1 < B64) (b0 : 0 ≤ v2) (b1 : v2 < 2 ^ s)
    (he : v1 + B64 * v2 = zs.getD k 0 + xs.getD k 0 * 2 ^ s) : LeftInv xs ((zs.set k v1).set (k + 1) v2) s (k + 1) := by
  have hl := h.len
  have hp : (2 : Int) ^ s < B64 := by
    have h1 : (2 : Int) ^ s ≤ 2 ^ 63 := pow_le_pow (by decide) hs
    have h2 : (2 : Int) ^ 63 < B64 := by unfold B64; decide
    omega
  refine ⟨by simp; omega, (h.dig.set _ a0 a1).set _ b0 (by omega), ?_, fun j hj => ?_, ?_⟩
  · rw [Limbs.getD_set_eq _ _ _ (by simp; omega)]; exact b1
  · rw [Limbs.getD_set_ne _ _ _ _ (by omega), Limbs.getD_set_ne _ _ _ _ (by omega)]; exact h.top j (by omega)
  · have e1 := h.eqn
    rw [val_take_succ B64 zs k (by omega)] at e1
    rw [val_take_set B64 v2 (zs.set k v1) (k + 1) (by simp; omega), val_take_set B64 v1 zs k (by omega), val_take_succ B64 xs k hk, Int.pow_succ]
    have h3 : B64 ^ k * (v1 + B64 * v2) = B64 ^ k * (zs.getD k 0 + xs.getD k 0 * 2 ^ s) := by rw [he]
    grind

/-- What left answers. -/
def LeftPost (xs : List Int) (s : Nat) (w : World) (e : Ending) (w' : World) : Prop :=
  ∃ (g : Nat) (zs : List Int), e = .returned (.slice (some ⟨g, 0, none⟩) (xs.length + 1) (xs.length + 1)) ∧ Arr w' g zs ∧ w.heap.size ≤ g ∧ LeftInv xs zs s xs.length ∧ Ext w w'

set_option maxHeartbeats 2000000 in
theorem left_any {w : World} {A : Option Addr} {c : Nat} {xs : List Int} {s : Nat} (hc : xs.length ≤ c) (hr : U.C w A xs.length xs) (hx : Dig B64 xs) (hl : xs.length + 1 ≤ 35184372088832) (hs : s ≤ 63) :
    Calls Tryz.prog 196 #[.slice A xs.length c, .int .i64 s] w (LeftPost xs s w) := by
  obtain ⟨O, HO, hmk⟩ := make_words (xs.length + 1) hl
  have ec : ((xs.length + 1 : Nat) : Int) = (xs.length : Int) + 1 := by omega
  rw [ec] at hmk
  clear ec
  have hA0 : Arr (w.alloc O) w.heap.size (List.replicate (xs.length + 1) 0) := by rw [HO.out]; exact Arr.new w _
  have hE0 : Ext w (w.alloc O) := Ext.alloc w O
  have hI0 := LeftInv.start xs s
  go_enter Tryz.func196, Tryz.ntmps196
  go_wp2_with fail
  go_loopw [14] (fun ix wr => ∃ (k : Nat) (zs : List Int), ix = .int .i64 k ∧ k ≤ xs.length ∧ LeftInv xs zs s k ∧ Arr wr w.heap.size zs ∧ Ext w wr) (fun ix _ => xs.length - (intOf ix).toNat)
  case atStart => exact ⟨0, _, rfl, Nat.zero_le _, hI0, hA0, hE0⟩
  case round =>
    clear hmk hA0 hE0 hI0 HO
    obtain ⟨k, zs, rfl, hk, hI, hA, hE⟩ := hrel
    have hzl := hI.len
    by_cases hkl : k < xs.length
    · obtain ⟨ad, rfl, hcell⟩ := Kd.at_int hr (k : Int) (by omega) (by omega)
      have hcx : wr.cell? (ad.add k) = some (.int .u64 (xs.getD k 0)) := hE.cell hcell
      clear hcell
      have dx := hx.get k B64_pos
      obtain ⟨x, hxx⟩ : ∃ x, Hid (x = xs.getD k 0) := ⟨_, Lib.hid rfl⟩
      rw [← hxx.out] at hcx dx
      have hco := hA.cell k (by omega)
      have hfo := hA.free k
      have dz := hI.dig.get k B64_pos
      have sz := hI.small
      obtain ⟨z, hz⟩ : ∃ z, Hid (z = zs.getD k 0) := ⟨_, Lib.hid rfl⟩
      rw [← hz.out] at hco dz sz
      obtain ⟨v1, v2, e1, e2, a0, a1, b0, b1, he⟩ := left_words hs dx.1 dx.2 dz.1 sz
      have hI' : LeftInv xs ((zs.set k v1).set (k + 1) v2) s (k + 1) := hI.step hs hkl a0 a1 b0 b1 (by rw [← hxx.out, ← hz.out]; exact he)
      have hA1 := hA.set k v1
      have hco2 := hA1.cell (k + 1) (by simp; omega)
      have hfo2 := hA1.free (k + 1)
      obtain ⟨z2, hz2⟩ : ∃ z2, Hid (z2 = (zs.set k v1).getD (k + 1) 0) := ⟨_, Lib.hid rfl⟩
      rw [← hz2.out] at hco2
      have hA2 := hA1.set (k + 1) v2
      have hE' : Ext w ((wr.setCell ⟨w.heap.size, k, none⟩ (.int .u64 v1)).setCell ⟨w.heap.size, k + 1, none⟩ (.int .u64 v2)) := Below.setCell (Below.setCell hE (Nat.le_refl _) _) (Nat.le_refl _) _
      clear hI hA hE hxx hz hz2 hzl dx dz sz he a0 a1 b0 b1 hA1
      go_wp2
      go_region
      go_wp2
      go_roundw
      case rel => exact ⟨k + 1, _, by go_num, by omega, hI', hA2, below_drew hE'⟩
      case measure => simp [intOf]; omega
    · obtain rfl : k = xs.length := by omega
      clear hr hx
      go_wp2
      go_ret
      exact ⟨_, zs, rfl, hA, Nat.le_refl _, hI, hE⟩
end Go.Proofs.YtdlcleecjeipnaaGreatDoor
