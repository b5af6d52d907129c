/- Part 2 of a proof that a law of the program answers true for every input. -/
import Derived.Test.YtcjbghmhdefdiaaProg
import Derived.Below
import Derived.Deep.Draws
import Derived.Deep.AppendLies
import Derived.Maps.AppendAt
import Derived.OwnWalk
import Derived.Laws.BytesArg
import Derived.Laws.MakeOwn
import Derived.Laws.OwnMore
import Derived.Deep.OwnRows
import Derived.Tactics
import Derived.Lib.ConvBytes
import Derived.Laws.Slices
import Derived.WalkKit
import Derived.KernelRfl
import Derived.RowKit3
import Derived.Deep.LoopGhost
import Derived.Deep.QuietTactic
import Derived.BigQuiet
import Derived.WideLaws
import Derived.Deep.DeepCutAuto
import Derived.Deep.CutBlock
import Derived.Deep.RegionHeld3
import Derived.Laws.Rows
import Derived.Lib.AppendStr
import Derived.ArgAppend
import Derived.Laws.IdiomCopy
import Derived.OrdersHeld
import Derived.Laws.BitsLemmas
import Derived.RowKit
import Derived.Shelf.Small.Bits
import Derived.Shelf.Strconv.Itoa0
import Derived.Shelf.Sort.Plain
import Derived.Shelf.Slices.Turned
import Derived.Shelf.Slices.Equal
import Derived.Ground.Names2Prog
import Derived.Shelf.Slices.ReverseS
import Derived.Shelf.Slices.Clone
import Derived.Shelf.Slices.CompactS
import Derived.Shelf.Slices.Cells
import Derived.Shelf.Slices.In.SortNone
import Derived.Shelf.Slices.Empties2
import Derived.Shelf.Spec.SlicesGrow
import Derived.Ground.Names8Prog
import Derived.Shelf.SlSortCmp.WholeK
import Derived.Shelf.SlSortCmp.NoneTotal
import Derived.Ground.SlsfProg
import Derived.Sort.OwnSorted
import Derived.Sort.Grow
import Derived.Sort.Walk0
import Derived.Test.YtcjbghmhdefdiaaD1
set_option linter.unusedSimpArgs false
set_option linter.unusedVariables false
namespace Go.Proofs.Ytcjbghmhdefdiaa.S
abbrev tb2_0 : Array Bool := #[false, false, false, false, false, false, false, false, false, false, false, false, false, false, false, false, false, false]
abbrev tb2_1 : Array Bool := #[true, false, false, false, false, false, false, false, false, false, false, false, false, false, false, false, false, false]
abbrev tb2_2 : Array Bool := #[true, false, true, false, false, false, false, false, false, false, false, false, false, false, false, false, false, false]
abbrev tb2_3 : Array Bool := #[true, false, true, false, false, true, false, false, false, false, false, false, false, false, false, false, false, false]
abbrev tb2_4 : Array Bool := #[true, false, true, false, false, true, false, true, false, false, false, false, false, false, false, false, false, false]
abbrev tb2_5 : Array Bool := #[true, false, true, false, false, true, false, true, false, false, true, false, false, false, false, false, false, false]
abbrev tb2_6 : Array Bool := #[true, false, true, false, false, true, false, true, false, false, true, false, true, false, false, false, false, false]
abbrev tb2_7 : Array Bool := #[true, true, true, false, false, true, false, true, false, false, true, false, true, false, false, false, false, false]
abbrev tb2_8 : Array Bool := #[true, true, true, true, false, true, false, true, false, false, true, false, true, false, false, false, false, false]
abbrev tb2_9 : Array Bool := #[true, true, true, true, false, true, true, true, false, false, true, false, true, false, false, false, false, false]
abbrev tb2_10 : Array Bool := #[true, true, true, true, false, true, true, true, true, false, true, false, true, false, false, false, false, false]
abbrev tb2_11 : Array Bool := #[true, true, true, true, false, true, true, true, true, false, true, true, true, false, false, false, false, false]
abbrev tb2_12 : Array Bool := #[true, true, true, true, false, true, true, true, true, false, true, true, true, true, false, false, false, false]
abbrev tb2_13 : Array Bool := #[true, true, true, true, true, true, true, true, true, false, true, true, true, true, false, false, false, false]
abbrev tb2_14 : Array Bool := #[true, true, true, true, true, true, true, true, true, true, true, true, true, true, false, false, false, false]
abbrev tb2_15 : Array Bool := #[true, true, true, true, true, true, true, true, true, true, true, true, true, true, true, false, false, false]
abbrev tb2_16 : Array Bool := #[true, true, true, true, true, true, true, true, true, true, true, true, true, true, true, true, false, false]
abbrev tb2_17 : Array Bool := #[true, true, true, true, true, true, true, true, true, true, true, true, true, true, true, true, true, false]
abbrev tb2_18 : Array Bool := #[true, true, true, true, true, true, true, true, true, true, true, true, true, true, true, true, true, true]
abbrev tb2_19 : Array Bool := #[false, false, false, false, false, false, false, false, false, false, false, false, false, false, false, false, false, false, false, false, false, false, false, false, false, false, false, false, false, false, false, false, false, false, false, false, false, false, false, false]
abbrev tb2_20 : Array Bool := #[true, false, false, false, false, false, false, false, false, false, false, false, false, false, false, false, false, false, false, false, false, false, false, false, false, false, false, false, false, false, false, false, false, false, false, false, false, false, false, false]
abbrev tb2_21 : Array Bool := #[true, true, false, false, false, false, false, false, false, false, false, false, false, false, false, false, false, false, false, false, false, false, false, false, false, false, false, false, false, false, false, false, false, false, false, false, false, false, false, false]
abbrev tb2_22 : Array Bool := #[true, true, true, false, false, false, false, false, false, false, false, false, false, false, false, false, false, false, false, false, false, false, false, false, false, false, false, false, false, false, false, false, false, false, false, false, false, false, false, false]
abbrev tb2_23 : Array Bool := #[true, true, true, true, false, false, false, false, false, false, false, false, false, false, false, false, false, false, false, false, false, false, false, false, false, false, false, false, false, false, false, false, false, false, false, false, false, false, false, false]
abbrev tb2_24 : Array Bool := #[true, true, true, true, true, false, false, false, false, false, false, false, false, false, false, false, false, false, false, false, false, false, false, false, false, false, false, false, false, false, false, false, false, false, false, false, false, false, false, false]
abbrev tb2_25 : Array Bool := #[true, true, true, true, true, true, false, false, false, false, false, false, false, false, false, false, false, false, false, false, false, false, false, false, false, false, false, false, false, false, false, false, false, false, false, false, false, false, false, false]
abbrev tb2_26 : Array Bool := #[true, true, true, true, true, true, true, false, false, false, false, false, false, false, false, false, false, false, false, false, false, false, false, false, false, false, false, false, false, false, false, false, false, false, false, false, false, false, false, false]
abbrev tb2_27 : Array Bool := #[true, true, true, true, true, true, true, true, false, false, false, false, false, false, false, false, false, false, false, false, false, false, false, false, false, false, false, false, false, false, false, false, false, false, false, false, false, false, false, false]
abbrev tb2_28 : Array Bool := #[true, true, true, true, true, true, true, true, true, false, false, false, false, false, false, false, false, false, false, false, false, false, false, false, false, false, false, false, false, false, false, false, false, false, false, false, false, false, false, false]
abbrev tb2_29 : Array Bool := #[true, true, true, true, true, true, true, true, true, true, false, false, false, false, false, false, false, false, false, false, false, false, false, false, false, false, false, false, false, false, false, false, false, false, false, false, false, false, false, false]
abbrev tb2_30 : Array Bool := #[true, true, true, true, true, true, true, true, true, true, true, false, false, false, false, false, false, false, false, false, false, false, false, false, false, false, false, false, false, false, false, false, false, false, false, false, false, false, false, false]
abbrev tb2_31 : Array Bool := #[true, true, true, true, true, true, true, true, true, true, true, true, false, false, false, false, false, false, false, false, false, false, false, false, false, false, false, false, false, false, false, false, false, false, false, false, false, false, false, false]
abbrev tb2_32 : Array Bool := #[true, true, true, true, true, true, true, true, true, true, true, true, true, false, false, false, false, false, false, false, false, false, false, false, false, false, false, false, false, false, false, false, false, false, false, false, false, false, false, false]
abbrev tb2_33 : Array Bool := #[true, true, true, true, true, true, true, true, true, true, true, true, true, true, false, false, false, false, false, false, false, false, false, false, false, false, false, false, false, false, false, false, false, false, false, false, false, false, false, false]
abbrev tb2_34 : Array Bool := #[true, true, true, true, true, true, true, true, true, true, true, true, true, true, true, false, false, false, false, false, false, false, false, false, false, false, false, false, false, false, false, false, false, false, false, false, false, false, false, false]
abbrev tb2_35 : Array Bool := #[true, true, true, true, true, true, true, true, true, true, true, true, true, true, true, true, false, false, false, false, false, false, false, false, false, false, false, false, false, false, false, false, false, false, false, false, false, false, false, false]
abbrev tb2_36 : Array Bool := #[true, true, true, true, true, true, true, true, true, true, true, true, true, true, true, true, true, false, false, false, false, false, false, false, false, false, false, false, false, false, false, false, false, false, false, false, false, false, false, false]
abbrev tb2_37 : Array Bool := #[true, true, true, true, true, true, true, true, true, true, true, true, true, true, true, true, true, true, false, false, false, false, false, false, false, false, false, false, false, false, false, false, false, false, false, false, false, false, false, false]
abbrev tb2_38 : Array Bool := #[true, true, true, true, true, true, true, true, true, true, true, true, true, true, true, true, true, true, true, false, false, false, false, false, false, false, false, false, false, false, false, false, false, false, false, false, false, false, false, false]
abbrev tb2_39 : Array Bool := #[true, true, true, true, true, true, true, true, true, true, true, true, true, true, true, true, true, true, true, false, true, false, false, false, false, false, false, false, false, false, false, false, false, false, false, false, false, false, false, false]
abbrev tb2_40 : Array Bool := #[true, true, true, true, true, true, true, true, true, true, true, true, true, true, true, true, true, true, true, true, true, false, false, false, false, false, false, false, false, false, false, false, false, false, false, false, false, false, false, false]
abbrev tb2_41 : Array Bool := #[true, true, true, true, true, true, true, true, true, true, true, true, true, true, true, true, true, true, true, true, true, true, false, false, false, false, false, false, false, false, false, false, false, false, false, false, false, false, false, false]
abbrev tb2_42 : Array Bool := #[true, true, true, true, true, true, true, true, true, true, true, true, true, true, true, true, true, true, true, true, true, true, true, false, false, false, false, false, false, false, false, false, false, false, false, false, false, false, false, false]
abbrev tb2_43 : Array Bool := #[true, true, true, true, true, true, true, true, true, true, true, true, true, true, true, true, true, true, true, true, true, true, true, true, false, false, false, false, false, false, false, false, false, false, false, false, false, false, false, false]
abbrev tb2_44 : Array Bool := #[true, true, true, true, true, true, true, true, true, true, true, true, true, true, true, true, true, true, true, true, true, true, true, true, true, false, false, false, false, false, false, false, false, false, false, false, false, false, false, false]
abbrev tb2_45 : Array Bool := #[true, true, true, true, true, true, true, true, true, true, true, true, true, true, true, true, true, true, true, true, true, true, true, true, true, true, false, false, false, false, false, false, false, false, false, false, false, false, false, false]
abbrev tb2_46 : Array Bool := #[true, true, true, true, true, true, true, true, true, true, true, true, true, true, true, true, true, true, true, true, true, true, true, true, true, true, true, false, false, false, false, false, false, false, false, false, false, false, false, false]
abbrev tb2_47 : Array Bool := #[true, true, true, true, true, true, true, true, true, true, true, true, true, true, true, true, true, true, true, true, true, true, true, true, true, true, true, true, false, false, false, false, false, false, false, false, false, false, false, false]
abbrev tb2_48 : Array Bool := #[true, true, true, true, true, true, true, true, true, true, true, true, true, true, true, true, true, true, true, true, true, true, true, true, true, true, true, true, true, false, false, false, false, false, false, false, false, false, false, false]
abbrev tb2_49 : Array Bool := #[true, true, true, true, true, true, true, true, true, true, true, true, true, true, true, true, true, true, true, true, true, true, true, true, true, true, true, true, true, true, false, false, false, false, false, false, false, false, false, false]
abbrev tb2_50 : Array Bool := #[true, true, true, true, true, true, true, true, true, true, true, true, true, true, true, true, true, true, true, true, true, true, true, true, true, true, true, true, true, true, false, true, false, false, false, false, false, false, false, false]
abbrev tb2_51 : Array Bool := #[true, true, true, true, true, true, true, true, true, true, true, true, true, true, true, true, true, true, true, true, true, true, true, true, true, true, true, true, true, true, false, true, true, false, false, false, false, false, false, false]
abbrev tb2_52 : Array Bool := #[true, true, true, true, true, true, true, true, true, true, true, true, true, true, true, true, true, true, true, true, true, true, true, true, true, true, true, true, true, true, true, true, true, false, false, false, false, false, false, false]
abbrev tb2_53 : Array Bool := #[true, true, true, true, true, true, true, true, true, true, true, true, true, true, true, true, true, true, true, true, true, true, true, true, true, true, true, true, true, true, true, true, true, true, false, false, false, false, false, false]
abbrev tb2_54 : Array Bool := #[true, true, true, true, true, true, true, true, true, true, true, true, true, true, true, true, true, true, true, true, true, true, true, true, true, true, true, true, true, true, true, true, true, true, true, false, false, false, false, false]
abbrev tb2_55 : Array Bool := #[true, true, true, true, true, true, true, true, true, true, true, true, true, true, true, true, true, true, true, true, true, true, true, true, true, true, true, true, true, true, true, true, true, true, true, true, false, false, false, false]
abbrev tb2_56 : Array Bool := #[true, true, true, true, true, true, true, true, true, true, true, true, true, true, true, true, true, true, true, true, true, true, true, true, true, true, true, true, true, true, true, true, true, true, true, true, true, false, false, false]
abbrev tb2_57 : Array Bool := #[true, true, true, true, true, true, true, true, true, true, true, true, true, true, true, true, true, true, true, true, true, true, true, true, true, true, true, true, true, true, true, true, true, true, true, true, true, true, false, false]
abbrev tb2_58 : Array Bool := #[true, true, true, true, true, true, true, true, true, true, true, true, true, true, true, true, true, true, true, true, true, true, true, true, true, true, true, true, true, true, true, true, true, true, true, true, true, true, true, false]
abbrev tb2_59 : Array Bool := #[true, true, true, true, true, true, true, true, true, true, true, true, true, true, true, true, true, true, true, true, true, true, true, true, true, true, true, true, true, true, true, true, true, true, true, true, true, true, true, true]
abbrev tb2_60 : Array Bool := #[true, true, true, true, true, true, true, true, true, true, true, true, true, true, true, true, true, true, true, true, false, false, false, false, false, false, false, false, false, false, false, false, false, false, false, false, false, false, false, false]
abbrev tb2_61 : Array Bool := #[true, true, true, true, true, true, true, true, true, true, true, true, true, true, true, true, true, true, true, true, true, true, true, true, true, true, true, true, true, true, true, false, false, false, false, false, false, false, false, false]
abbrev tb2_62 : Array Bool := #[true, true, true, true, true, true, true, true, true, true, true, true, true, true, true, true, true, true, true, true, true, true, true, true, true, true, true, true, true, true, true, true, false, false, false, false, false, false, false, false]
end Go.Proofs.Ytcjbghmhdefdiaa.S
namespace Go.Proofs.Ytcjbghmhdefdiaa.S
theorem sA {α : Type} (l : List α) (i : Nat) (a : α) : l.toArray.setIfInBounds i a = (l.set i a).toArray := by simp
theorem sB {α : Type} (x : α) (l : List α) (a : α) : (x :: l).set 0 a = a :: l := rfl
theorem sC {α : Type} (x : α) (l : List α) (i : Nat) (a : α) : (x :: l).set (i + 1) a = x :: l.set i a := rfl
end Go.Proofs.Ytcjbghmhdefdiaa.S
namespace Go.Proofs.Ytcjbghmhdefdiaa.S
open Go.RowKit Go.Proofs.YtcjbghmhdefdiaaW.PrintWords Go.Proofs.YtcjbghmhdefdiaaW.PrintLast Go.Proofs.YtcjbghmhdefdiaaW.PrintMore
attribute [local go_sem] vW vZ zi zk vL vK vY vV
set_option linter.unusedVariables false
set_option linter.unusedSimpArgs false
theorem info3 : (Try.prog.info? 3).map (fun i => (i.zero, i.size, i.bytes)) = some (some (.int .i64 0), 1, 8) := by kernel_rfl
theorem info4 : (Try.prog.info? 4).map (fun i => (i.zero, i.size, i.bytes)) = some (some (.bool false), 1, 1) := by kernel_rfl
theorem info9 : (Try.prog.info? 9).map (fun i => (i.zero, i.size, i.bytes)) = some (some (.string ⟨#[]⟩), 1, 16) := by kernel_rfl
theorem zZ : (Try.prog.info? 55).map (fun i => (i.zero, i.size, i.bytes)) = some (some (.agg #[(.int .i64 0), (.int .i64 0), (.int .i64 0)]), 3, 24) := by kernel_rfl
structure S55 where
 f0 : Int
 f1 : Int
 f2 : Int
def z55 : S55 := ⟨(0 : Int), (0 : Int), (0 : Int)⟩
def k55 : Kd S55 := Kd.iso (Kd.pair (Kd.int .i64) (Kd.pair (Kd.int .i64) (Kd.int .i64))) (fun x : S55 => (x.f0, x.f1, x.f2))
theorem yL : Kd.Heap k55 := Kd.heap_iso _ (Kd.kR (Kd.kw .i64) (Kd.kR (Kd.kw .i64) (Kd.kw .i64)))
theorem yQ {w : World} {x : S55} {cs : List Value} (h : k55.K w x cs) : cs = [.int .i64 x.f0, .int .i64 x.f1, .int .i64 x.f2] := by
 obtain ⟨_, _, rfl, rfl, ⟨_, _, rfl, rfl, rfl⟩⟩ := h
 exact rfl
theorem kZ {w : World} {base : Nat} {ok : Nat → Prop} {x : S55} {cs : List Value} (h : k55.M w base ok x cs) : cs = [.int .i64 x.f0, .int .i64 x.f1, .int .i64 x.f2] := by
 obtain ⟨_, _, rfl, rfl, ⟨_, _, rfl, rfl, rfl⟩⟩ := h
 exact rfl
theorem k55_mk (w : World) (x : S55)  : k55.K w x [.int .i64 x.f0, .int .i64 x.f1, .int .i64 x.f2] := ⟨[.int .i64 x.f0], [.int .i64 x.f1, .int .i64 x.f2], rfl, rfl, ⟨[.int .i64 x.f1], [.int .i64 x.f2], rfl, rfl, rfl⟩⟩
theorem wm (w : World) (base : Nat) (ok : Nat → Prop) (x : S55)  : k55.M w base ok x [.int .i64 x.f0, .int .i64 x.f1, .int .i64 x.f2] := ⟨[.int .i64 x.f0], [.int .i64 x.f1, .int .i64 x.f2], rfl, rfl, ⟨[.int .i64 x.f1], [.int .i64 x.f2], rfl, rfl, rfl⟩⟩
def qc (xs : List S55) (i : Int) : S55 := xs.getD i.toNat z55
theorem vU {w : World} {A : Option Addr} {n : Nat} {xs : List S55} (h : Kd.C k55 w A n xs) (i : Int) (h0 : 0 ≤ i) (h1 : i < n) : ∃ ad , A = some ad ∧ w.cell? (ad.add (i.toNat * 3)) = some (.int .i64 (qc xs i).f0) ∧ w.cell? ⟨(ad.add (i.toNat * 3)).block, (ad.add (i.toNat * 3)).off + 1, none⟩ = some (.int .i64 (qc xs i).f1) ∧ w.cell? ⟨(ad.add (i.toNat * 3)).block, (ad.add (i.toNat * 3)).off + 2, none⟩ = some (.int .i64 (qc xs i).f2) := by
 obtain ⟨ad, c, e, _, hK, hc0⟩ := Kd.C_get h z55 i h0 h1
 have hc : ∀ j u, c[j]? = some u → w.cell? (ad.add (i.toNat * 3 + j)) = some u := hc0
 obtain rfl := yQ hK
 exact ⟨ad, e, hc 0 _ rfl, by rw [← kU _ _ 1 (by omega)]; exact hc 1 _ rfl, by rw [← kU _ _ 2 (by omega)]; exact hc 2 _ rfl⟩
def jB (xs : List (List ByteArray)) (i : Int) : (List ByteArray) := xs.getD i.toNat ([] : List ByteArray)
theorem at_L3 {w : World} {A : Option Addr} {n : Nat} {xs : List (List ByteArray)} (h : Kd.C (Kd.slice 9 Kd.string) w A n xs) (i : Int) (h0 : 0 ≤ i) (h1 : i < n) : ∃ ad A0 c0, A = some ad ∧ w.cell? (ad.add i.toNat) = some (.slice A0 (jB xs i).length c0) ∧ (jB xs i).length ≤ c0 ∧ Kd.string.C w A0 (jB xs i).length (jB xs i) := by
 obtain ⟨ad, c, e, _, hK, hc0⟩ := Kd.C_get h ([] : List ByteArray) i h0 h1
 have hc : ∀ j u, c[j]? = some u → w.cell? (ad.add (i.toNat * 1 + j)) = some u := hc0
 obtain ⟨A0, c0, rfl, l0, g0⟩ := hK
 exact ⟨ad, A0, c0, e, by have hq := hc 0 _ rfl; rwa [Nat.mul_one, Nat.add_zero] at hq, l0, g0⟩
structure S25 where
 f0 : Int
 f1 : (List ByteArray)
 f2 : (List S55)
def z25 : S25 := ⟨(0 : Int), ([] : List ByteArray), ([] : List S55)⟩
structure S172 where
 f0 : (List Int)
 f1 : (List Int)
 f2 : (List ByteArray)
end Go.Proofs.Ytcjbghmhdefdiaa.S
namespace Go.Proofs.Ytcjbghmhdefdiaa.S
open Go.RowKit Go.Proofs.YtcjbghmhdefdiaaW.PrintWords Go.Proofs.YtcjbghmhdefdiaaW.PrintLast Go.Proofs.YtcjbghmhdefdiaaW.PrintMore
variable {P : Program} {ops : Array Oper} {Q : Exit → Act → World → Prop}
theorem j5 {oi : Oper} {N : Option Tmp} {a : Act} {w : World} {K : Act → World → Prop} {f : FuncId} {fn : Func} {ars : Array Operand} {ts : Array TypeId} {x : Operand} {caps : Array Value} (hf : P.funcs[f]? = some fn) (hname : (fn.name == "runtime.NumGoroutine") = false) (hb : fn.body.isSome = true) (args : Array Value)
  (hw : Region.wanted oi (yielded ops a.tmps) = true) (hN : oi.dst = N) (hop : oi.op = .call { callee := .value x, args := ars, argTypes := ts }) (hx : a.eval x = .func (.func f) #[] caps) (hargs : ars.map a.eval ++ caps = args)
  (h : Calls P f args w fun e w' => ∃ v, e = .returned v ∧ K (a.put N v) w') : if Region.wanted oi (yielded ops a.tmps) = true then Oper.wp P oi a w K Q else K (a.put N undef) w := by
 refine call_ f args hw hN ?_ h
 have he := xP hf hname hb args w
 unfold execOp
 simp [hop, resolve, Deferred.ofValue, invoke, hx, hargs, he]
theorem xL {rest : List Oper} {oi : Oper} {a : Act} {w : World} (N : Option Tmp) (hd : oi.dst = N) (hg : oi.guard = none) {f : FuncId} {fn : Func} {ars : Array Operand} {ts : Array TypeId} {x : Operand} {caps : Array Value} (hf : P.funcs[f]? = some fn) (hname : (fn.name == "runtime.NumGoroutine") = false) (hb : fn.body.isSome = true) (args : Array Value)
  (hop : oi.op = .call { callee := .value x, args := ars, argTypes := ts }) (hx : a.eval x = .func (.func f) #[] caps) (hargs : ars.map a.eval ++ caps = args)
  (h : Calls P f args w fun e w' => ∃ v, e = .returned v ∧ wpList P ops Q rest (a.put N v) w') : wpList P ops Q (oi :: rest) a w := by
 refine wpList_plain hg fun K hK => ?_
 have h1 := j5 (ops := ops) (oi := oi) (N := N) (K := K) (Q := Q) hf hname hb args (by simp [Region.wanted, hg]) hd hop hx hargs (h.mono fun e w' ⟨v, he, hk⟩ => ⟨v, he, hK _ _ hk⟩)
 rwa [if_pos (by simp [Region.wanted, hg])] at h1
theorem wL {rest : List Oper} {o : Oper} {a : Act} {w : World} {f : FuncId} {t : Tmp} {x y : Array Value} {ars : Array Operand} {ts : Array TypeId} (_ho : o.op = .call { callee := .value (.tmp t), args := ars, argTypes := ts }) (_hx : a.eval (.tmp t) = .func (.func f) x y) (h : wpList P ops Q (o :: rest) a w) : wpList P ops Q (o :: rest) a w := h
end Go.Proofs.Ytcjbghmhdefdiaa.S
namespace Go.Proofs.Ytcjbghmhdefdiaa.S
open Go.RowKit Go.Proofs.YtcjbghmhdefdiaaW.PrintWords Go.Proofs.YtcjbghmhdefdiaaW.PrintLast Go.Proofs.YtcjbghmhdefdiaaW.PrintMore
set_option linter.unusedVariables false
set_option maxRecDepth 100000 in
theorem xI (i n : Int) (g : Nat) (w : World) (hc : w.cell? ⟨g, 0, none⟩ = some (.int .i64 n)) :
  Calls Try.prog 130 #[.int .i64 i, .pointer (some ⟨g, 0, none⟩)] w fun e w' => e = .returned (.bool (decide (0 ≤ i) && decide (i < n))) ∧ w = w' := by
 have hu25 := Try.underlying25
 by_cases h : 0 ≤ i
 ·have b : decide (0 ≤ i) = true := decide_eq_true h
  go_enter Try.func130, Try.ntmps130
  go_wp2
  go_ret
  exact ⟨by simp [b], rfl⟩
 ·have b : decide (0 ≤ i) = false := decide_eq_false h
  go_enter Try.func130, Try.ntmps130
  go_wp2
  go_ret
  exact ⟨by simp [b], rfl⟩
end Go.Proofs.Ytcjbghmhdefdiaa.S
namespace Go.Proofs.Ytcjbghmhdefdiaa.S
open Go.RowKit Go.Proofs.YtcjbghmhdefdiaaW.PrintWords Go.Proofs.YtcjbghmhdefdiaaW.PrintLast Go.Proofs.YtcjbghmhdefdiaaW.PrintMore
attribute [local go_sem] vW vZ zi zk vL vK vY vV
set_option linter.unusedVariables false
set_option linter.unusedSimpArgs false
def qF.l0 : Nat → List ByteArray → List ByteArray → Int → Int → Option (Bool)
 | 0, _, _, _, _ => none
 | k + 1, x0, x1, x12, x13 => if x13 < x12 then (if 0 ≤ x13 then (if x13 < (x0.length : Int) then (if x13 < (x1.length : Int) then (if (rdOf ByteArray.empty x0 x13).toList = (rdOf ByteArray.empty x1 x13).toList then (qF.l0 k x0 x1 x12 (wrap64 (x13 + 1))) else (some false)) else (none)) else (none)) else (none)) else (some true)
def qF.f (k : Nat) (l0 : List ByteArray) (l1 : List ByteArray) : Option (Bool) := if (l0.length : Int) = (l1.length : Int) then (qF.l0 k l0 l1 (l0.length : Int) 0) else (some false)
theorem qF.zA : ∀ k, (∀ y0 y1 y2 y3, LeO (qF.l0 k y0 y1 y2 y3) (qF.l0 (k + 1) y0 y1 y2 y3))
 | 0 => fun _ _ _ _ r h => by simp [qF.l0] at h
 | k + 1 => by
  have ih0 := qF.zA k
  ·intro y0 y1 y2 y3
   unfold qF.l0
   repeat' first
   | (with_reducible exact ih0 _ _ _ _)
   | (with_reducible exact LeO.refl _)
   | (with_reducible exact LeO.none _)
   | (with_reducible refine LeO.ite ?_ ?_)
   | (with_reducible refine LeO.bind ?_ (fun _ => ?_))
   | exact ih0 _ _ _ _
   | exact LeO.none _
   | refine LeO.ite ?_ ?_
   | refine LeO.bind ?_ (fun _ => ?_)
theorem qF.mono : ∀ a0 a1 k, LeO (qF.f k a0 a1) (qF.f (k + 1) a0 a1) := by
 intro a0 a1 k
 have ih0 := qF.zA k
 unfold qF.f
 repeat' first
   | (with_reducible exact ih0 _ _ _ _)
   | (with_reducible exact LeO.refl _)
   | (with_reducible exact LeO.none _)
   | (with_reducible refine LeO.ite ?_ ?_)
   | (with_reducible refine LeO.bind ?_ (fun _ => ?_))
   | exact ih0 _ _ _ _
   | exact LeO.none _
   | refine LeO.ite ?_ ?_
   | refine LeO.bind ?_ (fun _ => ?_)
set_option maxHeartbeats 8000000 in
set_option maxRecDepth 100000 in
theorem qF.calls (k : Nat) (A0 : Option Addr) (c0 : Nat) (l0 : List ByteArray) (A1 : Option Addr) (c1 : Nat) (l1 : List ByteArray) (r : Bool) (w : World) (hr0 : Kd.C Kd.string w A0 l0.length l0) (hc0 : l0.length ≤ c0) (hr1 : Kd.C Kd.string w A1 l1.length l1) (hc1 : l1.length ≤ c1) (h : qF.f k l0 l1 = some r) :
  Calls Try.prog 141 #[.slice A0 l0.length c0, .slice A1 l1.length c1] w fun e w' => e = .returned (.bool r) ∧ ve w w' := by
 have HR0 := qa.mk hr0
 have HC0 := qa.mk hc0
 clear hr0 hc0
 have HR1 := qa.mk hr1
 have HC1 := qa.mk hc1
 clear hr1 hc1
 have H : (if (l0.length : Int) = (l1.length : Int) then (qF.l0 k l0 l1 (l0.length : Int) 0) else (some false)) = some r := h
 clear h
 by_cases c3 : (l0.length : Int) = (l1.length : Int)
 ·rw [if_pos c3] at H
  have c3b0 : ((l0.length : Int) == (l1.length : Int)) = true := beq_iff_eq.mpr c3
  have c3b1 : ((l0.length : Int) != (l1.length : Int)) = false := bne_eq_false_iff_eq.mpr c3
  have c3b2 : (l0.length == l1.length) = true := by first | simpa using c3 | (simp at c3 ⊢; omega)
  clear c3
  have H' := qa.mk H
  clear H
  go_enter Try.func141, Try.ntmps141
  go_wp2
  repeat (go_quiet (fail); try go_wp2)
  go_loopg [13] k (fun kq v13 w' => ∃ (x13_1 : Int), v13 = .int .i64 x13_1 ∧ qa (qF.l0 kq l0 l1 (l0.length : Int) x13_1 = some r) ∧ qa (kq ≤ k) ∧ ve w w')
  case atStart => exact ⟨(0), (by first | rfl | (simp; done) | (simp [*]; done)), H', ⟨Nat.le_refl _⟩, by repeat (first | exact ve.refl _ | apply ve.step)⟩
  case round =>
   clear H'
   try clear c1
   try clear p2
   try clear c3
   try clear c3b0
   try clear c3b1
   try clear c3b2
   obtain ⟨x13_1, rfl, HA, HK1, ⟨m1, rfl⟩⟩ := hrel
   cases gk with
   | zero => exact absurd HA.out (by simp [qF.l0])
   | succ k1 =>
    have H := HA.out
    clear HA
    simp only [qF.l0] at H
    by_cases c4 : x13_1 < (l0.length : Int)
    ·rw [if_pos c4] at H
     have c4b0 : decide (x13_1 < (l0.length : Int)) = true := decide_eq_true c4
     clear c4
     by_cases c5 : 0 ≤ x13_1
     ·rw [if_pos c5] at H
      have c5b0 : decide (0 ≤ x13_1) = true := decide_eq_true c5
      clear c5
      by_cases c6 : x13_1 < (l0.length : Int)
      ·rw [if_pos c6] at H
       have c6b0 : decide (x13_1 < (l0.length : Int)) = true := decide_eq_true c6
       clear c6
       by_cases c7 : x13_1 < (l1.length : Int)
       ·rw [if_pos c7] at H
        have c7b0 : decide (x13_1 < (l1.length : Int)) = true := decide_eq_true c7
        clear c7
        by_cases c8 : (rdOf ByteArray.empty l0 x13_1).toList = (rdOf ByteArray.empty l1 x13_1).toList
        ·rw [if_pos c8] at H
         have c8b0 : ((rdOf ByteArray.empty l0 x13_1).toList == (rdOf ByteArray.empty l1 x13_1).toList) = true := beq_iff_eq.mpr c8
         have c8b1 : ((rdOf ByteArray.empty l0 x13_1).toList != (rdOf ByteArray.empty l1 x13_1).toList) = false := bne_eq_false_iff_eq.mpr c8
         clear c8
         have H' := qa.mk H
         clear H
         have p259 : 0 ≤ (x13_1 : Int) := of_decide_eq_true (by first | (with_reducible assumption) | assumption)
         have q259 : x13_1 < (l0.length : Int) := of_decide_eq_true (by first | (with_reducible assumption) | assumption)
         obtain ⟨ad259, e259, hx259_0⟩ := Kd.zy HR0.out x13_1 p259 q259
         cases e259
         replace p259 := eq_true p259
         replace q259 := eq_true q259
         have p260 : 0 ≤ (x13_1 : Int) := of_decide_eq_true (by first | (with_reducible assumption) | assumption)
         have q260 : x13_1 < (l1.length : Int) := of_decide_eq_true (by first | (with_reducible assumption) | assumption)
         obtain ⟨ad260, e260, hx260_0⟩ := Kd.zy HR1.out x13_1 p260 q260
         cases e260
         replace p260 := eq_true p260
         replace q260 := eq_true q260
         go_wp2
         repeat (go_quiet (fail); try go_wp2)
         go_roundg k1
         case measure => have := HK1.out; omega
         case rel => exact ⟨(wrap64 (x13_1 + 1)), (by first | rfl | (simp; done) | (simp [*]; done)), H', ⟨by have := HK1.out; omega⟩, by repeat (first | exact ve.refl _ | apply ve.step)⟩
        ·rw [if_neg c8] at H
         have c8b0 : ((rdOf ByteArray.empty l0 x13_1).toList == (rdOf ByteArray.empty l1 x13_1).toList) = false := beq_eq_false_iff_ne.mpr c8
         have c8b1 : ((rdOf ByteArray.empty l0 x13_1).toList != (rdOf ByteArray.empty l1 x13_1).toList) = true := bne_iff_ne.mpr c8
         obtain rfl := Option.some.inj H
         have p259 : 0 ≤ (x13_1 : Int) := of_decide_eq_true (by first | (with_reducible assumption) | assumption)
         have q259 : x13_1 < (l0.length : Int) := of_decide_eq_true (by first | (with_reducible assumption) | assumption)
         obtain ⟨ad259, e259, hx259_0⟩ := Kd.zy HR0.out x13_1 p259 q259
         cases e259
         replace p259 := eq_true p259
         replace q259 := eq_true q259
         have p260 : 0 ≤ (x13_1 : Int) := of_decide_eq_true (by first | (with_reducible assumption) | assumption)
         have q260 : x13_1 < (l1.length : Int) := of_decide_eq_true (by first | (with_reducible assumption) | assumption)
         obtain ⟨ad260, e260, hx260_0⟩ := Kd.zy HR1.out x13_1 p260 q260
         cases e260
         replace p260 := eq_true p260
         replace q260 := eq_true q260
         go_wp2
         repeat (go_quiet (fail); try go_wp2)
         go_ret
         exact ⟨by first | rfl | (simp; done) | (simp [*]; done), by repeat (first | exact ve.refl _ | apply ve.step)⟩
       ·rw [if_neg c7] at H
        exact absurd H (by simp)
      ·rw [if_neg c6] at H
       exact absurd H (by simp)
     ·rw [if_neg c5] at H
      exact absurd H (by simp)
    ·rw [if_neg c4] at H
     have c4b0 : decide (x13_1 < (l0.length : Int)) = false := decide_eq_false c4
     clear c4
     obtain rfl := Option.some.inj H
     go_wp2
     repeat (go_quiet (fail); try go_wp2)
     go_ret
     exact ⟨by first | rfl | (simp; done) | (simp [*]; done), by repeat (first | exact ve.refl _ | apply ve.step)⟩
 ·rw [if_neg c3] at H
  have c3b0 : ((l0.length : Int) == (l1.length : Int)) = false := beq_eq_false_iff_ne.mpr c3
  have c3b1 : ((l0.length : Int) != (l1.length : Int)) = true := bne_iff_ne.mpr c3
  have c3b2 : (l0.length == l1.length) = false := by first | simpa using c3 | (simp at c3 ⊢; omega)
  obtain rfl := Option.some.inj H
  go_enter Try.func141, Try.ntmps141
  go_wp2
  repeat (go_quiet (fail); try go_wp2)
  go_ret
  exact ⟨by first | rfl | (simp; done) | (simp [*]; done), by repeat (first | exact ve.refl _ | apply ve.step)⟩
attribute [local go_sem] vW vZ zi zk vL vK vY vV
set_option linter.unusedVariables false
set_option linter.unusedSimpArgs false
def z8.f (a0 : ByteArray) : Option (Bool) := some (decide ((a0.size : Int) > 200))
set_option maxHeartbeats 8000000 in
set_option maxRecDepth 100000 in
theorem z8.calls (a0 : ByteArray) (r : Bool) (w : World) (h : z8.f a0 = some r) :
  Calls Try.prog 166 #[.string a0] w fun e w' => e = .returned (.bool r) ∧ ve w w' := by
 have H : (some (decide ((a0.size : Int) > 200))) = some r := h
 clear h
 obtain rfl := Option.some.inj H
 go_enter Try.func166, Try.ntmps166
 go_wp2
 go_ret
 exact ⟨by first | rfl | (simp; done) | (simp [*]; done), by repeat (first | exact ve.refl _ | apply ve.step)⟩
attribute [local go_sem] vW vZ zi zk vL vK vY vV
set_option linter.unusedVariables false
set_option linter.unusedSimpArgs false
def qC.l0 : Nat → List ByteArray → Int → Int → Option (Int)
 | 0, _, _, _ => none
 | k + 1, x0, x7, x8 => if x8 < x7 then (if 0 ≤ x8 then (if x8 < (x0.length : Int) then ((z8.f (rdOf ByteArray.empty x0 x8)).bind fun t262 => (if t262 = true then (some x8) else (qC.l0 k x0 x7 (wrap64 (x8 + 1))))) else (none)) else (none)) else (some (-1))
def qC.f (k : Nat) (l0 : List ByteArray)  : Option (Int) := qC.l0 k l0 (l0.length : Int) 0
theorem qC.zA : ∀ k, (∀ y0 y1 y2, LeO (qC.l0 k y0 y1 y2) (qC.l0 (k + 1) y0 y1 y2))
 | 0 => fun _ _ _ r h => by simp [qC.l0] at h
 | k + 1 => by
  have ih0 := qC.zA k
  ·intro y0 y1 y2
   unfold qC.l0
   repeat' first
   | (with_reducible exact ih0 _ _ _)
   | (with_reducible exact LeO.refl _)
   | (with_reducible exact LeO.none _)
   | (with_reducible refine LeO.ite ?_ ?_)
   | (with_reducible refine LeO.bind ?_ (fun _ => ?_))
   | exact ih0 _ _ _
   | exact LeO.none _
   | refine LeO.ite ?_ ?_
   | refine LeO.bind ?_ (fun _ => ?_)
theorem qC.mono : ∀ a0 k, LeO (qC.f k a0) (qC.f (k + 1) a0) := by
 intro a0 k
 have ih0 := qC.zA k
 unfold qC.f
 repeat' first
   | (with_reducible exact ih0 _ _ _)
   | (with_reducible exact LeO.refl _)
   | (with_reducible exact LeO.none _)
   | (with_reducible refine LeO.ite ?_ ?_)
   | (with_reducible refine LeO.bind ?_ (fun _ => ?_))
   | exact ih0 _ _ _
   | exact LeO.none _
   | refine LeO.ite ?_ ?_
   | refine LeO.bind ?_ (fun _ => ?_)
set_option maxHeartbeats 8000000 in
set_option maxRecDepth 100000 in
theorem qC.calls (k : Nat) (A0 : Option Addr) (c0 : Nat) (l0 : List ByteArray)  (r : Int) (w : World) (hr0 : Kd.C Kd.string w A0 l0.length l0) (hc0 : l0.length ≤ c0) (h : qC.f k l0 = some r) :
  Calls Try.prog 192 #[.slice A0 l0.length c0, .func (.func 166) #[] #[]] w fun e w' => e = .returned (.int .i64 r) ∧ ve w w' := by
 have HR0 := qa.mk hr0
 have HC0 := qa.mk hc0
 clear hr0 hc0
 have H : (qC.l0 k l0 (l0.length : Int) 0) = some r := h
 clear h
 have H' := qa.mk H
 clear H
 go_enter Try.func192, Try.ntmps192
 go_wp2
 go_loopg [8] k (fun kq v8 w' => ∃ (x8_1 : Int), v8 = .int .i64 x8_1 ∧ qa (qC.l0 kq l0 (l0.length : Int) x8_1 = some r) ∧ qa (kq ≤ k) ∧ ve w w')
 case atStart => exact ⟨(0), (by first | rfl | (simp; done) | (simp [*]; done)), H', ⟨Nat.le_refl _⟩, by repeat (first | exact ve.refl _ | apply ve.step)⟩
 case round =>
  clear H'
  try clear c1
  try clear p2
  obtain ⟨x8_1, rfl, HA, HK1, ⟨m1, rfl⟩⟩ := hrel
  cases gk with
  | zero => exact absurd HA.out (by simp [qC.l0])
  | succ k1 =>
   have H := HA.out
   clear HA
   simp only [qC.l0] at H
   by_cases c3 : x8_1 < (l0.length : Int)
   ·rw [if_pos c3] at H
    have c3b0 : decide (x8_1 < (l0.length : Int)) = true := decide_eq_true c3
    clear c3
    by_cases c4 : 0 ≤ x8_1
    ·rw [if_pos c4] at H
     have c4b0 : decide (0 ≤ x8_1) = true := decide_eq_true c4
     clear c4
     by_cases c5 : x8_1 < (l0.length : Int)
     ·rw [if_pos c5] at H
      have c5b0 : decide (x8_1 < (l0.length : Int)) = true := decide_eq_true c5
      clear c5
      replace H := Option.bind_eq_some_iff.mp H
      obtain ⟨t262, A60, H⟩ := H
      replace H : (if t262 = true then (some x8_1) else (qC.l0 k1 l0 (l0.length : Int) (wrap64 (x8_1 + 1)))) = some r := H
      have A6 := qa.mk A60
      clear A60
      by_cases c7 : t262 = true
      ·subst c7
       have H1 : (some x8_1) = some r := by rw [if_pos rfl] at H; exact H
       clear H
       have H := H1
       clear H1
       obtain rfl := Option.some.inj H
       have p261 : 0 ≤ (x8_1 : Int) := of_decide_eq_true (by first | (with_reducible assumption) | assumption)
       have q261 : x8_1 < (l0.length : Int) := of_decide_eq_true (by first | (with_reducible assumption) | assumption)
       obtain ⟨ad261, e261, hx261_0⟩ := Kd.zy HR0.out x8_1 p261 q261
       cases e261
       replace p261 := eq_true p261
       replace q261 := eq_true q261
       go_wp2_with (first | ((with_reducible refine wL (f := 166) rfl rfl ?_); refine xL (some 16) rfl rfl Try.func166 (by kernel_rfl) rfl #[.string (rdOf ByteArray.empty l0 x8_1)] rfl rfl (by (try simp only [List.map_toArray, List.map_cons, List.map_nil]); first | done | rfl | (simp only [List.length_drop, List.length_take]; rfl)) ?_; (with_reducible refine (z8.calls (rdOf ByteArray.empty l0 x8_1) true _ A6.out).mono ?_); rintro e w' ⟨rfl, ⟨nd, rfl⟩⟩; refine ⟨_, rfl, ?_⟩))
       go_ret
       exact ⟨by first | rfl | (simp; done) | (simp [*]; done), by repeat (first | exact ve.refl _ | apply ve.step)⟩
      ·replace c7 := Bool.eq_false_iff.mpr c7
       subst c7
       have H1 : (qC.l0 k1 l0 (l0.length : Int) (wrap64 (x8_1 + 1))) = some r := by rw [if_neg (show ¬ (false = true) by decide)] at H; exact H
       clear H
       have H := H1
       clear H1
       have H' := qa.mk H
       clear H
       have p261 : 0 ≤ (x8_1 : Int) := of_decide_eq_true (by first | (with_reducible assumption) | assumption)
       have q261 : x8_1 < (l0.length : Int) := of_decide_eq_true (by first | (with_reducible assumption) | assumption)
       obtain ⟨ad261, e261, hx261_0⟩ := Kd.zy HR0.out x8_1 p261 q261
       cases e261
       replace p261 := eq_true p261
       replace q261 := eq_true q261
       go_wp2_with (first | ((with_reducible refine wL (f := 166) rfl rfl ?_); refine xL (some 16) rfl rfl Try.func166 (by kernel_rfl) rfl #[.string (rdOf ByteArray.empty l0 x8_1)] rfl rfl (by (try simp only [List.map_toArray, List.map_cons, List.map_nil]); first | done | rfl | (simp only [List.length_drop, List.length_take]; rfl)) ?_; (with_reducible refine (z8.calls (rdOf ByteArray.empty l0 x8_1) false _ A6.out).mono ?_); rintro e w' ⟨rfl, ⟨nd, rfl⟩⟩; refine ⟨_, rfl, ?_⟩))
       go_roundg k1
       case measure => have := HK1.out; omega
       case rel => exact ⟨(wrap64 (x8_1 + 1)), (by first | rfl | (simp; done) | (simp [*]; done)), H', ⟨by have := HK1.out; omega⟩, by repeat (first | exact ve.refl _ | apply ve.step)⟩
     ·rw [if_neg c5] at H
      exact absurd H (by simp)
    ·rw [if_neg c4] at H
     exact absurd H (by simp)
   ·rw [if_neg c3] at H
    have c3b0 : decide (x8_1 < (l0.length : Int)) = false := decide_eq_false c3
    clear c3
    obtain rfl := Option.some.inj H
    go_wp2
    go_ret
    exact ⟨by first | rfl | (simp; done) | (simp [*]; done), by repeat (first | exact ve.refl _ | apply ve.step)⟩
attribute [local go_sem] vW vZ zi zk vL vK vY vV
set_option linter.unusedVariables false
set_option linter.unusedSimpArgs false
def qP.f (k : Nat) (l0 : List ByteArray)  : Option (Bool) := (qC.f k l0).bind fun t263 => (some (decide (t263 ≥ 0)))
theorem qP.mono : ∀ a0 k, LeO (qP.f k a0) (qP.f (k + 1) a0) := by
 intro a0 k
 unfold qP.f
 repeat' first
   | (with_reducible exact qC.mono _ _)
   | (with_reducible exact LeO.refl _)
   | (with_reducible exact LeO.none _)
   | (with_reducible refine LeO.ite ?_ ?_)
   | (with_reducible refine LeO.bind ?_ (fun _ => ?_))
   | exact qC.mono _ _
   | exact LeO.none _
   | refine LeO.ite ?_ ?_
   | refine LeO.bind ?_ (fun _ => ?_)
set_option maxHeartbeats 8000000 in
set_option maxRecDepth 100000 in
theorem qP.calls (k : Nat) (A0 : Option Addr) (c0 : Nat) (l0 : List ByteArray)  (r : Bool) (w : World) (hr0 : Kd.C Kd.string w A0 l0.length l0) (hc0 : l0.length ≤ c0) (h : qP.f k l0 = some r) :
  Calls Try.prog 165 #[.slice A0 l0.length c0, .func (.func 166) #[] #[]] w fun e w' => e = .returned (.bool r) ∧ ve w w' := by
 have HR0 := qa.mk hr0
 have HC0 := qa.mk hc0
 clear hr0 hc0
 have H : ((qC.f k l0).bind fun t263 => (some (decide (t263 ≥ 0)))) = some r := h
 clear h
 replace H := Option.bind_eq_some_iff.mp H
 obtain ⟨t263, A30, H⟩ := H
 replace H : (some (decide (t263 ≥ 0))) = some r := H
 have A3 := qa.mk A30
 clear A30
 obtain rfl := Option.some.inj H
 go_enter Try.func165, Try.ntmps165
 go_wp2_with (first | ((with_reducible refine qR (f := 192) rfl ?_); refine vP (some 7) rfl rfl Try.func192 (by kernel_rfl) rfl #[.slice A0 l0.length c0, .func (.func 166) #[] #[]] rfl (by (try simp only [List.map_toArray, List.map_cons, List.map_nil]); first | done | rfl | (simp only [List.length_drop, List.length_take]; rfl)) ?_; (with_reducible refine (qC.calls k _ _ l0 t263 _ ?side1 ?side2 A3.out).mono ?_); (case side1 => repeat (first | exact HR0.out | (with_reducible refine Kd.C_alloc ?_ _) | (with_reducible refine Kd.C_drewN ?_ _) | (with_reducible refine Kd.qQ ?_))); (case side2 => exact HC0.out); rintro e w' ⟨rfl, ⟨nd, rfl⟩⟩; refine ⟨_, rfl, ?_⟩))
 go_ret
 exact ⟨by first | rfl | (simp; done) | (simp [*]; done), by repeat (first | exact ve.refl _ | apply ve.step)⟩
end Go.Proofs.Ytcjbghmhdefdiaa.S
namespace Go.Proofs
open Go.Shelf
def Try.yH : Go.Shelf.Ren := ⟨fun | 190 => 156 | 125 => 162 | 258 => 180 | 128 => 189 | 129 => 190 | 302 => 195 | 303 => 196 | 304 => 197 | 305 => 198 | 306 => 199 | 307 => 200 | 308 => 201 | 309 => 202 | 310 => 203 | 333 => 210 | 329 => 205 | 330 => 206 | 334 => 211 | 335 => 212 | 336 => 213 | 344 => 216 | n => n, fun | 31 => 22 | 9 => 9 | 3 => 3 | 46 => 159 | 0 => 0 | 51 => 216 | 53 => 115 | 4 => 4 | 183 => 210 | 182 => 209 | 131 => 191 | 5 => 5 | 218 => 228 | 222 => 232 | 228 => 236 | 229 => 71 | n => n, fun | n => n⟩
theorem Try.QH : Go.Proofs.Lays.n190 Try.prog Try.yH := {
 mixed := by kernel_rfl
 f125 := Try.func162.trans (congrArg some (by kernel_rfl))
 f128 := Try.func189.trans (congrArg some (by kernel_rfl))
 f129 := Try.func190.trans (congrArg some (by kernel_rfl))
 f190 := Try.func156.trans (congrArg some (by kernel_rfl))
 f258 := Try.func180.trans (congrArg some (by kernel_rfl))
 f302 := Try.func195.trans (congrArg some (by kernel_rfl))
 f303 := Try.func196.trans (congrArg some (by kernel_rfl))
 f304 := Try.func197.trans (congrArg some (by kernel_rfl))
 f305 := Try.func198.trans (congrArg some (by kernel_rfl))
 f306 := Try.func199.trans (congrArg some (by kernel_rfl))
 f307 := Try.func200.trans (congrArg some (by kernel_rfl))
 f308 := Try.func201.trans (congrArg some (by kernel_rfl))
 f309 := Try.func202.trans (congrArg some (by kernel_rfl))
 f310 := Try.func203.trans (congrArg some (by kernel_rfl))
 f329 := Try.func205.trans (congrArg some (by kernel_rfl))
 f330 := Try.func206.trans (congrArg some (by kernel_rfl))
 f333 := Try.func210.trans (congrArg some (by kernel_rfl))
 f334 := Try.func211.trans (congrArg some (by kernel_rfl))
 f335 := Try.func212.trans (congrArg some (by kernel_rfl))
 f336 := Try.func213.trans (congrArg some (by kernel_rfl))
 f344 := Try.func216.trans (congrArg some (by kernel_rfl))
 t0 := Try.underlying0
 a0 := Try.isAgg0
 z0 := Try.sizeOf0
 v0 := Try.zeroValue0
 t3 := Try.underlying3
 a3 := Try.isAgg3
 z3 := Try.sizeOf3
 v3 := Try.zeroValue3
 t4 := Try.underlying4
 a4 := Try.isAgg4
 z4 := Try.sizeOf4
 v4 := Try.zeroValue4
 t5 := Try.underlying5
 a5 := Try.isAgg5
 z5 := Try.sizeOf5
 v5 := Try.zeroValue5
 t9 := Try.underlying9
 a9 := Try.isAgg9
 z9 := Try.sizeOf9
 v9 := Try.zeroValue9
 t31 := Try.underlying22
 a31 := Try.isAgg22
 z31 := Try.sizeOf22
 v31 := Try.zeroValue22
 t46 := Try.underlying159
 a46 := Try.isAgg159
 z46 := Try.sizeOf159
 v46 := Try.zeroValue159
 t51 := Try.underlying216
 a51 := Try.isAgg216
 z51 := Try.sizeOf216
 v51 := Try.zeroValue216
 t53 := Try.underlying115
 a53 := Try.isAgg115
 z53 := Try.sizeOf115
 v53 := Try.zeroValue115
 t131 := Try.underlying191
 a131 := Try.isAgg191
 z131 := Try.sizeOf191
 v131 := Try.zeroValue191
 t182 := Try.underlying209
 a182 := Try.isAgg209
 z182 := Try.sizeOf209
 v182 := Try.zeroValue209
 t183 := Try.underlying210
 a183 := Try.isAgg210
 z183 := Try.sizeOf210
 v183 := Try.zeroValue210
 t218 := Try.underlying228
 a218 := Try.isAgg228
 z218 := Try.sizeOf228
 v218 := Try.zeroValue228
 t222 := Try.underlying232
 a222 := Try.isAgg232
 z222 := Try.sizeOf232
 v222 := Try.zeroValue232
 t228 := Try.underlying236
 a228 := Try.isAgg236
 z228 := Try.sizeOf236
 v228 := Try.zeroValue236
 t229 := Try.underlying71
 a229 := Try.isAgg71
 z229 := Try.sizeOf71
 v229 := Try.zeroValue71 }
open Go.Sort Go.RowKit in
theorem Try.slices_Sort_string (blk off cap : Nat) (ss : List (List UInt8)) (w : World) (hH : Holds encStr w blk off ss.toArray) (hblk : blk < w.heap.size) (hsz : ss.length < 4611686018427387904) :
  Calls Try.prog 156 #[.slice (some ⟨blk, off, none⟩) ss.length cap] w fun e w' =>
   e = .returned (.tuple #[]) ∧ ∃ n os, w' = grow (putRow encStr (Sort.ahead w n) blk off (ss.mergeSort fun x y => decide (x ≤ y)).toArray) os := Any.slices_Sort_string Try.QH blk off cap ss w hH hblk hsz
def Try.yw : Go.Shelf.Ren := ⟨fun | 194 => 157 | n => n, fun | 31 => 22 | 9 => 9 | 3 => 3 | 4 => 4 | 0 => 0 | n => n, fun | n => n⟩
theorem Try.Qu : Go.Proofs.Lays.n194 Try.prog Try.yw := {
 mixed := by kernel_rfl
 f194 := Try.func157.trans (congrArg some (by kernel_rfl))
 t0 := Try.underlying0
 a0 := Try.isAgg0
 z0 := Try.sizeOf0
 v0 := Try.zeroValue0
 t3 := Try.underlying3
 a3 := Try.isAgg3
 z3 := Try.sizeOf3
 v3 := Try.zeroValue3
 t4 := Try.underlying4
 a4 := Try.isAgg4
 z4 := Try.sizeOf4
 v4 := Try.zeroValue4
 t9 := Try.underlying9
 a9 := Try.isAgg9
 z9 := Try.sizeOf9
 v9 := Try.zeroValue9
 t31 := Try.underlying22
 a31 := Try.isAgg22
 z31 := Try.sizeOf22
 v31 := Try.zeroValue22 }
open Go.RowKit Go.Lib Go.Sort in
theorem Try.slices_Compact_string (blk off cap : Nat) (zs : List (List UInt8)) (w : World) (hH : Holds encStr w blk off zs.toArray) (hsz : zs.length ≤ 9223372036854775807) (hcap : zs.length ≤ cap) :
  Calls Try.prog 157 #[.slice (some ⟨blk, off, none⟩) zs.length cap] w fun e w' => e = .returned (.slice (some ⟨blk, off, none⟩) (Lib.compact zs).length cap) ∧ ∃ q, w' = putRow encStr (Sort.ahead w q) blk off (Lib.compact zs ++ List.replicate (zs.length - (Lib.compact zs).length) []).toArray := Any.slices_Compact_string Try.Qu blk off cap zs w hH hsz hcap
open Go.RowKit Go.Lib Go.Sort in
theorem Try.slices_Compact_string_empty (a : Option Addr) (cap : Nat) (w : World) :
  Calls Try.prog 157 #[.slice a 0 cap] w fun e w' => e = .returned (.slice a 0 cap) ∧ w' = w := Any.slices_Compact_string_empty Try.Qu a cap w
open Go.RowKit Go.Sort in
theorem Try.slices_Sort_string_none (p : Option Addr) (cap : Nat) (w : World) :
  Calls Try.prog 156 #[.slice p 0 cap] w fun e w' => e = .returned (.tuple #[]) ∧ w' = w := Any.slices_Sort_string_none Try.QH p cap w
def Try.Qy : Go.Shelf.Ren := ⟨fun | 4 => 179 | n => n, fun | 22 => 22 | 25 => 9 | 3 => 3 | 4 => 4 | 9 => 9 | 20 => 20 | 0 => 0 | n => n, fun | n => n⟩
theorem Try.growS : Go.Proofs.Lays8.n4 Try.prog Try.Qy := {
 mixed := by kernel_rfl
 f4 := ⟨Try.f179.name, by decide, Try.func179.trans (congrArg some (by kernel_rfl))⟩
 t0 := Try.underlying0
 a0 := Try.isAgg0
 z0 := Try.sizeOf0
 v0 := Try.zeroValue0
 t3 := Try.underlying3
 a3 := Try.isAgg3
 z3 := Try.sizeOf3
 v3 := Try.zeroValue3
 t4 := Try.underlying4
 a4 := Try.isAgg4
 z4 := Try.sizeOf4
 v4 := Try.zeroValue4
 t9 := Try.underlying9
 a9 := Try.isAgg9
 z9 := Try.sizeOf9
 v9 := Try.zeroValue9
 t20 := Try.underlying20
 a20 := Try.isAgg20
 z20 := Try.sizeOf20
 v20 := Try.zeroValue20
 t22 := Try.underlying22
 a22 := Try.isAgg22
 z22 := Try.sizeOf22
 v22 := Try.zeroValue22 }
def Try.j4 : Go.Shelf.Ren := ⟨fun | 6 => 125 | 15 => 162 | 14 => 161 | 28 => 189 | 29 => 190 | 20 => 181 | 21 => 182 | 22 => 183 | 23 => 184 | 24 => 185 | 25 => 186 | 26 => 187 | 27 => 188 | 46 => 204 | 47 => 205 | 48 => 206 | 49 => 207 | 50 => 208 | 57 => 214 | n => n, fun | 22 => 23 | 24 => 55 | 25 => 144 | 3 => 3 | 39 => 159 | 0 => 0 | 53 => 216 | 55 => 115 | 4 => 4 | 46 => 210 | 45 => 209 | 50 => 191 | 5 => 5 | 9 => 9 | 66 => 228 | 70 => 232 | 76 => 236 | 77 => 71 | n => n, fun | n => n⟩
theorem Try.wh : Go.Proofs.SlLaysF0.n6 Try.prog Try.j4 := {
 mixed := by kernel_rfl
 f6 := ⟨Try.f125.name, by decide, Try.func125.trans (congrArg some (by kernel_rfl))⟩
 f14 := ⟨Try.f161.name, by decide, Try.func161.trans (congrArg some (by kernel_rfl))⟩
 f15 := Try.func162.trans (congrArg some (by kernel_rfl))
 f20 := ⟨Try.f181.name, by decide, Try.func181.trans (congrArg some (by kernel_rfl))⟩
 f21 := ⟨Try.f182.name, by decide, Try.func182.trans (congrArg some (by kernel_rfl))⟩
 f22 := ⟨Try.f183.name, by decide, Try.func183.trans (congrArg some (by kernel_rfl))⟩
 f23 := ⟨Try.f184.name, by decide, Try.func184.trans (congrArg some (by kernel_rfl))⟩
 f24 := ⟨Try.f185.name, by decide, Try.func185.trans (congrArg some (by kernel_rfl))⟩
 f25 := ⟨Try.f186.name, by decide, Try.func186.trans (congrArg some (by kernel_rfl))⟩
 f26 := ⟨Try.f187.name, by decide, Try.func187.trans (congrArg some (by kernel_rfl))⟩
 f27 := ⟨Try.f188.name, by decide, Try.func188.trans (congrArg some (by kernel_rfl))⟩
 f28 := Try.func189.trans (congrArg some (by kernel_rfl))
 f29 := Try.func190.trans (congrArg some (by kernel_rfl))
 f46 := ⟨Try.f204.name, by decide, Try.func204.trans (congrArg some (by kernel_rfl))⟩
 f47 := Try.func205.trans (congrArg some (by kernel_rfl))
 f48 := Try.func206.trans (congrArg some (by kernel_rfl))
 f49 := ⟨Try.f207.name, by decide, Try.func207.trans (congrArg some (by kernel_rfl))⟩
 f50 := ⟨Try.f208.name, by decide, Try.func208.trans (congrArg some (by kernel_rfl))⟩
 f57 := ⟨Try.f214.name, by decide, Try.func214.trans (congrArg some (by kernel_rfl))⟩
 t0 := Try.underlying0
 a0 := Try.isAgg0
 z0 := Try.sizeOf0
 v0 := Try.zeroValue0
 t3 := Try.underlying3
 a3 := Try.isAgg3
 z3 := Try.sizeOf3
 v3 := Try.zeroValue3
 t4 := Try.underlying4
 a4 := Try.isAgg4
 z4 := Try.sizeOf4
 v4 := Try.zeroValue4
 t5 := Try.underlying5
 a5 := Try.isAgg5
 z5 := Try.sizeOf5
 v5 := Try.zeroValue5
 t9 := Try.underlying9
 a9 := Try.isAgg9
 z9 := Try.sizeOf9
 v9 := Try.zeroValue9
 t22 := Try.underlying23
 a22 := Try.isAgg23
 z22 := Try.sizeOf23
 v22 := Try.zeroValue23
 t25 := Try.underlying144
 a25 := Try.isAgg144
 z25 := Try.sizeOf144
 v25 := Try.zeroValue144
 t39 := Try.underlying159
 a39 := Try.isAgg159
 z39 := Try.sizeOf159
 v39 := Try.zeroValue159
 t45 := Try.underlying209
 a45 := Try.isAgg209
 z45 := Try.sizeOf209
 v45 := Try.zeroValue209
 t46 := Try.underlying210
 a46 := Try.isAgg210
 z46 := Try.sizeOf210
 v46 := Try.zeroValue210
 t50 := Try.underlying191
 a50 := Try.isAgg191
 z50 := Try.sizeOf191
 v50 := Try.zeroValue191
 t53 := Try.underlying216
 a53 := Try.isAgg216
 z53 := Try.sizeOf216
 v53 := Try.zeroValue216
 t55 := Try.underlying115
 a55 := Try.isAgg115
 z55 := Try.sizeOf115
 v55 := Try.zeroValue115
 t66 := Try.underlying228
 a66 := Try.isAgg228
 z66 := Try.sizeOf228
 v66 := Try.zeroValue228
 t70 := Try.underlying232
 a70 := Try.isAgg232
 z70 := Try.sizeOf232
 v70 := Try.zeroValue232
 t76 := Try.underlying236
 a76 := Try.isAgg236
 z76 := Try.sizeOf236
 v76 := Try.zeroValue236
 t77 := Try.underlying71
 a77 := Try.isAgg71
 z77 := Try.sizeOf71
 v77 := Try.zeroValue71 }
end Go.Proofs
namespace Go.Proofs.Ytcjbghmhdefdiaa.S
open Go.RowKit Go.Proofs.YtcjbghmhdefdiaaW.PrintWords Go.Proofs.YtcjbghmhdefdiaaW.PrintLast Go.Proofs.YtcjbghmhdefdiaaW.PrintMore
set_option linter.unusedVariables false
def vI.f (n : Int) : Option (List ByteArray) := if 0 ≤ n then (if n < 8796093022208 then some [] else none) else none
theorem grow_own (W : World) (cs : Array Value) (base cap : Nat) (hb : base ≤ W.heap.size) (hc : cap ≤ 9223372036854775807) (hs : cs.size = cap) : Kd.R Kd.string 9 (W.alloc (.cells cs 9)) base (fun _ => True) (.slice (some ⟨W.heap.size, 0, none⟩) 0 cap) [] :=
 Kd.xW (enc := Value.string) (h1 := fun _ => rfl) ⟨by simp [encs], .inr ⟨_, _, cs, rfl, hb, heap_alloc_new W _, Nat.zero_le _, by simpa [maxLen] using hc, by rw [hs, Nat.mul_one], by simp [encs]⟩⟩ (fun _ _ => trivial)
set_option maxRecDepth 100000 in
theorem vI.calls (n : Int) (r : List ByteArray) (w : World) (h : vI.f n = some r) :
  Calls Try.prog 179 #[.slice none 0 0, .int .i64 n] w fun e w' => ∃ v0_ : Value, e = .returned (v0_) ∧ Kd.R Kd.string 9 w' w.heap.size (fun _ => True) v0_ r ∧ Below w.heap.size w w' := by
 unfold vI.f at h
 by_cases h0 : 0 ≤ n
 ·rw [if_pos h0] at h
  by_cases h1 : n < 8796093022208
  ·rw [if_pos h1] at h
   obtain rfl := Option.some.inj h
   clear h
   obtain ⟨m, rfl⟩ := Int.eq_ofNat_of_zero_le h0
   by_cases hp : 0 < m
   ·obtain ⟨i0, hi, hzz⟩ := Option.map_eq_some_iff.1 (show (Try.prog.info? 9).map (fun i => (i.zero, i.size, i.bytes)) = some (some (.string ⟨#[]⟩), 1, 16) by kernel_rfl)
    simp only [Prod.mk.injEq] at hzz
    obtain ⟨hz0, hz1, hz2⟩ := hzz
    have hc := Any8.slices_Grow_grow Try.growS i0 (.string ⟨#[]⟩) hi hz0 (by omega) none 0 0 m [] w (Nat.le_refl _) (by omega) (by rw [hz2]; omega) (by omega) (by simp) (fun _ => rfl) (fun a ha => by cases ha)
    change Calls Try.prog 179 #[.slice none 0 0, .int .i64 m] w _ at hc
    refine hc.mono ?_
    rintro e w' ⟨rfl, rfl⟩
    have hge := grownCap_ge w (0 + m) 0 9
    refine ⟨_, rfl, ?_, by exact qg (qf (Below.refl _ _)) _⟩
    refine grow_own w.drew _ w.heap.size (grownCap w (0 + m) 0 9) (Nat.le_refl _) ?_ ?_
    ·have := grownCap_le_maxLen w (0 + m) 0 9 (by unfold maxLen; omega)
     unfold maxLen at this
     exact this
    ·simp only [Array.size_append, List.size_toArray, List.length_nil, size_zeroCells]
     show 0 + (0 + m - 0) * 1 + (grownCap w (0 + m) 0 9 - (0 + m)) * 1 = grownCap w (0 + m) 0 9
     omega
   ·obtain rfl : m = 0 := by omega
    have hc := Any8.slices_Grow_room Try.growS none 0 0 0 w (Nat.le_refl _) (by omega) (by omega) (by omega)
    change Calls Try.prog 179 #[.slice none 0 0, .int .i64 0] w _ at hc
    refine hc.mono ?_
    rintro e w' ⟨rfl, rfl⟩
    exact ⟨_, rfl, Kd.jO _ _ _ _ _, Below.refl _ _⟩
  ·rw [if_neg h1] at h
   cases h
 ·rw [if_neg h0] at h
  cases h
end Go.Proofs.Ytcjbghmhdefdiaa.S
namespace Go.Proofs.Ytcjbghmhdefdiaa.S
open Go.RowKit Go.Proofs.YtcjbghmhdefdiaaW.PrintWords Go.Proofs.YtcjbghmhdefdiaaW.PrintLast Go.Proofs.YtcjbghmhdefdiaaW.PrintMore
attribute [local go_sem] vW vZ zi zk vL vK vY vV
set_option linter.unusedVariables false
set_option linter.unusedSimpArgs false
mutual
def qN.l0 : Nat → List (List ByteArray) → Int → List (List ByteArray) → Int → Int → Option (List ByteArray)
 | 0, _, _, _, _, _ => none
 | k + 1, x0, x3, x9, x10, x11 => if x11 < x10 then (if 0 ≤ x11 then (if x11 < (x9.length : Int) then (if (wrap64 (x3 + ((jB x9 x11).length : Int))) < 0 then (none) else (qN.l0 k x0 (wrap64 (x3 + ((jB x9 x11).length : Int))) x9 x10 (wrap64 (x11 + 1)))) else (none)) else (none)) else ((vI.f x3).bind fun t118 => (qN.l1 k t118 x0 (x0.length : Int) 0))
def qN.l1 : Nat → List ByteArray → List (List ByteArray) → Int → Int → Option (List ByteArray)
 | 0, _, _, _, _ => none
 | k + 1, x6, x25, x26, x27 => if x27 < x26 then (if 0 ≤ x27 then (if x27 < (x25.length : Int) then (if x6.length + (jB x25 x27).length < 8796093022208 then (qN.l1 k (x6 ++ (jB x25 x27)) x25 x26 (wrap64 (x27 + 1))) else (none)) else (none)) else (none)) else (some x6)
end
def qN.f (k : Nat) (l0 : List (List ByteArray)) : Option (List ByteArray) := qN.l0 k l0 0 l0 (l0.length : Int) 0
set_option maxHeartbeats 8000000 in
set_option maxRecDepth 100000 in
theorem qN.calls (k : Nat) (A0 : Option Addr) (c0 : Nat) (l0 : List (List ByteArray)) (r : List ByteArray) (w : World) (hr0 : Kd.C (Kd.slice 9 Kd.string) w A0 l0.length l0) (hc0 : l0.length ≤ c0) (h : qN.f k l0 = some r) :
  Calls Try.prog 155 #[.slice A0 l0.length c0] w fun e w' => ∃ v0_ : Value, e = .returned (v0_) ∧ Kd.R Kd.string 9 w' w.heap.size (fun _ => True) v0_ r ∧ Below w.heap.size w w' := by
 have HR0 := qa.mk hr0
 have HC0 := qa.mk hc0
 clear hr0 hc0
 have HB := qa.mk (Below.refl w.heap.size w)
 have H : (qN.l0 k l0 0 l0 (l0.length : Int) 0) = some r := h
 clear h
 have H' := qa.mk H
 clear H
 go_enter Try.func155, Try.ntmps155
 go_wp2
 go_loopg [3, 11] k (fun kq v3 v11 w' => ∃ (x3_1 : Int) (x11_1 : Int), v3 = .int .i64 x3_1 ∧ v11 = .int .i64 x11_1 ∧ qa (qN.l0 kq l0 x3_1 l0 (l0.length : Int) x11_1 = some r) ∧ qa (kq ≤ k) ∧ qa (Below w.heap.size w w'))
 case atStart => exact ⟨(0), (0), (by first | rfl | (simp; done) | (simp [*]; done)), (by first | rfl | (simp; done) | (simp [*]; done)), H', ⟨Nat.le_refl _⟩, ⟨by repeat (first | (with_reducible first | exact HB.out | apply qg | apply qb | apply qf) | exact HB.out)⟩⟩
 case round =>
  clear H'
  try clear c1
  obtain ⟨x3_1, x11_1, rfl, rfl, HA, HK1, HB⟩ := hrel
  cases gk with
  | zero => exact absurd HA.out (by simp [qN.l0])
  | succ k1 =>
   have H := HA.out
   clear HA
   simp only [qN.l0] at H
   by_cases c2 : x11_1 < (l0.length : Int)
   ·rw [if_pos c2] at H
    have c2b0 : decide (x11_1 < (l0.length : Int)) = true := decide_eq_true c2
    clear c2
    by_cases c3 : 0 ≤ x11_1
    ·rw [if_pos c3] at H
     have c3b0 : decide (0 ≤ x11_1) = true := decide_eq_true c3
     clear c3
     by_cases c4 : x11_1 < (l0.length : Int)
     ·rw [if_pos c4] at H
      have c4b0 : decide (x11_1 < (l0.length : Int)) = true := decide_eq_true c4
      clear c4
      by_cases c5 : (wrap64 (x3_1 + ((jB l0 x11_1).length : Int))) < 0
      ·rw [if_pos c5] at H
       exact absurd H (by simp)
      ·rw [if_neg c5] at H
       have c5b0 : decide ((wrap64 (x3_1 + ((jB l0 x11_1).length : Int))) < 0) = false := decide_eq_false c5
       clear c5
       have H' := qa.mk H
       clear H
       have p117 : 0 ≤ (x11_1 : Int) := of_decide_eq_true (by first | (with_reducible assumption) | assumption)
       have q117 : x11_1 < (l0.length : Int) := of_decide_eq_true (by first | (with_reducible assumption) | assumption)
       obtain ⟨ad117, A117_0, c117_0, e117, hx117_0, hl117_0, hi117_0⟩ := at_L3 HR0.out x11_1 p117 q117
       cases e117
       replace hx117_0 := (HB.out.cell (World.block_lt_of_cell? w _ hx117_0)).trans hx117_0
       have HR117_0 := qa.mk hi117_0
       have HC117_0 := qa.mk hl117_0
       clear hi117_0 hl117_0
       replace p117 := eq_true p117
       replace q117 := eq_true q117
       go_wp2
       go_roundg k1
       case measure => have := HK1.out; omega
       case rel => exact ⟨(wrap64 (x3_1 + ((jB l0 x11_1).length : Int))), (wrap64 (x11_1 + 1)), (by first | rfl | (simp; done) | (simp [*]; done)), (by first | rfl | (simp; done) | (simp [*]; done)), H', ⟨by have := HK1.out; omega⟩, ⟨by repeat (first | (with_reducible first | exact HB.out | apply qg | apply qb | apply qf) | exact HB.out)⟩⟩
     ·rw [if_neg c4] at H
      exact absurd H (by simp)
    ·rw [if_neg c3] at H
     exact absurd H (by simp)
   ·rw [if_neg c2] at H
    have c2b0 : decide (x11_1 < (l0.length : Int)) = false := decide_eq_false c2
    clear c2
    replace H := Option.bind_eq_some_iff.mp H
    obtain ⟨t118, A60, H⟩ := H
    replace H : (qN.l1 k1 t118 l0 (l0.length : Int) 0) = some r := H
    have A6 := qa.mk A60
    clear A60
    have H' := qa.mk H
    clear H
    go_wp2_with (first | ((with_reducible refine qR (f := 179) rfl ?_); refine vP (some 24) rfl rfl Try.func179 (by kernel_rfl) rfl #[.slice none 0 0, .int .i64 x3_1] rfl (by (try simp only [List.map_toArray, List.map_cons, List.map_nil]); first | done | rfl | (simp only [List.length_drop, List.length_take]; rfl)) ?_; (with_reducible refine (vI.calls x3_1 t118 _ A6.out).mono ?_); rintro e w7 ⟨v119, rfl, ho0, hb⟩; refine ⟨_, rfl, ?_⟩; have n0_ := qa.mk (Kd.vO ho0 (qA (by repeat (first | (with_reducible first | exact HB.out | apply qg | apply qb | apply qf) | exact HB.out)))); have n1_ := qa.mk (qD (by repeat (first | (with_reducible first | exact HB.out | apply qg | apply qb | apply qf) | exact HB.out)) hb); clear HB; have HO120 := n0_; have HB := n1_; clear n0_ n1_; (try clear hb); (try clear hb2); (try clear hk); (try clear hi); (try clear ho0)))
    go_loopg [6, 27] k1 (fun kq v6 v27 w' => ∃ (x6_2 : List ByteArray) (x27_2 : Int), v27 = .int .i64 x27_2 ∧ qa (qN.l1 kq x6_2 l0 (l0.length : Int) x27_2 = some r) ∧ qa (kq ≤ k1) ∧ qa (Kd.R Kd.string 9 w' w.heap.size (fun _ => True) v6 x6_2) ∧ qa (Below w.heap.size w w'))
    case atStart => exact ⟨(t118), (0), (by first | rfl | (simp; done) | (simp [*]; done)), H', ⟨Nat.le_refl _⟩, ⟨by (with_reducible repeat (first | apply Kd.R_alloc | apply Kd.qo | apply Kd.qz)); exact HO120.out⟩, ⟨by repeat (first | (with_reducible first | exact HB.out | apply qg | apply qb | apply qf) | exact HB.out)⟩⟩
    case round =>
     clear H'
     try clear c1
     try clear p1
     try clear q1
     try clear hx1
     try clear c2
     try clear c2b0
     try clear p2
     try clear c3
     try clear c3b0
     try clear c4
     try clear c4b0
     try clear c5
     try clear c5b0
     try clear p6
     try clear hx117_0
     try clear p117
     try clear q117
     obtain ⟨x6_2, x27_2, rfl, HA, HK2, HO_6, HB⟩ := hrel
     cases gk with
     | zero => exact absurd HA.out (by simp [qN.l1])
     | succ k2 =>
      have H := HA.out
      clear HA
      simp only [qN.l1] at H
      by_cases c8 : x27_2 < (l0.length : Int)
      ·rw [if_pos c8] at H
       have c8b0 : decide (x27_2 < (l0.length : Int)) = true := decide_eq_true c8
       clear c8
       by_cases c9 : 0 ≤ x27_2
       ·rw [if_pos c9] at H
        have c9b0 : decide (0 ≤ x27_2) = true := decide_eq_true c9
        clear c9
        by_cases c10 : x27_2 < (l0.length : Int)
        ·rw [if_pos c10] at H
         have c10b0 : decide (x27_2 < (l0.length : Int)) = true := decide_eq_true c10
         clear c10
         by_cases c11 : x6_2.length + (jB l0 x27_2).length < 8796093022208
         ·rw [if_pos c11] at H
          have LMc11 := qa.mk c11
          clear c11
          obtain ⟨y122, hy122⟩ : ∃ y_ : List ByteArray, y_ = (x6_2 ++ (jB l0 x27_2)) := ⟨_, rfl⟩
          replace H : (qN.l1 k2 y122 l0 (l0.length : Int) (wrap64 (x27_2 + 1))) = some r := by first | (rw [hy122]; with_reducible exact H) | (have H2_ := (Option.bind_some _ _).symm.trans H; rw [hy122]; with_reducible exact H2_) | (have H2_ := (Option.bind_some _ _).symm.trans H; with_reducible exact H2_) | with_reducible exact H | (rw [hy122]; exact H) | exact H
          have Ny122 := qa.mk hy122
          clear hy122
          have H' := qa.mk H
          clear H
          have p121 : 0 ≤ (x27_2 : Int) := of_decide_eq_true (by first | (with_reducible assumption) | assumption)
          have q121 : x27_2 < (l0.length : Int) := of_decide_eq_true (by first | (with_reducible assumption) | assumption)
          obtain ⟨ad121, A121_0, c121_0, e121, hx121_0, hl121_0, hi121_0⟩ := at_L3 HR0.out x27_2 p121 q121
          cases e121
          replace hx121_0 := (HB.out.cell (World.block_lt_of_cell? w _ hx121_0)).trans hx121_0
          have HR121_0 := qa.mk hi121_0
          have HC121_0 := qa.mk hl121_0
          clear hi121_0 hl121_0
          replace p121 := eq_true p121
          replace q121 := eq_true q121
          go_wp2_with (first | ((with_reducible refine zz (b := .append) (xs := #[.tmp 31, .tmp 32]) rfl ?_); at_builtin; refine Kd.zW Kd.string (w0 := w) w.heap.size rfl (.tmp 31) (.tmp 32) 22 9 (.string ⟨#[]⟩) 16 rfl Try.underlying22 info9 rfl (by decide) (by omega) u6 x6_2 (jB l0 x27_2) _ _ _ (fun _ => True) (fun _ => False) rfl rfl ?aO ?aR (fun _ _ h => h) (fun _ h => h.elim) ?aF ?aB ?aS ?aL ?_; (case aR => repeat (first | exact (Kd.qU HR121_0.out HB.out) | (with_reducible refine Kd.C_alloc ?_ _) | (with_reducible refine Kd.C_drewN ?_ _) | (with_reducible refine Kd.qQ ?_))); (case aB => exact (by repeat (first | (with_reducible first | exact HB.out | apply qg | apply qb | apply qf) | exact HB.out))); (case aF => exact (fun _ _ => trivial)); (case aO => exact (by (with_reducible repeat (first | apply Kd.R_alloc | apply Kd.qo | apply Kd.qz)); exact HO_6.out)); (case aS => exact (qA (by repeat (first | (with_reducible first | exact HB.out | apply qg | apply qb | apply qf) | exact HB.out)))); (case aL => have := LMc11.out; omega); intro v123 w12 ho hb hg hat; rw [← Ny122.out] at ho; have n0_ := qa.mk (hb); have n1_ := qa.mk (ho); clear HB; clear HO_6; have HB := n0_; have HO124 := n1_; clear n0_ n1_; clear ho hb hg hat))
          go_roundg k2
          case measure => have := HK1.out; have := HK2.out; omega
          case rel => exact ⟨(y122), (wrap64 (x27_2 + 1)), (by first | rfl | (simp; done) | (simp [*]; done)), H', ⟨by have := HK1.out; have := HK2.out; omega⟩, ⟨by (with_reducible repeat (first | apply Kd.R_alloc | apply Kd.qo | apply Kd.qz)); exact HO124.out⟩, ⟨by repeat (first | (with_reducible first | exact HB.out | apply qg | apply qb | apply qf) | exact HB.out)⟩⟩
         ·rw [if_neg c11] at H
          exact absurd H (by simp)
        ·rw [if_neg c10] at H
         exact absurd H (by simp)
       ·rw [if_neg c9] at H
        exact absurd H (by simp)
      ·rw [if_neg c8] at H
       have c8b0 : decide (x27_2 < (l0.length : Int)) = false := decide_eq_false c8
       clear c8
       obtain rfl := Option.some.inj H
       go_wp2
       go_ret
       exact ⟨_, by first | rfl | (simp [errW_none, errW_some] <;> rfl) | (simp [*, errW_none, errW_some] <;> rfl), by (with_reducible repeat (first | apply Kd.R_alloc | apply Kd.qo | apply Kd.qz)); exact HO_6.out, by repeat (first | (with_reducible first | exact HB.out | apply qg | apply qb | apply qf) | exact HB.out)⟩
end Go.Proofs.Ytcjbghmhdefdiaa.S
namespace Go.Proofs.Ytcjbghmhdefdiaa.S
open Go.RowKit Go.Proofs.YtcjbghmhdefdiaaW.PrintWords Go.Proofs.YtcjbghmhdefdiaaW.PrintLast Go.Proofs.YtcjbghmhdefdiaaW.PrintMore
set_option linter.unusedVariables false
set_option linter.unusedSimpArgs false
def zF (l : List ByteArray) : List (List UInt8) := l.map fun s => s.data.toList
def zK (l : List (List UInt8)) : List ByteArray := l.map fun s => ⟨s.toArray⟩
def vQ (l : List ByteArray) : List (List UInt8) := (zF l).mergeSort fun x y => decide (x ≤ y)
def xm (a b : List ByteArray) : List ByteArray := zK (Lib.compact (vQ (a ++ b)))
def zT.f (a b : List ByteArray) : Option (List ByteArray) := if a.length + b.length < 8796093022208 then some (xm a b) else none
theorem yF (l : List ByteArray) : encs Value.string l = (zF l).map Go.Proofs.encStr := by
 simp [encs, zF, Go.Proofs.encStr]
theorem kE (l : List (List UInt8)) : encs Value.string (zK l) = l.map Go.Proofs.encStr := by
 simp [encs, zK, Go.Proofs.encStr]
theorem Qf {a b : List ByteArray} (h : a.length + b.length < 8796093022208) : qN.f 8 [a, b] = some (a ++ b) := by
 unfold qN.f
 have e1 : wrap64 (0 + (a.length : Int)) = a.length := by unfold wrap64; omega
 have e2 : wrap64 ((a.length : Int) + (b.length : Int)) = a.length + b.length := by unfold wrap64; omega
 have e3 : wrap64 (0 + 1) = 1 := by unfold wrap64; omega
 have e4 : wrap64 (1 + 1) = 2 := by unfold wrap64; omega
 have n1 : ¬ ((a.length : Int) < 0) := by omega
 have n2 : ¬ ((a.length : Int) + (b.length : Int) < 0) := by omega
 have g1 : vI.f ((a.length : Int) + (b.length : Int)) = some [] := by unfold vI.f; rw [if_pos (by omega), if_pos (by omega)]
 have e5 : wrap64 (a.length : Int) = a.length := by unfold wrap64; omega
 have e6 : wrap64 1 = 1 := by unfold wrap64; omega
 have e7 : (1 : Int) + 1 = 2 := rfl
 have e8 : wrap64 2 = 2 := by unfold wrap64; omega
 simp [qN.l0, jB, e5, e6, e7, e8, e1, e2, e3, e4, n1, n2, g1, qN.l1, show a.length < 8796093022208 by omega, h]
theorem jq (l : List (List UInt8)) : (Lib.compact l).length ≤ l.length := by
 unfold Lib.compact Lib.compactUpTo
 rw [List.length_map]
 exact Nat.le_trans (List.length_filter_le _ _) (by simp)
theorem kC (l : List ByteArray) : (zF l).length = l.length := by simp [zF]
theorem zX (l : List (List UInt8)) : (zK l).length = l.length := by simp [zK]
theorem jo (l : List ByteArray) : (vQ l).length = l.length := by simp [vQ, zF, List.length_mergeSort]
theorem Qe : zK (Lib.compact (vQ [])) = [] := by
 have h := jq (vQ [])
 rw [jo] at h
 exact List.eq_nil_of_length_eq_zero (by rw [zX]; simpa using h)
theorem kK (L : List ByteArray) (g cap : Nat) (cur : Array Value) (base : Nat) (w0 W : World) (hB : Below base w0 W) (hbase : base ≤ g) (hh : W.heap[g]? = some (.cells cur 9 (0, 0))) (h1 : L.length ≤ cap) (h2 : cap ≤ maxLen) (h3 : cur.size = cap * 1) (h4 : cur.toList.take (L.length * 1) = encs Value.string L) (hlt : L.length < 8796093022208) (hWb : base ≤ W.heap.size) :
  Calls Try.prog 156 #[.slice (some ⟨g, 0, none⟩) L.length cap] W fun e W2 => e = .returned (.tuple #[]) ∧
   Calls Try.prog 157 #[.slice (some ⟨g, 0, none⟩) L.length cap] W2 fun e W3 => ∃ v, e = .returned v ∧ Kd.R Kd.string 9 W3 base (fun _ => True) v (zK (Lib.compact (vQ L))) ∧ Below base w0 W3 := by
 have hg := (Array.getElem?_eq_some_iff.1 hh).1
 have hl := kC L
 have ht : cur.toList.take (zF L).length = (zF L).map encStr := by rw [hl, ← yF, ← h4, Nat.mul_one]
 have hS := Try.slices_Sort_string g 0 cap (zF L) W (holds_of_block hh ht) hg (by omega)
 rw [hl] at hS
 refine hS.mono ?_
 rintro e W2 ⟨rfl, n, os, rfl⟩
 refine ⟨rfl, ?_⟩
 have hz : (vQ L).length = L.length := jo L
 have hh2 := heap_sorted (n := n) (os := os) (vQ L).toArray hh
 have hg2 : W.grownBy (Go.Sort.grow (Go.Sort.putRow encStr (Go.Sort.ahead W n) g 0 (vQ L).toArray) os) (some g) := grownBy_sorted _
 have hB2 : Below base w0 (Go.Sort.grow (Go.Sort.putRow encStr (Go.Sort.ahead W n) g 0 (vQ L).toArray) os) := hB.grown hg2 hWb (fun k hk => by cases hk; exact hbase)
 change Calls Try.prog 157 _ (Go.Sort.grow (Go.Sort.putRow encStr (Go.Sort.ahead W n) g 0 (vQ L).toArray) os) _
 generalize Go.Sort.grow (Go.Sort.putRow encStr (Go.Sort.ahead W n) g 0 (vQ L).toArray) os = W2 at *
 have ht2 : (Go.Sort.putCells encStr 0 (vQ L).toArray cur).toList.take (vQ L).length = (vQ L).map encStr := take_putCells cur _ (by rw [hz, h3]; omega)
 have hC := Try.slices_Compact_string g 0 cap (vQ L) W2 (holds_of_block hh2 ht2) (by omega) (by omega)
 rw [hz] at hC
 refine hC.mono ?_
 rintro e W3 ⟨rfl, q, rfl⟩
 refine ⟨_, rfl, ?_, ?_⟩
 ·have hle := jq (vQ L)
  rw [hz] at hle
  have hh3 := heap_sorted (n := q) (os := #[]) (Lib.compact (vQ L) ++ List.replicate (L.length - (Lib.compact (vQ L)).length) []).toArray hh2
  rw [Go.Sort.grow_empty] at hh3
  have hsz : (Go.Sort.putCells encStr 0 (Lib.compact (vQ L) ++ List.replicate (L.length - (Lib.compact (vQ L)).length) []).toArray (Go.Sort.putCells encStr 0 (vQ L).toArray cur)).size = cap := by simp [Go.Sort.putCells, h3]
  have hown : (Go.Sort.putRow encStr (Go.Sort.ahead W2 q) g 0 (Lib.compact (vQ L) ++ List.replicate (L.length - (Lib.compact (vQ L)).length) []).toArray).ownsRow base 9 1 (.slice (some ⟨g, 0, none⟩) (Lib.compact (vQ L)).length cap) (zK (Lib.compact (vQ L))).length (encs Value.string (zK (Lib.compact (vQ L)))) := by
   refine ⟨by simp [encs], .inr ⟨g, cap, _, by rw [zX], hbase, hh3, by rw [zX]; omega, h2, by rw [hsz, Nat.mul_one], ?_⟩⟩
   rw [kE, zX, Nat.mul_one]
   have h9 := take_putCells (Go.Sort.putCells encStr 0 (vQ L).toArray cur) (Lib.compact (vQ L) ++ List.replicate (L.length - (Lib.compact (vQ L)).length) []) (by simp [Go.Sort.putCells, h3]; omega)
   rw [List.length_append, List.length_replicate] at h9
   have h10 := congrArg (List.take (Lib.compact (vQ L)).length) h9
   rw [List.take_take, List.map_append, List.take_append_of_le_length (by simp)] at h10
   rw [Nat.min_eq_left (by omega)] at h10
   rw [h10, List.take_of_length_le (by simp)]
  exact Kd.xW (enc := Value.string) (h1 := fun _ => rfl) hown (fun _ _ => trivial)
 ·have hg3 := grownBy_sorted (w := W2) (g := g) (n := q) (os := #[]) (Lib.compact (vQ L) ++ List.replicate (L.length - (Lib.compact (vQ L)).length) []).toArray
  rw [Go.Sort.grow_empty] at hg3
  exact hB2.grown hg3 (Nat.le_trans hWb hg2.size) (fun k hk => by cases hk; exact hbase)
set_option maxHeartbeats 2000000 in
set_option maxRecDepth 100000 in
theorem zT.calls (A0 : Option Addr) (c0 : Nat) (l0 : List ByteArray) (A1 : Option Addr) (c1 : Nat) (l1 : List ByteArray) (r : List ByteArray) (w : World) (hr0 : Kd.C Kd.string w A0 l0.length l0) (hc0 : l0.length ≤ c0) (hr1 : Kd.C Kd.string w A1 l1.length l1) (hc1 : l1.length ≤ c1) (h : zT.f l0 l1 = some r) :
  Calls Try.prog 121 #[.slice A0 l0.length c0, .slice A1 l1.length c1] w fun e w' => ∃ v0_ : Value, e = .returned (v0_) ∧ Kd.R Kd.string 9 w' w.heap.size (fun _ => True) v0_ r ∧ Below w.heap.size w w' := by
 unfold zT.f at h
 by_cases hlt : l0.length + l1.length < 8796093022208
 ·rw [if_pos hlt] at h
  obtain rfl := Option.some.inj h
  clear h
  have hcon := Qf hlt
  have HC : ∀ W : World, qa (Kd.C (Kd.slice 9 Kd.string) (w.alloc (.cells #[.slice A0 l0.length c0, .slice A1 l1.length c1] 22)) (some ⟨w.heap.size, 0, none⟩) 2 [l0, l1]) := fun _ => ⟨⟨rfl, by omega, fun _ => ⟨_, rfl, fun j p hj => by
   match j, hj with
   | 0, hj =>
    obtain rfl := Option.some.inj hj
    refine ⟨[.slice A0 l0.length c0], rfl, ⟨A0, c0, rfl, hc0, Kd.qU hr0 (qg (Below.refl _ _) _)⟩, fun i u hu => ?_⟩
    match i, hu with
    | 0, hu => obtain rfl := Option.some.inj hu; exact (qj (zY w _) 0).trans rfl
   | 1, hj =>
    obtain rfl := Option.some.inj hj
    refine ⟨[.slice A1 l1.length c1], rfl, ⟨A1, c1, rfl, hc1, Kd.qU hr1 (qg (Below.refl _ _) _)⟩, fun i u hu => ?_⟩
    match i, hu with
    | 0, hu => obtain rfl := Option.some.inj hu; rw [add_plain]; exact (qj (zY w _) 1).trans rfl⟩⟩⟩
  have HK := qa.mk hcon
  clear hcon hr0 hr1
  go_enter Try.func121, Try.ntmps121
  go_wp2_with (first | (go_at_call 155; refine (qN.calls 8 _ 2 [l0, l1] _ _ (HC w).out (Nat.le_refl _) HK.out).mono ?_; rintro e w1 ⟨v, rfl, ho, hb⟩; have HO := qa.mk (Kd.xR (enc := Value.string) (h1 := fun _ => rfl) ho); have HB := qa.mk (qD (qg (Below.refl w.heap.size w) _) hb); clear ho hb) | fail)
  have hlen : (l0 ++ l1).length < 8796093022208 := by rw [List.length_append]; exact hlt
  have HLN := qa.mk hlen
  clear hlen
  obtain ⟨L, hL⟩ : ∃ L, L = l0 ++ l1 := ⟨_, rfl⟩
  have HU : qa (xm l0 l1 = zK (Lib.compact (vQ L))) := ⟨by rw [hL]; rfl⟩
  rw [← hL] at HO HLN
  clear hL
  rcases HO.out.2 with ⟨rfl, hn⟩ | ⟨g, cap, cur, rfl, hg, hh, hnc, hcm, hcs, htake⟩
  ·have hnil : L = [] := List.eq_nil_of_length_eq_zero hn
   have HX : qa (xm l0 l1 = []) := ⟨by rw [HU.out, hnil]; exact Qe⟩
   clear hnil hn HO HLN
   go_wp2_with (first | (go_at_call 156; refine (Try.slices_Sort_string_none _ _ _).mono ?_; rintro e w2 ⟨rfl, rfl⟩) | (go_at_call 157; refine (Try.slices_Compact_string_empty _ _ _).mono ?_; rintro e w3 ⟨rfl, rfl⟩))
   go_ret
   exact ⟨_, rfl, by rw [HX.out]; exact Kd.jO _ _ _ _ _, HB.out⟩
  ·have hS := kK L g cap cur w.heap.size w w1 HB.out (Nat.le_trans (by simp) hg) hh hnc hcm hcs htake HLN.out HB.out.size
   have HS := qa.mk hS
   clear hS hg hh hnc hcm hcs htake HO
   go_wp2_with fail
   (with_reducible refine HS.out.mono ?_)
   rintro e w2 ⟨rfl, hC⟩
   have HC2 := qa.mk hC
   clear hC
   go_wp2_with fail
   (with_reducible refine HC2.out.mono ?_)
   rintro e w3 ⟨v3, rfl, ho, hb⟩
   have HO3 := qa.mk ho
   have HB3 := qa.mk hb
   clear ho hb
   go_wp2
   go_ret
   exact ⟨_, rfl, by rw [HU.out]; exact HO3.out, HB3.out⟩
 ·rw [if_neg hlt] at h
  cases h
end Go.Proofs.Ytcjbghmhdefdiaa.S
namespace Go.Proofs.Ytcjbghmhdefdiaa.S
open Go.RowKit Go.Proofs.YtcjbghmhdefdiaaW.PrintWords Go.Proofs.YtcjbghmhdefdiaaW.PrintLast Go.Proofs.YtcjbghmhdefdiaaW.PrintMore
attribute [local go_sem] vW vZ zi zk vL vK vY vV
set_option linter.unusedVariables false
set_option linter.unusedSimpArgs false
def vF.j0 : Nat → List ByteArray → Bool → Option (Bool)
 | 0, _, _ => none
 | k + 1, x0, x9 => if x9 = true then (some false) else ((zT.f x0 ([] : List ByteArray)).bind fun t265 => ((qF.f k x0 t265).bind fun t268 => (some t268)))
def vF.f (k : Nat) (l0 : List ByteArray) : Option (Bool) := if (l0.length : Int) > 64 then (vF.j0 k l0 true) else ((qP.f k l0).bind fun t264 => (vF.j0 k l0 t264))
theorem vF.zA : ∀ k, (∀ y0 y1, LeO (vF.j0 k y0 y1) (vF.j0 (k + 1) y0 y1))
 | 0 => fun _ _ r h => by simp [vF.j0] at h
 | k + 1 => by
  have ih0 := vF.zA k
  ·intro y0 y1
   unfold vF.j0
   repeat' first
   | (with_reducible exact ih0 _ _)
   | (with_reducible exact qP.mono _ _)
   | (with_reducible exact qF.mono _ _ _)
   | (with_reducible exact LeO.refl _)
   | (with_reducible exact LeO.none _)
   | (with_reducible refine LeO.ite ?_ ?_)
   | (with_reducible refine LeO.bind ?_ (fun _ => ?_))
   | exact ih0 _ _
   | exact qP.mono _ _
   | exact qF.mono _ _ _
   | exact LeO.none _
   | refine LeO.ite ?_ ?_
   | refine LeO.bind ?_ (fun _ => ?_)
theorem vF.mono : ∀ a0 k, LeO (vF.f k a0) (vF.f (k + 1) a0) := by
 intro a0 k
 have ih0 := vF.zA k
 unfold vF.f
 repeat' first
   | (with_reducible exact ih0 _ _)
   | (with_reducible exact qP.mono _ _)
   | (with_reducible exact qF.mono _ _ _)
   | (with_reducible exact LeO.refl _)
   | (with_reducible exact LeO.none _)
   | (with_reducible refine LeO.ite ?_ ?_)
   | (with_reducible refine LeO.bind ?_ (fun _ => ?_))
   | exact ih0 _ _
   | exact qP.mono _ _
   | exact qF.mono _ _ _
   | exact LeO.none _
   | refine LeO.ite ?_ ?_
   | refine LeO.bind ?_ (fun _ => ?_)
set_option maxHeartbeats 8000000 in
set_option maxRecDepth 100000 in
theorem vF.calls (k : Nat) (A0 : Option Addr) (c0 : Nat) (l0 : List ByteArray) (r : Bool) (w : World) (hr0 : Kd.C Kd.string w A0 l0.length l0) (hc0 : l0.length ≤ c0) (h : vF.f k l0 = some r) :
  Calls Try.prog 129 #[.slice A0 l0.length c0] w fun e w' => e = .returned (.bool r) ∧ Below w.heap.size w w' := by
 have HR0 := qa.mk hr0
 have HC0 := qa.mk hc0
 clear hr0 hc0
 have HB := qa.mk (Below.refl w.heap.size w)
 have H : (if (l0.length : Int) > 64 then (vF.j0 k l0 true) else ((qP.f k l0).bind fun t264 => (vF.j0 k l0 t264))) = some r := h
 clear h
 have HC2 := qa.mk H
 clear H
 go_enter Try.func129, Try.ntmps129
 go_upto_region 1 with (fail)
 go_cut [9] (fun v9 wc => ∃ (kq : Nat) (x9_1 : Bool), v9 = .bool x9_1 ∧ qa (vF.j0 kq l0 x9_1 = some r) ∧ qa (kq ≤ k) ∧ qa (Below w.heap.size w wc))
 case first =>
  have H := HC2.out
  clear HC2
  by_cases c3 : (l0.length : Int) > 64
  ·rw [if_pos c3] at H
   have c3b0 : decide (64 < (l0.length : Int)) = true := decide_eq_true c3
   have c3b1 : decide (64 < l0.length) = true := decide_eq_true (by omega)
   clear c3
   (first | rw [c3b0] | (simp only [qw, qx]; rw [c3b0]) | skip)
   have H' := qa.mk H
   clear H
   go_wp2
   go_meet
   case rel => exact ⟨_, (true), (by first | rfl | (simp; done) | (simp [*]; done)), H', ⟨by first | omega | exact Nat.le_refl _⟩, ⟨by repeat (first | (with_reducible first | exact HB.out | apply qg | apply qb | apply qf) | exact HB.out)⟩⟩
  ·rw [if_neg c3] at H
   have c3b0 : decide (64 < (l0.length : Int)) = false := decide_eq_false c3
   have c3b1 : decide (64 < l0.length) = false := decide_eq_false (by omega)
   clear c3
   (first | rw [c3b0] | (simp only [qw, qx]; rw [c3b0]) | skip)
   replace H := Option.bind_eq_some_iff.mp H
   obtain ⟨t264, A40, H⟩ := H
   replace H : (vF.j0 k l0 t264) = some r := H
   have A4 := qa.mk A40
   clear A40
   have H' := qa.mk H
   clear H
   go_wp2_with (first | (go_at_call 165; (with_reducible refine (qP.calls k _ _ l0 t264 _ ?side1 ?side2 A4.out).mono ?_); (case side1 => repeat (first | exact (Kd.qU HR0.out HB.out) | (with_reducible refine Kd.C_alloc ?_ _) | (with_reducible refine Kd.C_drewN ?_ _) | (with_reducible refine Kd.qQ ?_))); (case side2 => exact HC0.out); rintro e w' ⟨rfl, ⟨nd, rfl⟩⟩))
   go_meet
   case rel => exact ⟨_, (t264), (by first | rfl | (simp; done) | (simp [*]; done)), H', ⟨by first | omega | exact Nat.le_refl _⟩, ⟨by repeat (first | (with_reducible first | exact HB.out | apply qg | apply qb | apply qf) | exact HB.out)⟩⟩
 case rest =>
  clear HC2
  try clear c1
  try clear p2
  try clear c3
  try clear c3b0
  try clear c3b1
  obtain ⟨kq, x9_1, rfl, HA, HJ1, HB⟩ := hcut
  cases kq with
  | zero => exact absurd HA.out (by simp [vF.j0])
  | succ kj1 =>
   have H := HA.out
   clear HA
   simp only [vF.j0] at H
   by_cases c5 : x9_1 = true
   ·subst c5
    have H1 : (some false) = some r := by rw [if_pos rfl] at H; exact H
    clear H
    have H := H1
    clear H1
    obtain rfl := Option.some.inj H
    go_wp2
    go_ret
    exact ⟨by first | rfl | (simp [errW_none, errW_some] <;> rfl) | (simp [*, errW_none, errW_some] <;> rfl), by repeat (first | (with_reducible first | exact HB.out | apply qg | apply qb | apply qf) | exact HB.out)⟩
   ·replace c5 := Bool.eq_false_iff.mpr c5
    subst c5
    have H1 : ((zT.f l0 ([] : List ByteArray)).bind fun t265 => ((qF.f kj1 l0 t265).bind fun t268 => (some t268))) = some r := by rw [if_neg (show ¬ (false = true) by decide)] at H; exact H
    clear H
    have H := H1
    clear H1
    replace H := Option.bind_eq_some_iff.mp H
    obtain ⟨t265, A60, H⟩ := H
    replace H : ((qF.f kj1 l0 t265).bind fun t268 => (some t268)) = some r := H
    have A6 := qa.mk A60
    clear A60
    replace H := Option.bind_eq_some_iff.mp H
    obtain ⟨t268, A70, H⟩ := H
    replace H : (some t268) = some r := H
    have A7 := qa.mk A70
    clear A70
    obtain rfl := Option.some.inj H
    go_wp2_with (first | ((with_reducible refine qR (f := 121) rfl ?_); refine vP (some 12) rfl rfl Try.func121 (by kernel_rfl) rfl #[.slice A0 l0.length c0, .slice none 0 0] rfl (by (try simp only [List.map_toArray, List.map_cons, List.map_nil]); first | done | rfl | (simp only [List.length_drop, List.length_take]; rfl)) ?_; (refine (zT.calls _ _ l0 _ _ ([] : List ByteArray) t265 _ ?side1 ?side2 ?side3 ?side4 A6.out).mono ?_); (case side1 => repeat (first | exact (Kd.qU HR0.out HB.out) | (with_reducible refine Kd.C_alloc ?_ _) | (with_reducible refine Kd.C_drewN ?_ _) | (with_reducible refine Kd.qQ ?_))); (case side2 => exact HC0.out); (case side3 => exact Kd.kz _ _); (case side4 => exact Nat.le_refl _); rintro e w8 ⟨v266, rfl, ho0, hb⟩; refine ⟨_, rfl, ?_⟩; have n0_ := qa.mk (Kd.vO ho0 (qA (by repeat (first | (with_reducible first | exact HB.out | apply qg | apply qb | apply qf) | exact HB.out)))); have n1_ := qa.mk (qD (by repeat (first | (with_reducible first | exact HB.out | apply qg | apply qb | apply qf) | exact HB.out)) hb); clear HB; have HO267 := n0_; have HB := n1_; clear n0_ n1_; (try clear hb); (try clear hb2); (try clear hk); (try clear hi); (try clear ho0); obtain ⟨Ao9, co9, eo9⟩ := Kd.zn HO267.out; subst eo9) | ((with_reducible refine qR (f := 141) rfl ?_); refine vP (some 13) rfl rfl Try.func141 (by kernel_rfl) rfl #[.slice A0 l0.length c0, .slice Ao9 t265.length co9] rfl (by (try simp only [List.map_toArray, List.map_cons, List.map_nil]); first | done | rfl | (simp only [List.length_drop, List.length_take]; rfl)) ?_; (with_reducible refine (qF.calls kj1 _ _ l0 _ _ t265 t268 _ ?side1 ?side2 ?side3 ?side4 A7.out).mono ?_); (case side1 => repeat (first | exact (Kd.qU HR0.out HB.out) | (with_reducible refine Kd.C_alloc ?_ _) | (with_reducible refine Kd.C_drewN ?_ _) | (with_reducible refine Kd.qQ ?_))); (case side2 => exact HC0.out); (case side3 => repeat (first | exact (Kd.qH HO267.out).2.2 | (with_reducible refine Kd.C_alloc ?_ _) | (with_reducible refine Kd.C_drewN ?_ _) | (with_reducible refine Kd.qQ ?_))); (case side4 => exact (Kd.qH HO267.out).2.1); rintro e w' ⟨rfl, ⟨nd, rfl⟩⟩; refine ⟨_, rfl, ?_⟩))
    go_ret
    exact ⟨by first | rfl | (simp [errW_none, errW_some] <;> rfl) | (simp [*, errW_none, errW_some] <;> rfl), by repeat (first | (with_reducible first | exact HB.out | apply qg | apply qb | apply qf) | exact HB.out)⟩
attribute [local go_sem] vW vZ zi zk vL vK vY vV
set_option linter.unusedVariables false
set_option linter.unusedSimpArgs false
def vS.l0 : Nat → Int → List Int → Int → Int → Option (Int)
 | 0, _, _, _, _ => none
 | k + 1, x3, x6, x7, x8 => if x8 < x7 then (if 0 ≤ x8 then (if x8 < (x6.length : Int) then (if (rd x6 x8) = x3 then (vS.l0 k x3 x6 x7 (wrap64 (x8 + 1))) else (some (rd x6 x8))) else (none)) else (none)) else (some x3)
def vS.f (k : Nat) (l0 : List Int) : Option (Int) := vS.l0 k 0 l0 (l0.length : Int) 0
set_option maxHeartbeats 8000000 in
set_option maxRecDepth 100000 in
theorem vS.calls (k : Nat) (A0 : Option Addr) (c0 : Nat) (l0 : List Int) (r : Int) (w : World) (hr0 : Kd.C (Kd.int .i64) w A0 l0.length l0) (hc0 : l0.length ≤ c0) (h : vS.f k l0 = some r) :
  Calls Try.prog 163 #[.slice A0 l0.length c0] w fun e w' => e = .returned (.int .i64 r) ∧ ve w w' := by
 have HR0 := qa.mk hr0
 have HC0 := qa.mk hc0
 clear hr0 hc0
 have H : (vS.l0 k 0 l0 (l0.length : Int) 0) = some r := h
 clear h
 have H' := qa.mk H
 clear H
 go_enter Try.func163, Try.ntmps163
 go_wp2
 go_loopg [8] k (fun kq v8 w' => ∃ (x8_1 : Int), v8 = .int .i64 x8_1 ∧ qa (vS.l0 kq 0 l0 (l0.length : Int) x8_1 = some r) ∧ qa (kq ≤ k) ∧ ve w w')
 case atStart => exact ⟨(0), (by first | rfl | (simp; done) | (simp [*]; done)), H', ⟨Nat.le_refl _⟩, by repeat (first | exact ve.refl _ | apply ve.step)⟩
 case round =>
  clear H'
  try clear c1
  obtain ⟨x8_1, rfl, HA, HK1, ⟨m1, rfl⟩⟩ := hrel
  cases gk with
  | zero => exact absurd HA.out (by simp [vS.l0])
  | succ k1 =>
   have H := HA.out
   clear HA
   simp only [vS.l0] at H
   by_cases c2 : x8_1 < (l0.length : Int)
   ·rw [if_pos c2] at H
    have c2b0 : decide (x8_1 < (l0.length : Int)) = true := decide_eq_true c2
    clear c2
    by_cases c3 : 0 ≤ x8_1
    ·rw [if_pos c3] at H
     have c3b0 : decide (0 ≤ x8_1) = true := decide_eq_true c3
     clear c3
     by_cases c4 : x8_1 < (l0.length : Int)
     ·rw [if_pos c4] at H
      have c4b0 : decide (x8_1 < (l0.length : Int)) = true := decide_eq_true c4
      clear c4
      by_cases c5 : (rd l0 x8_1) = 0
      ·rw [if_pos c5] at H
       have c5b0 : ((rd l0 x8_1) == 0) = true := beq_iff_eq.mpr c5
       have c5b1 : ((rd l0 x8_1) != 0) = false := bne_eq_false_iff_eq.mpr c5
       clear c5
       have H' := qa.mk H
       clear H
       have p105 : 0 ≤ (x8_1 : Int) := of_decide_eq_true (by first | (with_reducible assumption) | assumption)
       have q105 : x8_1 < (l0.length : Int) := of_decide_eq_true (by first | (with_reducible assumption) | assumption)
       obtain ⟨ad105, e105, hx105_0⟩ := Kd.j3 HR0.out x8_1 p105 q105
       cases e105
       replace p105 := eq_true p105
       replace q105 := eq_true q105
       go_wp2
       go_roundg k1
       case measure => have := HK1.out; omega
       case rel => exact ⟨(wrap64 (x8_1 + 1)), (by first | rfl | (simp; done) | (simp [*]; done)), H', ⟨by have := HK1.out; omega⟩, by repeat (first | exact ve.refl _ | apply ve.step)⟩
      ·rw [if_neg c5] at H
       have c5b0 : ((rd l0 x8_1) == 0) = false := beq_eq_false_iff_ne.mpr c5
       have c5b1 : ((rd l0 x8_1) != 0) = true := bne_iff_ne.mpr c5
       obtain rfl := Option.some.inj H
       have p105 : 0 ≤ (x8_1 : Int) := of_decide_eq_true (by first | (with_reducible assumption) | assumption)
       have q105 : x8_1 < (l0.length : Int) := of_decide_eq_true (by first | (with_reducible assumption) | assumption)
       obtain ⟨ad105, e105, hx105_0⟩ := Kd.j3 HR0.out x8_1 p105 q105
       cases e105
       replace p105 := eq_true p105
       replace q105 := eq_true q105
       go_wp2
       go_ret
       exact ⟨by first | rfl | (simp; done) | (simp [*]; done), by repeat (first | exact ve.refl _ | apply ve.step)⟩
     ·rw [if_neg c4] at H
      exact absurd H (by simp)
    ·rw [if_neg c3] at H
     exact absurd H (by simp)
   ·rw [if_neg c2] at H
    have c2b0 : decide (x8_1 < (l0.length : Int)) = false := decide_eq_false c2
    clear c2
    obtain rfl := Option.some.inj H
    go_wp2
    go_ret
    exact ⟨by first | rfl | (simp; done) | (simp [*]; done), by repeat (first | exact ve.refl _ | apply ve.step)⟩
attribute [local go_sem] vW vZ zi zk vL vK vY vV
set_option linter.unusedVariables false
set_option linter.unusedSimpArgs false
def cmp_isNaN_int.f (a0 : Int) : Option (Bool) := some (a0 != a0)
set_option maxHeartbeats 8000000 in
set_option maxRecDepth 100000 in
theorem cmp_isNaN_int.calls (a0 : Int) (r : Bool) (w : World) (h : cmp_isNaN_int.f a0 = some r) :
  Calls Try.prog 191 #[.int .i64 a0] w fun e w' => e = .returned (.bool r) ∧ ve w w' := by
 have H : (some (a0 != a0)) = some r := h
 clear h
 obtain rfl := Option.some.inj H
 go_enter Try.func191, Try.ntmps191
 go_wp2
 go_ret
 exact ⟨by first | rfl | (simp; done) | (simp [*]; done), by repeat (first | exact ve.refl _ | apply ve.step)⟩
attribute [local go_sem] vW vZ zi zk vL vK vY vV
set_option linter.unusedVariables false
set_option linter.unusedSimpArgs false
def cmp_Compare_int.f (a0 : Int) (a1 : Int) : Option (Int) := (cmp_isNaN_int.f a0).bind fun t106 => ((cmp_isNaN_int.f a1).bind fun t107 => (if t106 = true then (if t107 = true then (some 0) else (some (-1))) else (if t107 = true then (some 1) else (if a0 < a1 then (some (-1)) else (if a0 > a1 then (some 1) else (some 0))))))
set_option maxHeartbeats 8000000 in
set_option maxRecDepth 100000 in
theorem cmp_Compare_int.calls (a0 : Int) (a1 : Int) (r : Int) (w : World) (h : cmp_Compare_int.f a0 a1 = some r) :
  Calls Try.prog 164 #[.int .i64 a0, .int .i64 a1] w fun e w' => e = .returned (.int .i64 r) ∧ ve w w' := by
 have H : ((cmp_isNaN_int.f a0).bind fun t106 => ((cmp_isNaN_int.f a1).bind fun t107 => (if t106 = true then (if t107 = true then (some 0) else (some (-1))) else (if t107 = true then (some 1) else (if a0 < a1 then (some (-1)) else (if a0 > a1 then (some 1) else (some 0))))))) = some r := h
 clear h
 replace H := Option.bind_eq_some_iff.mp H
 obtain ⟨t106, A30, H⟩ := H
 replace H : ((cmp_isNaN_int.f a1).bind fun t107 => (if t106 = true then (if t107 = true then (some 0) else (some (-1))) else (if t107 = true then (some 1) else (if a0 < a1 then (some (-1)) else (if a0 > a1 then (some 1) else (some 0)))))) = some r := H
 have A3 := qa.mk A30
 clear A30
 replace H := Option.bind_eq_some_iff.mp H
 obtain ⟨t107, A40, H⟩ := H
 replace H : (if t106 = true then (if t107 = true then (some 0) else (some (-1))) else (if t107 = true then (some 1) else (if a0 < a1 then (some (-1)) else (if a0 > a1 then (some 1) else (some 0))))) = some r := H
 have A4 := qa.mk A40
 clear A40
 by_cases c5 : t106 = true
 ·subst c5
  have H1 : (if t107 = true then (some 0) else (some (-1))) = some r := by rw [if_pos rfl] at H; exact H
  clear H
  have H := H1
  clear H1
  by_cases c6 : t107 = true
  ·subst c6
   have H1 : (some 0) = some r := by rw [if_pos rfl] at H; exact H
   clear H
   have H := H1
   clear H1
   obtain rfl := Option.some.inj H
   go_enter Try.func164, Try.ntmps164
   go_wp2_with (first | ((with_reducible refine qR (f := 191) rfl ?_); refine vP (some 8) rfl rfl Try.func191 (by kernel_rfl) rfl #[.int .i64 a0] rfl (by (try simp only [List.map_toArray, List.map_cons, List.map_nil]); first | done | rfl | (simp only [List.length_drop, List.length_take]; rfl)) ?_; (with_reducible refine (cmp_isNaN_int.calls a0 true _ A3.out).mono ?_); rintro e w' ⟨rfl, ⟨nd, rfl⟩⟩; refine ⟨_, rfl, ?_⟩) | ((with_reducible refine qR (f := 191) rfl ?_); refine vP (some 10) rfl rfl Try.func191 (by kernel_rfl) rfl #[.int .i64 a1] rfl (by (try simp only [List.map_toArray, List.map_cons, List.map_nil]); first | done | rfl | (simp only [List.length_drop, List.length_take]; rfl)) ?_; (with_reducible refine (cmp_isNaN_int.calls a1 true _ A4.out).mono ?_); rintro e w' ⟨rfl, ⟨nd, rfl⟩⟩; refine ⟨_, rfl, ?_⟩))
   go_ret
   exact ⟨by first | rfl | (simp; done) | (simp [*]; done), by repeat (first | exact ve.refl _ | apply ve.step)⟩
  ·replace c6 := Bool.eq_false_iff.mpr c6
   subst c6
   have H1 : (some (-1)) = some r := by rw [if_neg (show ¬ (false = true) by decide)] at H; exact H
   clear H
   have H := H1
   clear H1
   obtain rfl := Option.some.inj H
   go_enter Try.func164, Try.ntmps164
   go_wp2_with (first | ((with_reducible refine qR (f := 191) rfl ?_); refine vP (some 8) rfl rfl Try.func191 (by kernel_rfl) rfl #[.int .i64 a0] rfl (by (try simp only [List.map_toArray, List.map_cons, List.map_nil]); first | done | rfl | (simp only [List.length_drop, List.length_take]; rfl)) ?_; (with_reducible refine (cmp_isNaN_int.calls a0 true _ A3.out).mono ?_); rintro e w' ⟨rfl, ⟨nd, rfl⟩⟩; refine ⟨_, rfl, ?_⟩) | ((with_reducible refine qR (f := 191) rfl ?_); refine vP (some 10) rfl rfl Try.func191 (by kernel_rfl) rfl #[.int .i64 a1] rfl (by (try simp only [List.map_toArray, List.map_cons, List.map_nil]); first | done | rfl | (simp only [List.length_drop, List.length_take]; rfl)) ?_; (with_reducible refine (cmp_isNaN_int.calls a1 false _ A4.out).mono ?_); rintro e w' ⟨rfl, ⟨nd, rfl⟩⟩; refine ⟨_, rfl, ?_⟩))
   go_ret
   exact ⟨by first | rfl | (simp; done) | (simp [*]; done), by repeat (first | exact ve.refl _ | apply ve.step)⟩
 ·replace c5 := Bool.eq_false_iff.mpr c5
  subst c5
  have H1 : (if t107 = true then (some 1) else (if a0 < a1 then (some (-1)) else (if a0 > a1 then (some 1) else (some 0)))) = some r := by rw [if_neg (show ¬ (false = true) by decide)] at H; exact H
  clear H
  have H := H1
  clear H1
  by_cases c7 : t107 = true
  ·subst c7
   have H1 : (some 1) = some r := by rw [if_pos rfl] at H; exact H
   clear H
   have H := H1
   clear H1
   obtain rfl := Option.some.inj H
   go_enter Try.func164, Try.ntmps164
   go_wp2_with (first | ((with_reducible refine qR (f := 191) rfl ?_); refine vP (some 8) rfl rfl Try.func191 (by kernel_rfl) rfl #[.int .i64 a0] rfl (by (try simp only [List.map_toArray, List.map_cons, List.map_nil]); first | done | rfl | (simp only [List.length_drop, List.length_take]; rfl)) ?_; (with_reducible refine (cmp_isNaN_int.calls a0 false _ A3.out).mono ?_); rintro e w' ⟨rfl, ⟨nd, rfl⟩⟩; refine ⟨_, rfl, ?_⟩) | ((with_reducible refine qR (f := 191) rfl ?_); refine vP (some 10) rfl rfl Try.func191 (by kernel_rfl) rfl #[.int .i64 a1] rfl (by (try simp only [List.map_toArray, List.map_cons, List.map_nil]); first | done | rfl | (simp only [List.length_drop, List.length_take]; rfl)) ?_; (with_reducible refine (cmp_isNaN_int.calls a1 true _ A4.out).mono ?_); rintro e w' ⟨rfl, ⟨nd, rfl⟩⟩; refine ⟨_, rfl, ?_⟩))
   go_ret
   exact ⟨by first | rfl | (simp; done) | (simp [*]; done), by repeat (first | exact ve.refl _ | apply ve.step)⟩
  ·replace c7 := Bool.eq_false_iff.mpr c7
   subst c7
   have H1 : (if a0 < a1 then (some (-1)) else (if a0 > a1 then (some 1) else (some 0))) = some r := by rw [if_neg (show ¬ (false = true) by decide)] at H; exact H
   clear H
   have H := H1
   clear H1
   by_cases c8 : a0 < a1
   ·rw [if_pos c8] at H
    have c8b0 : decide (a0 < a1) = true := decide_eq_true c8
    clear c8
    obtain rfl := Option.some.inj H
    go_enter Try.func164, Try.ntmps164
    go_wp2_with (first | ((with_reducible refine qR (f := 191) rfl ?_); refine vP (some 8) rfl rfl Try.func191 (by kernel_rfl) rfl #[.int .i64 a0] rfl (by (try simp only [List.map_toArray, List.map_cons, List.map_nil]); first | done | rfl | (simp only [List.length_drop, List.length_take]; rfl)) ?_; (with_reducible refine (cmp_isNaN_int.calls a0 false _ A3.out).mono ?_); rintro e w' ⟨rfl, ⟨nd, rfl⟩⟩; refine ⟨_, rfl, ?_⟩) | ((with_reducible refine qR (f := 191) rfl ?_); refine vP (some 10) rfl rfl Try.func191 (by kernel_rfl) rfl #[.int .i64 a1] rfl (by (try simp only [List.map_toArray, List.map_cons, List.map_nil]); first | done | rfl | (simp only [List.length_drop, List.length_take]; rfl)) ?_; (with_reducible refine (cmp_isNaN_int.calls a1 false _ A4.out).mono ?_); rintro e w' ⟨rfl, ⟨nd, rfl⟩⟩; refine ⟨_, rfl, ?_⟩))
    go_ret
    exact ⟨by first | rfl | (simp; done) | (simp [*]; done), by repeat (first | exact ve.refl _ | apply ve.step)⟩
   ·rw [if_neg c8] at H
    have c8b0 : decide (a0 < a1) = false := decide_eq_false c8
    clear c8
    by_cases c9 : a0 > a1
    ·rw [if_pos c9] at H
     have c9b0 : decide (a1 < a0) = true := decide_eq_true c9
     clear c9
     obtain rfl := Option.some.inj H
     go_enter Try.func164, Try.ntmps164
     go_wp2_with (first | ((with_reducible refine qR (f := 191) rfl ?_); refine vP (some 8) rfl rfl Try.func191 (by kernel_rfl) rfl #[.int .i64 a0] rfl (by (try simp only [List.map_toArray, List.map_cons, List.map_nil]); first | done | rfl | (simp only [List.length_drop, List.length_take]; rfl)) ?_; (with_reducible refine (cmp_isNaN_int.calls a0 false _ A3.out).mono ?_); rintro e w' ⟨rfl, ⟨nd, rfl⟩⟩; refine ⟨_, rfl, ?_⟩) | ((with_reducible refine qR (f := 191) rfl ?_); refine vP (some 10) rfl rfl Try.func191 (by kernel_rfl) rfl #[.int .i64 a1] rfl (by (try simp only [List.map_toArray, List.map_cons, List.map_nil]); first | done | rfl | (simp only [List.length_drop, List.length_take]; rfl)) ?_; (with_reducible refine (cmp_isNaN_int.calls a1 false _ A4.out).mono ?_); rintro e w' ⟨rfl, ⟨nd, rfl⟩⟩; refine ⟨_, rfl, ?_⟩))
     go_ret
     exact ⟨by first | rfl | (simp; done) | (simp [*]; done), by repeat (first | exact ve.refl _ | apply ve.step)⟩
    ·rw [if_neg c9] at H
     have c9b0 : decide (a1 < a0) = false := decide_eq_false c9
     clear c9
     obtain rfl := Option.some.inj H
     go_enter Try.func164, Try.ntmps164
     go_wp2_with (first | ((with_reducible refine qR (f := 191) rfl ?_); refine vP (some 8) rfl rfl Try.func191 (by kernel_rfl) rfl #[.int .i64 a0] rfl (by (try simp only [List.map_toArray, List.map_cons, List.map_nil]); first | done | rfl | (simp only [List.length_drop, List.length_take]; rfl)) ?_; (with_reducible refine (cmp_isNaN_int.calls a0 false _ A3.out).mono ?_); rintro e w' ⟨rfl, ⟨nd, rfl⟩⟩; refine ⟨_, rfl, ?_⟩) | ((with_reducible refine qR (f := 191) rfl ?_); refine vP (some 10) rfl rfl Try.func191 (by kernel_rfl) rfl #[.int .i64 a1] rfl (by (try simp only [List.map_toArray, List.map_cons, List.map_nil]); first | done | rfl | (simp only [List.length_drop, List.length_take]; rfl)) ?_; (with_reducible refine (cmp_isNaN_int.calls a1 false _ A4.out).mono ?_); rintro e w' ⟨rfl, ⟨nd, rfl⟩⟩; refine ⟨_, rfl, ?_⟩))
     go_ret
     exact ⟨by first | rfl | (simp; done) | (simp [*]; done), by repeat (first | exact ve.refl _ | apply ve.step)⟩
attribute [local go_sem] vW vZ zi zk vL vK vY vV
set_option linter.unusedVariables false
set_option linter.unusedSimpArgs false
def zb.f (k : Nat) (a0_0 : Int) (a0_1 : Int) (a0_2 : Int) (a1_0 : Int) (a1_1 : Int) (a1_2 : Int) : Option (Int) := (cmp_Compare_int.f a0_0 a1_0).bind fun t110 => ((cmp_Compare_int.f a0_1 a1_1).bind fun t111 => ((cmp_Compare_int.f a0_2 a1_2).bind fun t112 => ((vS.f k (([t110, t111, t112] : List Int))).bind fun t116 => (some t116))))
def zb.T1 : Bool × List (List Nat × List Nat) := (true, [([], []), ([0], [0]), ([], []), ([2], [2]), ([1, 3], [1, 3]), ([], []), ([5], [5]), ([], []), ([7], [7]), ([6, 8, 4], [6, 8]), ([], []), ([10], [10]), ([], []), ([12], [12]), ([11, 13, 9], [11, 13]), ([4, 9, 14], [4, 9, 14]), ([15, 14], [15]), ([16, 16, 0, 1, 2, 3, 4, 5, 6, 7, 8, 9, 10, 11, 12, 13, 14, 15, 16], [16])])
def zb.B1 : List Nat := [0, 1, 0, 4, 15, 0, 32, 0, 128, 511, 0, 1024, 0, 4096, 16383, 32767, 65535, 131071]
theorem zb.tab1 : rtab .any (opsOf Try.f126 1) = zb.T1 := by kernel_rfl
theorem zb.bits1 : ja zb.T1.2 zb.B1 = true := by kernel_rfl
set_option maxHeartbeats 8000000 in
set_option maxRecDepth 100000 in
theorem zb.calls (k : Nat) (a0_0 : Int) (a0_1 : Int) (a0_2 : Int) (a1_0 : Int) (a1_1 : Int) (a1_2 : Int) (r : Int) (w : World) (h : zb.f k a0_0 a0_1 a0_2 a1_0 a1_1 a1_2 = some r) :
  Calls Try.prog 126 #[.agg #[.int .i64 a0_0, .int .i64 a0_1, .int .i64 a0_2], .agg #[.int .i64 a1_0, .int .i64 a1_1, .int .i64 a1_2]] w fun e w' => e = .returned (.int .i64 r) ∧ Below w.heap.size w w' := by
 have hu55 := Try.underlying55
 have HB := qa.mk (Below.refl w.heap.size w)
 have H : ((cmp_Compare_int.f a0_0 a1_0).bind fun t110 => ((cmp_Compare_int.f a0_1 a1_1).bind fun t111 => ((cmp_Compare_int.f a0_2 a1_2).bind fun t112 => ((vS.f k (([t110, t111, t112] : List Int))).bind fun t116 => (some t116))))) = some r := h
 clear h
 replace H := Option.bind_eq_some_iff.mp H
 obtain ⟨t110, A30, H⟩ := H
 replace H : ((cmp_Compare_int.f a0_1 a1_1).bind fun t111 => ((cmp_Compare_int.f a0_2 a1_2).bind fun t112 => ((vS.f k (([t110, t111, t112] : List Int))).bind fun t116 => (some t116)))) = some r := H
 have A3 := qa.mk A30
 clear A30
 replace H := Option.bind_eq_some_iff.mp H
 obtain ⟨t111, A40, H⟩ := H
 replace H : ((cmp_Compare_int.f a0_2 a1_2).bind fun t112 => ((vS.f k (([t110, t111, t112] : List Int))).bind fun t116 => (some t116))) = some r := H
 have A4 := qa.mk A40
 clear A40
 replace H := Option.bind_eq_some_iff.mp H
 obtain ⟨t112, A50, H⟩ := H
 replace H : ((vS.f k (([t110, t111, t112] : List Int))).bind fun t116 => (some t116)) = some r := H
 have A5 := qa.mk A50
 clear A50
 obtain ⟨y113, hy113⟩ : ∃ y_ : List Int, y_ = (([t110, t111, t112] : List Int)) := ⟨_, rfl⟩
 replace H : ((vS.f k y113).bind fun t116 => (some t116)) = some r := by first | (rw [hy113]; with_reducible exact H) | (have H2_ := (Option.bind_some _ _).symm.trans H; rw [hy113]; with_reducible exact H2_) | (have H2_ := (Option.bind_some _ _).symm.trans H; with_reducible exact H2_) | with_reducible exact H | (rw [hy113]; exact H) | exact H
 have Ny113 := qa.mk hy113
 clear hy113
 replace H := Option.bind_eq_some_iff.mp H
 obtain ⟨t116, A60, H⟩ := H
 replace H : (some t116) = some r := H
 have A6 := qa.mk A60
 clear A60
 obtain rfl := Option.some.inj H
 go_enter Try.func126, Try.ntmps126
 try go_wp2_with (first | ((with_reducible refine qY (N := 2) rfl ?_); refine qZ ?hg (N := 2) ?hd (cs := #[.int .i64 a0_0, .int .i64 a0_1, .int .i64 a0_2]) (t := 55) ?hr ?_; (case hd => rfl); (case hg => rfl); (case hr => first | (go_simp; done) | (go_simp; rfl)); intro gb108 hg w7 hbox hb; have n0_ := qa.mk (qD (by repeat (first | (with_reducible first | exact HB.out | apply qg | apply qb | apply qf) | exact HB.out)) hb); have n1_ := qa.mk (hbox); have n2_ := qa.mk ((by rw [hg]; exact (qA (by repeat (first | (with_reducible first | exact HB.out | apply qg | apply qb | apply qf) | exact HB.out))) : w.heap.size ≤ gb108)); have n3_ := qa.mk ((by rw [hg]; exact (qA (by repeat (first | (with_reducible first | exact HB.out | apply qg | apply qb | apply qf) | exact HB.out))) : w.heap.size ≤ gb108)); clear HB; have HB := n0_; have BK108 := n1_; have GW108 := n2_; have GE108 := n3_; clear n0_ n1_ n2_ n3_; clear hb hbox hg) | ((with_reducible refine qY (N := 3) rfl ?_); refine qZ ?hg (N := 3) ?hd (cs := #[.int .i64 a1_0, .int .i64 a1_1, .int .i64 a1_2]) (t := 55) ?hr ?_; (case hd => rfl); (case hg => rfl); (case hr => first | (go_simp; done) | (go_simp; rfl)); intro gb109 hg w8 hbox hb; have n0_ := qa.mk (qB (g := gb108) (o := .cells #[.int .i64 a0_0, .int .i64 a0_1, .int .i64 a0_2] 55 (0, 0)) (by (with_reducible repeat (first | refine qi ?_ _ | refine ql ?_ | refine qh ?_ _)); exact BK108.out) hb); have n1_ := qa.mk (qD (by repeat (first | (with_reducible first | exact HB.out | apply qg | apply qb | apply qf | refine qd ?_ GE108.out) | exact HB.out)) hb); have n2_ := qa.mk (hbox); have n3_ := qa.mk ((by rw [hg]; exact (qA (by repeat (first | (with_reducible first | exact HB.out | apply qg | apply qb | apply qf | refine qd ?_ GE108.out) | exact HB.out))) : w.heap.size ≤ gb109)); have n4_ := qa.mk ((by rw [hg]; exact (qA (by repeat (first | (with_reducible first | exact HB.out | apply qg | apply qb | apply qf | refine qd ?_ GE108.out) | exact HB.out))) : w.heap.size ≤ gb109)); have n5_ := qa.mk ((by rw [hg]; exact Nat.ne_of_lt (vz (g := gb108) (o := .cells #[.int .i64 a0_0, .int .i64 a0_1, .int .i64 a0_2] 55 (0, 0)) (by (with_reducible repeat (first | refine qi ?_ _ | refine ql ?_ | refine qh ?_ _)); exact BK108.out)) : gb108 ≠ gb109)); have n6_ := qa.mk ((by rw [hg]; exact Nat.ne_of_gt (vz (g := gb108) (o := .cells #[.int .i64 a0_0, .int .i64 a0_1, .int .i64 a0_2] 55 (0, 0)) (by (with_reducible repeat (first | refine qi ?_ _ | refine ql ?_ | refine qh ?_ _)); exact BK108.out)) : gb109 ≠ gb108)); clear BK108; clear HB; have BK108 := n0_; have HB := n1_; have BK109 := n2_; have GW109 := n3_; have GE109 := n4_; have NB108_109 := n5_; have NB109_108 := n6_; clear n0_ n1_ n2_ n3_ n4_ n5_ n6_; clear hb hbox hg))
 have n0_ := qa.mk (ql BK108.out)
 have n1_ := qa.mk (ql BK109.out)
 have n2_ := qa.mk (qf HB.out)
 clear BK108
 clear BK109
 clear HB
 have BK108 := n0_
 have BK109 := n1_
 have HB := n2_
 clear n0_ n1_ n2_
 refine zI (n := 18) (S := fun w' => w'.cell? ⟨gb108, 0, none⟩ = some (.int .i64 a0_0) ∧ w'.cell? ⟨gb108, 1, none⟩ = some (.int .i64 a0_1) ∧ w'.cell? ⟨gb108, 2, none⟩ = some (.int .i64 a0_2) ∧ w'.cell? ⟨gb109, 0, none⟩ = some (.int .i64 a1_0) ∧ w'.cell? ⟨gb109, 1, none⟩ = some (.int .i64 a1_1) ∧ w'.cell? ⟨gb109, 2, none⟩ = some (.int .i64 a1_2)) (ds := []) tb2_0 (by kernel_rfl) rfl rfl ⟨(qj BK108.out 0).trans rfl, (qj BK108.out 1).trans rfl, (qj BK108.out 2).trans rfl, (qj BK109.out 0).trans rfl, (qj BK109.out 1).trans rfl, (qj BK109.out 2).trans rfl⟩ (fun hHeld => ?_); refine zS zb.tab1 zb.bits1 (fun HT_ HW_ => ?_)
 generalize w8.drew = w9 at BK108 BK109 HB hHeld ⊢
 refine qy (i := 0) (N := some 5) tb2_1 rfl rfl (vo HT_.out (by kernel_rfl)) (fun _ _ _ h => h) (.inl ⟨by rfl, by intro w'; go_simp; with_reducible rfl⟩) (by simp only [Act.put, sA, sB, sC, qw, qx]; rfl) ?_
 refine qy (i := 2) (N := some 7) tb2_2 rfl rfl (vo HT_.out (by kernel_rfl)) (fun _ _ _ h => h) (.inl ⟨by rfl, by intro w'; go_simp; with_reducible rfl⟩) (by simp only [Act.put, sA, sB, sC, qw, qx]; rfl) ?_
 refine qy (i := 5) (N := some 10) tb2_3 rfl rfl (vo HT_.out (by kernel_rfl)) (fun _ _ _ h => h) (.inl ⟨by rfl, by intro w'; go_simp; with_reducible rfl⟩) (by simp only [Act.put, sA, sB, sC, qw, qx]; rfl) ?_
 refine qy (i := 7) (N := some 12) tb2_4 rfl rfl (vo HT_.out (by kernel_rfl)) (fun _ _ _ h => h) (.inl ⟨by rfl, by intro w'; go_simp; with_reducible rfl⟩) (by simp only [Act.put, sA, sB, sC, qw, qx]; rfl) ?_
 refine qy (i := 10) (N := some 15) tb2_5 rfl rfl (vo HT_.out (by kernel_rfl)) (fun _ _ _ h => h) (.inl ⟨by rfl, by intro w'; go_simp; with_reducible rfl⟩) (by simp only [Act.put, sA, sB, sC, qw, qx]; rfl) ?_
 refine qy (i := 12) (N := some 17) tb2_6 rfl rfl (vo HT_.out (by kernel_rfl)) (fun _ _ _ h => h) (.inl ⟨by rfl, by intro w'; go_simp; with_reducible rfl⟩) (by simp only [Act.put, sA, sB, sC, qw, qx]; rfl) ?_
 refine vJ (i := 1) (N := some 6) tb2_7 rfl rfl (zu HT_.out HW_.out (by kernel_rfl)) (fun _ _ _ h => h) (.inl ⟨by rfl, by rintro w' ⟨s0, s1, s2, s3, s4, s5⟩; go_simp; with_reducible rfl⟩) hHeld (by simp only [Act.put, sA, sB, sC, qw, qx]; rfl) ?_
 refine vJ (i := 3) (N := some 8) tb2_8 rfl rfl (zu HT_.out HW_.out (by kernel_rfl)) (fun _ _ _ h => h) (.inl ⟨by rfl, by rintro w' ⟨s0, s1, s2, s3, s4, s5⟩; go_simp; with_reducible rfl⟩) hHeld (by simp only [Act.put, sA, sB, sC, qw, qx]; rfl) ?_
 refine vJ (i := 6) (N := some 11) tb2_9 rfl rfl (zu HT_.out HW_.out (by kernel_rfl)) (fun _ _ _ h => h) (.inl ⟨by rfl, by rintro w' ⟨s0, s1, s2, s3, s4, s5⟩; go_simp; with_reducible rfl⟩) hHeld (by simp only [Act.put, sA, sB, sC, qw, qx]; rfl) ?_
 refine vJ (i := 8) (N := some 13) tb2_10 rfl rfl (zu HT_.out HW_.out (by kernel_rfl)) (fun _ _ _ h => h) (.inl ⟨by rfl, by rintro w' ⟨s0, s1, s2, s3, s4, s5⟩; go_simp; with_reducible rfl⟩) hHeld (by simp only [Act.put, sA, sB, sC, qw, qx]; rfl) ?_
 refine vJ (i := 11) (N := some 16) tb2_11 rfl rfl (zu HT_.out HW_.out (by kernel_rfl)) (fun _ _ _ h => h) (.inl ⟨by rfl, by rintro w' ⟨s0, s1, s2, s3, s4, s5⟩; go_simp; with_reducible rfl⟩) hHeld (by simp only [Act.put, sA, sB, sC, qw, qx]; rfl) ?_
 refine vJ (i := 13) (N := some 18) tb2_12 rfl rfl (zu HT_.out HW_.out (by kernel_rfl)) (fun _ _ _ h => h) (.inl ⟨by rfl, by rintro w' ⟨s0, s1, s2, s3, s4, s5⟩; go_simp; with_reducible rfl⟩) hHeld (by simp only [Act.put, sA, sB, sC, qw, qx]; rfl) ?_
 refine one_ (i := 4) (N := some 9) tb2_13 rfl rfl (zU HT_.out (by kernel_rfl)) (by decide) (fun K hK => ?_)
 refine jI Try.func164 (by kernel_rfl) rfl #[.int .i64 a0_0, .int .i64 a1_0] (by rfl) rfl rfl (by (try simp only [List.map_toArray, List.map_cons, List.map_nil]); first | done | rfl | (simp only [List.length_drop, List.length_take]; rfl)) ?_
 with_reducible refine (cmp_Compare_int.calls a0_0 a1_0 t110 _ A3.out).mono ?_
 rintro e w' ⟨rfl, ⟨nd, rfl⟩⟩
 refine ⟨_, rfl, ?_⟩
 refine hK.out _ _ ⟨(qj BK108.out 0).trans rfl, (qj BK108.out 1).trans rfl, (qj BK108.out 2).trans rfl, (qj BK109.out 0).trans rfl, (qj BK109.out 1).trans rfl, (qj BK109.out 2).trans rfl⟩ (fun hHeld => ?_)
 clear hK K
 refine zo (a' := ?_) ?_ ?_
 rotate_left
 ·show Act.put _ (some 9) _ = _
  simp only [Act.put, sA, sB, sC, qw, qx]
  rfl
 refine one_ (i := 9) (N := some 14) tb2_14 rfl rfl (zU HT_.out (by kernel_rfl)) (by decide) (fun K hK => ?_)
 refine jI Try.func164 (by kernel_rfl) rfl #[.int .i64 a0_1, .int .i64 a1_1] (by rfl) rfl rfl (by (try simp only [List.map_toArray, List.map_cons, List.map_nil]); first | done | rfl | (simp only [List.length_drop, List.length_take]; rfl)) ?_
 with_reducible refine (cmp_Compare_int.calls a0_1 a1_1 t111 _ A4.out).mono ?_
 rintro e w' ⟨rfl, ⟨nd, rfl⟩⟩
 refine ⟨_, rfl, ?_⟩
 refine hK.out _ _ ⟨(qj BK108.out 0).trans rfl, (qj BK108.out 1).trans rfl, (qj BK108.out 2).trans rfl, (qj BK109.out 0).trans rfl, (qj BK109.out 1).trans rfl, (qj BK109.out 2).trans rfl⟩ (fun hHeld => ?_)
 clear hK K
 refine zo (a' := ?_) ?_ ?_
 rotate_left
 ·show Act.put _ (some 14) _ = _
  simp only [Act.put, sA, sB, sC, qw, qx]
  rfl
 refine one_ (i := 14) (N := some 19) tb2_15 rfl rfl (zU HT_.out (by kernel_rfl)) (by decide) (fun K hK => ?_)
 refine jI Try.func164 (by kernel_rfl) rfl #[.int .i64 a0_2, .int .i64 a1_2] (by rfl) rfl rfl (by (try simp only [List.map_toArray, List.map_cons, List.map_nil]); first | done | rfl | (simp only [List.length_drop, List.length_take]; rfl)) ?_
 with_reducible refine (cmp_Compare_int.calls a0_2 a1_2 t112 _ A5.out).mono ?_
 rintro e w' ⟨rfl, ⟨nd, rfl⟩⟩
 refine ⟨_, rfl, ?_⟩
 refine hK.out _ _ ⟨(qj BK108.out 0).trans rfl, (qj BK108.out 1).trans rfl, (qj BK108.out 2).trans rfl, (qj BK109.out 0).trans rfl, (qj BK109.out 1).trans rfl, (qj BK109.out 2).trans rfl⟩ (fun hHeld => ?_)
 clear hK K
 refine zo (a' := ?_) ?_ ?_
 rotate_left
 ·show Act.put _ (some 19) _ = _
  simp only [Act.put, sA, sB, sC, qw, qx]
  rfl
 refine one_ (i := 15) (N := some 20) tb2_16 rfl rfl (zU HT_.out (by kernel_rfl)) (by decide) (fun K hK => ?_)
 refine Kd.zC (Kd.int .i64) _ 3 ?hg (N := 20) ?hd (xs := ([t110, t111, t112] : List Int)) (inner := [.int .i64 t110, .int .i64 t111, .int .i64 t112]) (ok := fun _ => True) (okp := fun _ => True) ?hr ?hp (fun _ hk => hk) trivial (Below.refl _ _) (Nat.le_refl _) (by simp) ?_; (case hd => rfl); (case hg => rfl); (case hr => first | (go_simp; done) | (go_simp; rfl)); (case hp => exact (Reps.one (show Kd.M (Kd.int .i64) _ _ _ t110 [.int .i64 t110] from rfl) (Reps.one (show Kd.M (Kd.int .i64) _ _ _ t111 [.int .i64 t111] from rfl) (Reps.one (show Kd.M (Kd.int .i64) _ _ _ t112 [.int .i64 t112] from rfl) (Reps.none _ _)))))
 intro v114 w10 ho11 hb hg_ hnew_
 clear hg_ hnew_
 (first | rw [← Ny113.out] at ho11 | (simp only [Int.reduceToNat] at ho11; rw [← Ny113.out] at ho11))
 have n0_ := qa.mk (Kd.vO ho11 (qA (by repeat (first | (with_reducible first | exact HB.out | apply qg | apply qb | apply qf | refine qd ?_ GE108.out | refine qd ?_ GE109.out) | exact HB.out))))
 have n1_ := qa.mk (qB (g := gb108) (o := .cells #[.int .i64 a0_0, .int .i64 a0_1, .int .i64 a0_2] 55 (0, 0)) (by (with_reducible repeat (first | refine qi ?_ _ | refine ql ?_ | refine qh ?_ _)); exact BK108.out) hb)
 have n2_ := qa.mk (qB (g := gb109) (o := .cells #[.int .i64 a1_0, .int .i64 a1_1, .int .i64 a1_2] 55 (0, 0)) (by (with_reducible repeat (first | refine qi ?_ _ | refine ql ?_ | refine qh ?_ _)); exact BK109.out) hb)
 have n3_ := qa.mk (qD (by repeat (first | (with_reducible first | exact HB.out | apply qg | apply qb | apply qf | refine qd ?_ GE108.out | refine qd ?_ GE109.out) | exact HB.out)) hb)
 clear BK108
 clear BK109
 clear HB
 have HO115 := n0_
 have BK108 := n1_
 have BK109 := n2_
 have HB := n3_
 clear n0_ n1_ n2_ n3_
 clear hb ho11
 obtain ⟨Ao12, co12, eo12⟩ := Kd.zn HO115.out
 (first | subst eo12 | (injection eo12 with f1_ f2_ f3_; have f4_ := f1_.symm; have f5_ := f3_.symm; clear f1_ f2_ f3_; subst f4_; subst f5_))
 refine hK.out _ _ ⟨(qj BK108.out 0).trans rfl, (qj BK108.out 1).trans rfl, (qj BK108.out 2).trans rfl, (qj BK109.out 0).trans rfl, (qj BK109.out 1).trans rfl, (qj BK109.out 2).trans rfl⟩ (fun hHeld => ?_)
 clear hK K
 refine zo (a' := ?_) ?_ ?_
 rotate_left
 ·show Act.put _ (some 20) _ = _
  simp only [Act.put, sA, sB, sC, qw, qx]
  rfl
 refine one_ (i := 16) (N := some 21) tb2_17 rfl rfl (zU HT_.out (by kernel_rfl)) (by decide) (fun K hK => ?_)
 refine jI Try.func163 (by kernel_rfl) rfl #[.slice Ao12 y113.length co12] (by rfl) rfl rfl (by (try simp only [List.map_toArray, List.map_cons, List.map_nil]); first | done | rfl | (simp only [List.length_drop, List.length_take]; rfl)) ?_
 with_reducible refine (vS.calls k _ _ y113 t116 _ ?side1 ?side2 A6.out).mono ?_
 (case side1 => repeat (first | exact (Kd.qH HO115.out).2.2 | (with_reducible refine Kd.C_alloc ?_ _) | (with_reducible refine Kd.C_drewN ?_ _) | (with_reducible refine Kd.qQ ?_)))
 (case side2 => exact (Kd.qH HO115.out).2.1)
 rintro e w' ⟨rfl, ⟨nd, rfl⟩⟩
 refine ⟨_, rfl, ?_⟩
 refine hK.out _ _ ⟨(qj BK108.out 0).trans rfl, (qj BK108.out 1).trans rfl, (qj BK108.out 2).trans rfl, (qj BK109.out 0).trans rfl, (qj BK109.out 1).trans rfl, (qj BK109.out 2).trans rfl⟩ (fun hHeld => ?_)
 clear hK K
 refine zo (a' := ?_) ?_ ?_
 rotate_left
 ·show Act.put _ (some 21) _ = _
  simp only [Act.put, sA, sB, sC, qw, qx]
  rfl
 refine qy (i := 17) (N := some 4) tb2_18 rfl rfl (vo HT_.out (by kernel_rfl)) (fun _ _ _ h => h) (.inl ⟨by rfl, by intro w'; go_simp; with_reducible rfl⟩) (by simp only [Act.put, sA, sB, sC, qw, qx]; rfl) ?_
 refine zP (wO HT_.out (by kernel_rfl)) ?_
 try go_wp2
 go_ret
 exact ⟨by first | rfl | (simp [errW_none, errW_some] <;> rfl) | (simp [*, errW_none, errW_some] <;> rfl), by repeat (first | (with_reducible first | exact HB.out | apply qg | apply qb | apply qf | refine qd ?_ GE108.out | refine qd ?_ GE109.out) | exact HB.out)⟩
end Go.Proofs.Ytcjbghmhdefdiaa.S
namespace Go.Proofs.Ytcjbghmhdefdiaa.S
open Go.RowKit Go.Proofs.YtcjbghmhdefdiaaW.PrintWords Go.Proofs.YtcjbghmhdefdiaaW.PrintLast Go.Proofs.YtcjbghmhdefdiaaW.PrintMore
set_option linter.unusedVariables false
set_option linter.unusedSimpArgs false
def cmpE (a b : S55) : Int := if a.f0 < b.f0 then -1 else if b.f0 < a.f0 then 1 else if a.f1 < b.f1 then -1 else if b.f1 < a.f1 then 1 else if a.f2 < b.f2 then -1 else if b.f2 < a.f2 then 1 else 0
theorem jl (a b : Int) : cmp_Compare_int.f a b = some (if a < b then -1 else if b < a then 1 else 0) := by
 unfold cmp_Compare_int.f cmp_isNaN_int.f
 simp only [bne_self_eq_false, Option.bind_some, Bool.false_eq_true, if_false]
 repeat' split
 all_goals first | rfl | omega
theorem Qq (k : Nat) (a b c : Int) : vS.f (k + 4) [a, b, c] = some (if a = 0 then (if b = 0 then c else b) else a) := by
 unfold vS.f
 simp only [vS.l0, List.length_cons, List.length_nil, rd]
 by_cases ha : a = 0
 ·subst ha
  by_cases hb : b = 0
  ·subst hb
   by_cases hc : c = 0 <;> simp [hc, wrap64]
  ·simp [hb, wrap64]
 ·simp [ha, wrap64]
theorem jR (k : Nat) (a b : S55) : zb.f (k + 4) a.f0 a.f1 a.f2 b.f0 b.f1 b.f2 = some (cmpE a b) := by
 unfold zb.f
 rw [jl, jl, jl]
 simp only [Option.bind_some]
 rw [Qq]
 simp only [Option.bind_some, cmpE]
 congr 1
 repeat' split
 all_goals omega
def edgeOk (n m : Int) (es : List S55) (i : Nat) : Bool :=
 (decide (0 ≤ (qc es i).f0) && decide ((qc es i).f0 < n)) && ((decide (0 ≤ (qc es i).f2) && decide ((qc es i).f2 < n)) && (decide (0 ≤ (qc es i).f1) && (decide ((qc es i).f1 < m) && (decide (i = 0) || decide (cmpE (qc es ((i : Int) - 1)) (qc es i) < 0)))))
def zw (n m : Int) (es : List S55) : Bool := (List.range es.length).all (edgeOk n m es)
def qK.f (k : Nat) (n : Int) (ls : List ByteArray) (es : List S55) : Option Int :=
 if n < 1 then some 1 else if n > 2048 then some 1 else (vF.f k ls).bind fun b => if b = true then (if (es.length : Int) > 1000000 then some 1 else if zw n ls.length es = true then some 0 else some 1) else some 1
theorem qK.mono : ∀ a0 a1 a2 k, LeO (qK.f k a0 a1 a2) (qK.f (k + 1) a0 a1 a2) := by
 intro a0 a1 a2 k
 unfold qK.f
 refine LeO.ite (LeO.refl _) (LeO.ite (LeO.refl _) (LeO.bind (vF.mono _ _) fun _ => LeO.refl _))
theorem ze {n m : Int} {es : List S55} {i : Nat} (hi : i < es.length) (h : edgeOk n m es i = false) : zw n m es = false := by
 unfold zw
 rw [List.all_eq_false]
 exact ⟨i, List.mem_range.2 hi, by simp [h]⟩
theorem jP {n m : Int} {es : List S55} (h : ∀ j, j < es.length → edgeOk n m es j = true) : zw n m es = true := by
 unfold zw
 rw [List.all_eq_true]
 exact fun j hj => h j (List.mem_range.1 hj)
theorem jT (i n : Int) (g : Nat) (w : World) (hc : w.cell? ⟨g, 0, none⟩ = some (.int .i64 n)) (h0 : 0 ≤ i) (h1 : i < n) :
  Calls Try.prog 130 #[.int .i64 i, .pointer (some ⟨g, 0, none⟩)] w fun e w' => e = .returned (.bool true) ∧ w = w' := by
 have h := xI i n g w hc
 rwa [decide_eq_true h0, decide_eq_true h1] at h
theorem QK (i n : Int) (g : Nat) (w : World) (hc : w.cell? ⟨g, 0, none⟩ = some (.int .i64 n)) (h0 : ¬ (0 ≤ i ∧ i < n)) :
  Calls Try.prog 130 #[.int .i64 i, .pointer (some ⟨g, 0, none⟩)] w fun e w' => e = .returned (.bool false) ∧ w = w' := by
 have h := xI i n g w hc
 rwa [show (decide (0 ≤ i) && decide (i < n)) = false by rw [← Bool.decide_and]; exact decide_eq_false h0] at h
set_option maxHeartbeats 4000000 in
set_option maxRecDepth 100000 in
theorem yB (n : Int) (A1 : Option Addr) (c1 : Nat) (ls : List ByteArray) (A2 : Option Addr) (c2 : Nat) (es : List S55) (r : Int) (w : World) (hr2 : Kd.C k55 w A2 es.length es) (h1 : 1 ≤ n) (h2 : n ≤ 2048) (h3 : es.length ≤ 1000000)
  (hn : ∀ w : World, Kd.C Kd.string w A1 ls.length ls → Calls Try.prog 129 #[.slice A1 ls.length c1] w fun e w' => e = .returned (.bool true) ∧ Below w.heap.size w w') (hr1 : Kd.C Kd.string w A1 ls.length ls)
  (hR : (if zw n ls.length es = true then (0 : Int) else 1) = r) :
  Calls Try.prog 67 #[.agg #[.int .i64 n, .slice A1 ls.length c1, .slice A2 es.length c2]] w fun e w' => e = .returned (.int .i64 r) ∧ Below w.heap.size w w' := by
 have hu25 := Try.underlying25
 have hu55 := Try.underlying55
 have HR := qa.mk hr2
 have HR1 := qa.mk hr1
 have HN := qa.mk hn
 have HQ := qa.mk hR
 clear hr2 hR hn hr1
 have b1 : decide (n < 1) = false := decide_eq_false (by omega)
 have b2 : decide (2048 < n) = false := decide_eq_false (by omega)
 have b3 : decide (1000000 < (es.length : Int)) = false := decide_eq_false (by omega)
 have b4 : decide (1000000 < es.length) = false := decide_eq_false (by omega)
 go_enter Try.func67, Try.ntmps67
 go_wp2_with (first | (go_at_call 129; refine (HN.out _ (Kd.qU HR1.out (qg (Below.refl _ _) _))).mono ?_; rintro e w1 ⟨rfl, hb⟩; have HB := qa.mk (qD (qg (Below.refl w.heap.size w) _) hb); have BK := qa.mk (qB (zY w _) hb); have hc0 := (qj BK.out 0).trans rfl; have hc1 := (qj BK.out 1).trans rfl; have hc2 := (qj BK.out 2).trans rfl; clear hb))
 obtain ⟨g1, hg1⟩ : ∃ g1, g1 = w.heap.size := ⟨_, rfl⟩
 rw [← hg1]
 have BK1 : qa (w1.heap[g1]? = some (.cells #[.int .i64 n, .slice A1 ls.length c1, .slice A2 es.length c2] 25 (0, 0))) := ⟨by rw [hg1]; exact BK.out⟩
 have HG := qa.mk (Nat.le_of_eq hg1.symm)
 clear BK hc0 hc1 hc2 hg1
 go_loopw [30] (fun x wr => ∃ k : Nat, x = .int .i64 k ∧ k ≤ es.length ∧ qa (∀ j, j < k → edgeOk n ls.length es j = true) ∧ qa (wr.heap[g1]? = some (.cells #[.int .i64 n, .slice A1 ls.length c1, .slice A2 es.length c2] 25 (0, 0))) ∧ qa (Below w.heap.size w wr)) (fun x _ => es.length - (intOf x).toNat)
 case atStart => exact ⟨0, rfl, Nat.zero_le _, ⟨fun j hj => absurd hj (Nat.not_lt_zero _)⟩, BK1, HB⟩
 case round =>
  clear BK1 HB
  obtain ⟨k, rfl, hk, HOK, BK, HB⟩ := hrel
  by_cases hlt : k < es.length
  ·obtain ⟨ad, rfl, hx0, hx1, hx2⟩ := vU (Kd.qU HR.out HB.out) (k : Int) (by omega) (by omega)
   have d1 : decide ((k : Int) < (es.length : Int)) = true := decide_eq_true (by omega)
   have d2 : decide (k < es.length) = true := decide_eq_true hlt
   rw [Int.toNat_natCast] at hx0 hx1 hx2
   go_wp2
   have BK5 := qa.mk (zY wr (.cells #[.int .i64 (qc es (k : Int)).f0, .int .i64 (qc es (k : Int)).f1, .int .i64 (qc es (k : Int)).f2] 55))
   have n1_ : qa ((wr.alloc (.cells #[.int .i64 (qc es (k : Int)).f0, .int .i64 (qc es (k : Int)).f1, .int .i64 (qc es (k : Int)).f2] 55)).heap[g1]? = some (.cells #[.int .i64 n, .slice A1 ls.length c1, .slice (some ad) es.length c2] 25 (0, 0))) := ⟨qh BK.out _⟩
   have n2_ := qa.mk (qg HB.out (.cells #[.int .i64 (qc es (k : Int)).f0, .int .i64 (qc es (k : Int)).f1, .int .i64 (qc es (k : Int)).f2] 55))
   obtain ⟨g5, hg5⟩ : ∃ g5, g5 = wr.heap.size := ⟨_, rfl⟩
   rw [← hg5] at BK5
   have hz : wr.heap.size = g5 := hg5.symm
   rw [hz]
   clear hz hg5 BK HB d1 d2 hx0 hx1 hx2 HN
   generalize (wr.alloc (.cells #[.int .i64 (qc es (k : Int)).f0, .int .i64 (qc es (k : Int)).f1, .int .i64 (qc es (k : Int)).f2] 55)) = w5 at BK5 n1_ n2_ ⊢
   have h0 := (qj BK5.out 0).trans rfl
   have h1_ := (qj BK5.out 1).trans rfl
   have h2_ := (qj BK5.out 2).trans rfl
   have h3_ := (qj n1_.out 0).trans rfl
   have h4_ := (qj n1_.out 1).trans rfl
   have h5_ := (qj n1_.out 2).trans rfl
   by_cases hH : 0 < k ∧ (0 ≤ (qc es (k : Int)).f0 ∧ (qc es (k : Int)).f0 < n) ∧ (0 ≤ (qc es (k : Int)).f2 ∧ (qc es (k : Int)).f2 < n) ∧ ¬ ((qc es (k : Int)).f1 < 0) ∧ ¬ ((ls.length : Int) ≤ (qc es (k : Int)).f1)
   ·obtain ⟨e5, e1, e2, e3, e4⟩ := hH
    have d3 : decide ((qc es (k : Int)).f1 < 0) = false := decide_eq_false e3
    have d4 : decide ((ls.length : Int) ≤ (qc es (k : Int)).f1) = false := decide_eq_false e4
    have hfst : qa (∀ c : Bool, (decide (k = 0) || c) = true → ((decide (0 ≤ (qc es (k : Int)).f0) && decide ((qc es (k : Int)).f0 < n)) && ((decide (0 ≤ (qc es (k : Int)).f2) && decide ((qc es (k : Int)).f2 < n)) && (decide (0 ≤ (qc es (k : Int)).f1) && (decide ((qc es (k : Int)).f1 < (ls.length : Int)) && (decide (k = 0) || c))))) = true) := ⟨fun c hc => by rw [hc, decide_eq_true e1.1, decide_eq_true e1.2, decide_eq_true e2.1, decide_eq_true e2.2, show decide (0 ≤ (qc es (k : Int)).f1) = true from decide_eq_true (by omega), show decide ((qc es (k : Int)).f1 < (ls.length : Int)) = true from decide_eq_true (by omega)]; rfl⟩
    have d5 : decide (0 < (k : Int)) = true := decide_eq_true (by omega)
    have d6 : decide (0 < k) = true := decide_eq_true e5
    have hwr : wrap64 ((k : Int) - 1) = (k : Int) - 1 := by unfold wrap64; omega
    have hcE : qa (cmpE (qc es ((k : Int) - 1)) (qc es (k : Int)) = cmpE (qc es (wrap64 ((k : Int) - 1))) (qc es (k : Int))) := ⟨by rw [hwr]⟩
    have p1 : (0 ≤ wrap64 ((k : Int) - 1)) = True := eq_true (by rw [hwr]; omega)
    have p2 : (wrap64 ((k : Int) - 1) < (es.length : Int)) = True := eq_true (by rw [hwr]; omega)
    obtain ⟨ad2, ead, q0, q1, q2⟩ := vU (Kd.qU HR.out n2_.out) (wrap64 ((k : Int) - 1)) (of_eq_true p1) (of_eq_true p2)
    cases ead
    clear hwr
    have hcmp := qa.mk (jR 1 (qc es (wrap64 ((k : Int) - 1))) (qc es (k : Int)))
    obtain ⟨bq, hbq⟩ : ∃ bq, decide (0 ≤ cmpE (qc es (wrap64 ((k : Int) - 1))) (qc es (k : Int))) = bq := ⟨_, rfl⟩
    refine zI (n := 40) (S := fun w' => w'.cell? ⟨g5, 0, none⟩ = some (.int .i64 (qc es (k : Int)).f0) ∧ w'.cell? ⟨g5, 1, none⟩ = some (.int .i64 (qc es (k : Int)).f1) ∧ w'.cell? ⟨g5, 2, none⟩ = some (.int .i64 (qc es (k : Int)).f2) ∧ w'.cell? ⟨g1, 0, none⟩ = some (.int .i64 n) ∧ w'.cell? ⟨g1, 1, none⟩ = some (.slice A1 ls.length c1) ∧ w'.cell? ⟨g1, 2, none⟩ = some (.slice (some ad) es.length c2) ∧ w'.cell? (ad.add ((wrap64 ((k : Int) - 1)).toNat * 3)) = some (.int .i64 (qc es (wrap64 ((k : Int) - 1))).f0) ∧ w'.cell? ⟨(ad.add ((wrap64 ((k : Int) - 1)).toNat * 3)).block, (ad.add ((wrap64 ((k : Int) - 1)).toNat * 3)).off + 1, none⟩ = some (.int .i64 (qc es (wrap64 ((k : Int) - 1))).f1) ∧ w'.cell? ⟨(ad.add ((wrap64 ((k : Int) - 1)).toNat * 3)).block, (ad.add ((wrap64 ((k : Int) - 1)).toNat * 3)).off + 2, none⟩ = some (.int .i64 (qc es (wrap64 ((k : Int) - 1))).f2)) (ds := []) tb2_19 (by kernel_rfl) rfl rfl ⟨h0, h1_, h2_, h3_, h4_, h5_, q0, q1, q2⟩ (fun hHeld => ?_)
    refine qy (i := 0) (N := some 35) tb2_20 rfl rfl (by kernel_rfl) (fun _ _ _ h => h) (.inl ⟨by rfl, by intro w'; go_simp; with_reducible rfl⟩) (by simp only [Act.put, sA, sB, sC, qw, qx]; rfl) ?_
    refine qy (i := 1) (N := some 36) tb2_21 rfl rfl (by kernel_rfl) (fun _ _ _ h => h) (.inl ⟨by rfl, by intro w'; go_simp; with_reducible rfl⟩) (by simp only [Act.put, sA, sB, sC, qw, qx]; rfl) ?_
    refine vJ (i := 2) (N := some 37) tb2_22 rfl rfl (by kernel_rfl) (fun _ _ _ h => h) (.inl ⟨by rfl, by rintro w' ⟨s0, s1, s2, s3, s4, s5, s6, s7, s8⟩; go_simp; with_reducible rfl⟩) hHeld (by simp only [Act.put, sA, sB, sC, qw, qx]; rfl) ?_
    refine one_ (i := 3) (N := some 38) tb2_23 rfl rfl (by kernel_rfl) (by decide) (fun K hK => ?_)
    refine j5 Try.func130 (by kernel_rfl) rfl #[.int .i64 (qc es (k : Int)).f0, .pointer (some ⟨g1, 0, none⟩)] (by rfl) rfl rfl rfl (by simp only [List.map_toArray, List.map_cons, List.map_nil]; rfl) ?_
    with_reducible refine (jT _ _ _ _ (hHeld.2.2.2.1) e1.1 e1.2).mono ?_
    rintro e w3 ⟨rfl, rfl⟩
    refine ⟨_, rfl, ?_⟩
    refine hK.out _ _ ⟨hHeld.1, hHeld.2.1, hHeld.2.2.1, hHeld.2.2.2.1, hHeld.2.2.2.2.1, hHeld.2.2.2.2.2.1, hHeld.2.2.2.2.2.2.1, hHeld.2.2.2.2.2.2.2.1, hHeld.2.2.2.2.2.2.2.2⟩ (fun hHeld => ?_)
    clear hK K
    refine zo (a' := ?_) ?_ ?_
    rotate_left
    ·show Act.put _ (some 38) _ = _
     simp only [Act.put, sA, sB, sC, qw, qx]
     rfl
    refine qy (i := 4) (N := some 39) tb2_24 rfl rfl (by kernel_rfl) (fun _ _ _ h => h) (.inl ⟨by rfl, by intro w'; go_simp; with_reducible rfl⟩) (by simp only [Act.put, sA, sB, sC, qw, qx]; rfl) ?_
    refine qy (i := 5) (N := some 40) tb2_25 rfl rfl (by kernel_rfl) (fun _ _ _ h => h) (.inl ⟨by rfl, by intro w'; go_simp; with_reducible rfl⟩) (by simp only [Act.put, sA, sB, sC, qw, qx]; rfl) ?_
    refine qy (i := 6) (N := some 41) tb2_26 rfl rfl (by kernel_rfl) (fun _ _ _ h => h) (.inl ⟨by rfl, by intro w'; go_simp; with_reducible rfl⟩) (by simp only [Act.put, sA, sB, sC, qw, qx]; rfl) ?_
    refine qy (i := 7) (N := some 42) tb2_27 rfl rfl (by kernel_rfl) (fun _ _ _ h => h) (.inl ⟨by rfl, by intro w'; go_simp; with_reducible rfl⟩) (by simp only [Act.put, sA, sB, sC, qw, qx]; rfl) ?_
    refine vJ (i := 8) (N := some 43) tb2_28 rfl rfl (by kernel_rfl) (fun _ _ _ h => h) (.inl ⟨by rfl, by rintro w' ⟨s0, s1, s2, s3, s4, s5, s6, s7, s8⟩; go_simp; with_reducible rfl⟩) hHeld (by simp only [Act.put, sA, sB, sC, qw, qx]; rfl) ?_
    refine one_ (i := 9) (N := some 44) tb2_29 rfl rfl (by kernel_rfl) (by decide) (fun K hK => ?_)
    refine j5 Try.func130 (by kernel_rfl) rfl #[.int .i64 (qc es (k : Int)).f2, .pointer (some ⟨g1, 0, none⟩)] (by rfl) rfl rfl rfl (by simp only [List.map_toArray, List.map_cons, List.map_nil]; rfl) ?_
    with_reducible refine (jT _ _ _ _ (hHeld.2.2.2.1) e2.1 e2.2).mono ?_
    rintro e w3 ⟨rfl, rfl⟩
    refine ⟨_, rfl, ?_⟩
    refine hK.out _ _ ⟨hHeld.1, hHeld.2.1, hHeld.2.2.1, hHeld.2.2.2.1, hHeld.2.2.2.2.1, hHeld.2.2.2.2.2.1, hHeld.2.2.2.2.2.2.1, hHeld.2.2.2.2.2.2.2.1, hHeld.2.2.2.2.2.2.2.2⟩ (fun hHeld => ?_)
    clear hK K
    refine zo (a' := ?_) ?_ ?_
    rotate_left
    ·show Act.put _ (some 44) _ = _
     simp only [Act.put, sA, sB, sC, qw, qx]
     rfl
    refine qy (i := 10) (N := some 45) tb2_30 rfl rfl (by kernel_rfl) (fun _ _ _ h => h) (.inl ⟨by rfl, by intro w'; go_simp; with_reducible rfl⟩) (by simp only [Act.put, sA, sB, sC, qw, qx]; rfl) ?_
    refine qy (i := 11) (N := some 46) tb2_31 rfl rfl (by kernel_rfl) (fun _ _ _ h => h) (.inl ⟨by rfl, by intro w'; go_simp; with_reducible rfl⟩) (by simp only [Act.put, sA, sB, sC, qw, qx]; rfl) ?_
    refine qy (i := 12) (N := some 47) tb2_32 rfl rfl (by kernel_rfl) (fun _ _ _ h => h) (.inl ⟨by rfl, by intro w'; go_simp; with_reducible rfl⟩) (by simp only [Act.put, sA, sB, sC, qw, qx]; rfl) ?_
    refine qy (i := 13) (N := some 48) tb2_33 rfl rfl (by kernel_rfl) (fun _ _ _ h => h) (.inl ⟨by rfl, by intro w'; go_simp; with_reducible rfl⟩) (by simp only [Act.put, sA, sB, sC, qw, qx]; rfl) ?_
    refine vJ (i := 14) (N := some 49) tb2_34 rfl rfl (by kernel_rfl) (fun _ _ _ h => h) (.inl ⟨by rfl, by rintro w' ⟨s0, s1, s2, s3, s4, s5, s6, s7, s8⟩; go_simp; with_reducible rfl⟩) hHeld (by simp only [Act.put, sA, sB, sC, qw, qx]; rfl) ?_
    refine qy (i := 15) (N := some 50) tb2_35 rfl rfl (by kernel_rfl) (fun _ _ _ h => h) (.inl ⟨by rfl, by intro w'; go_simp; with_reducible rfl⟩) (by simp only [Act.put, sA, sB, sC, qw, qx]; rfl) ?_
    refine qy (i := 16) (N := some 51) tb2_36 rfl rfl (by kernel_rfl) (fun _ _ _ h => h) (.inl ⟨by rfl, by intro w'; go_simp; with_reducible rfl⟩) (by simp only [Act.put, sA, sB, sC, qw, qx]; rfl) ?_
    refine qy (i := 17) (N := some 52) tb2_37 rfl rfl (by kernel_rfl) (fun _ _ _ h => h) (.inl ⟨by rfl, by intro w'; go_simp; with_reducible rfl⟩) (by simp only [Act.put, sA, sB, sC, qw, qx]; rfl) ?_
    refine qy (i := 18) (N := some 53) tb2_38 rfl rfl (by kernel_rfl) (fun _ _ _ h => h) (.inl ⟨by rfl, by intro w'; go_simp; with_reducible rfl⟩) (by simp only [Act.put, sA, sB, sC, qw, qx]; rfl) ?_
    refine qy (i := 20) (N := some 55) tb2_39 rfl rfl (by kernel_rfl) (fun _ _ _ h => h) (.inl ⟨by rfl, by intro w'; go_simp; with_reducible rfl⟩) (by simp only [Act.put, sA, sB, sC, qw, qx]; rfl) ?_
    refine vJ (i := 19) (N := some 54) tb2_40 rfl rfl (by kernel_rfl) (fun _ _ _ h => h) (.inl ⟨by rfl, by rintro w' ⟨s0, s1, s2, s3, s4, s5, s6, s7, s8⟩; go_simp; with_reducible rfl⟩) hHeld (by simp only [Act.put, sA, sB, sC, qw, qx]; rfl) ?_
    refine vJ (i := 21) (N := some 56) tb2_41 rfl rfl (by kernel_rfl) (fun _ _ _ h => h) (.inl ⟨by rfl, by rintro w' ⟨s0, s1, s2, s3, s4, s5, s6, s7, s8⟩; go_simp; with_reducible rfl⟩) hHeld (by simp only [Act.put, sA, sB, sC, qw, qx]; rfl) ?_
    refine qy (i := 22) (N := some 57) tb2_42 rfl rfl (by kernel_rfl) (fun _ _ _ h => h) (.inl ⟨by rfl, by intro w'; go_simp; with_reducible rfl⟩) (by simp only [Act.put, sA, sB, sC, qw, qx]; rfl) ?_
    refine qy (i := 23) (N := some 58) tb2_43 rfl rfl (by kernel_rfl) (fun _ _ _ h => h) (.inl ⟨by rfl, by intro w'; go_simp; with_reducible rfl⟩) (by simp only [Act.put, sA, sB, sC, qw, qx]; rfl) ?_
    refine qy (i := 24) (N := some 59) tb2_44 rfl rfl (by kernel_rfl) (fun _ _ _ h => h) (.inl ⟨by rfl, by intro w'; go_simp; with_reducible rfl⟩) (by simp only [Act.put, sA, sB, sC, qw, qx]; rfl) ?_
    refine qy (i := 25) (N := some 60) tb2_45 rfl rfl (by kernel_rfl) (fun _ _ _ h => h) (.inl ⟨by rfl, by intro w'; go_simp; with_reducible rfl⟩) (by simp only [Act.put, sA, sB, sC, qw, qx]; rfl) ?_
    refine qy (i := 26) (N := some 61) tb2_46 rfl rfl (by kernel_rfl) (fun _ _ _ h => h) (.inl ⟨by rfl, by intro w'; go_simp; with_reducible rfl⟩) (by simp only [Act.put, sA, sB, sC, qw, qx]; rfl) ?_
    refine qy (i := 27) (N := some 62) tb2_47 rfl rfl (by kernel_rfl) (fun _ _ _ h => h) (.inl ⟨by rfl, by intro w'; go_simp; with_reducible rfl⟩) (by simp only [Act.put, sA, sB, sC, qw, qx]; rfl) ?_
    refine qy (i := 28) (N := some 63) tb2_48 rfl rfl (by kernel_rfl) (fun _ _ _ h => h) (.inl ⟨by rfl, by intro w'; go_simp; with_reducible rfl⟩) (by simp only [Act.put, sA, sB, sC, qw, qx]; rfl) ?_
    refine qy (i := 29) (N := some 64) tb2_49 rfl rfl (by kernel_rfl) (fun _ _ _ h => h) (.inl ⟨by rfl, by intro w'; go_simp; with_reducible rfl⟩) (by simp only [Act.put, sA, sB, sC, qw, qx]; rfl) ?_
    refine qy (i := 31) (N := some 66) tb2_50 rfl rfl (by kernel_rfl) (fun _ _ _ h => h) (.inl ⟨by rfl, by intro w'; go_simp; with_reducible rfl⟩) (by simp only [Act.put, sA, sB, sC, qw, qx]; rfl) ?_
    refine qy (i := 32) (N := some 67) tb2_51 rfl rfl (by kernel_rfl) (fun _ _ _ h => h) (.inl ⟨by rfl, by intro w'; go_simp; with_reducible rfl⟩) (by simp only [Act.put, sA, sB, sC, qw, qx]; rfl) ?_
    refine vJ (i := 30) (N := some 65) tb2_52 rfl rfl (by kernel_rfl) (fun _ _ _ h => h) (.inl ⟨by rfl, by rintro w' ⟨s0, s1, s2, s3, s4, s5, s6, s7, s8⟩; go_simp; with_reducible rfl⟩) hHeld (by simp only [Act.put, sA, sB, sC, qw, qx]; rfl) ?_
    refine qy (i := 33) (N := some 68) tb2_53 rfl rfl (by kernel_rfl) (fun _ _ _ h => h) (.inl ⟨by rfl, by intro w'; go_simp; with_reducible rfl⟩) (by simp only [Act.put, sA, sB, sC, qw, qx]; rfl) ?_
    refine vJ (i := 34) (N := some 69) tb2_54 rfl rfl (by kernel_rfl) (fun _ _ _ h => h) (.inl ⟨by rfl, by rintro w' ⟨s0, s1, s2, s3, s4, s5, s6, s7, s8⟩; go_simp; with_reducible rfl⟩) hHeld (by simp only [Act.put, sA, sB, sC, qw, qx]; rfl) ?_
    refine vJ (i := 35) (N := some 70) tb2_55 rfl rfl (by kernel_rfl) (fun _ _ _ h => h) (.inl ⟨by rfl, by rintro w' ⟨s0, s1, s2, s3, s4, s5, s6, s7, s8⟩; go_simp; with_reducible rfl⟩) hHeld (by simp only [Act.put, sA, sB, sC, qw, qx]; rfl) ?_
    refine one_ (i := 36) (N := some 71) tb2_56 rfl rfl (by kernel_rfl) (by decide) (fun K hK => ?_)
    refine jI Try.func126 (by kernel_rfl) rfl #[.agg #[.int .i64 (qc es (wrap64 ((k : Int) - 1))).f0, .int .i64 (qc es (wrap64 ((k : Int) - 1))).f1, .int .i64 (qc es (wrap64 ((k : Int) - 1))).f2], .agg #[.int .i64 (qc es (k : Int)).f0, .int .i64 (qc es (k : Int)).f1, .int .i64 (qc es (k : Int)).f2]] (by rfl) rfl rfl (by simp only [List.map_toArray, List.map_cons, List.map_nil]; rfl) ?_
    with_reducible refine (zb.calls 5 _ _ _ _ _ _ _ _ hcmp.out).mono ?_
    rintro e w3 ⟨rfl, hb⟩
    refine ⟨_, rfl, ?_⟩
    have hB3 := qa.mk (qD (qf n2_.out) hb)
    have hK3 := qa.mk (qB (ql n1_.out) hb)
    refine hK.out _ _ ⟨(hb.cell (World.block_lt_of_cell? _ _ (hHeld.1))).trans (hHeld.1), (hb.cell (World.block_lt_of_cell? _ _ (hHeld.2.1))).trans (hHeld.2.1), (hb.cell (World.block_lt_of_cell? _ _ (hHeld.2.2.1))).trans (hHeld.2.2.1), (hb.cell (World.block_lt_of_cell? _ _ (hHeld.2.2.2.1))).trans (hHeld.2.2.2.1), (hb.cell (World.block_lt_of_cell? _ _ (hHeld.2.2.2.2.1))).trans (hHeld.2.2.2.2.1), (hb.cell (World.block_lt_of_cell? _ _ (hHeld.2.2.2.2.2.1))).trans (hHeld.2.2.2.2.2.1), (hb.cell (World.block_lt_of_cell? _ _ (hHeld.2.2.2.2.2.2.1))).trans (hHeld.2.2.2.2.2.2.1), (hb.cell (World.block_lt_of_cell? _ _ (hHeld.2.2.2.2.2.2.2.1))).trans (hHeld.2.2.2.2.2.2.2.1), (hb.cell (World.block_lt_of_cell? _ _ (hHeld.2.2.2.2.2.2.2.2))).trans (hHeld.2.2.2.2.2.2.2.2)⟩ (fun hHeld => ?_)
    clear hK K
    refine zo (a' := ?_) ?_ ?_
    rotate_left
    ·show Act.put _ (some 71) _ = _
     simp only [Act.put, sA, sB, sC, qw, qx]
     rfl
    refine qy (i := 37) (N := some 72) tb2_57 rfl rfl (by kernel_rfl) (fun _ _ _ h => h) (.inl ⟨by rfl, by intro w'; go_simp; with_reducible rfl⟩) (by simp only [Act.put, sA, sB, sC, qw, qx]; rfl) ?_
    refine qy (i := 38) (N := some 73) tb2_58 rfl rfl (by kernel_rfl) (fun _ _ _ h => h) (.inl ⟨by rfl, by intro w'; go_simp; with_reducible rfl⟩) (by simp only [Act.put, sA, sB, sC, qw, qx]; rfl) ?_
    refine qy (i := 39) (N := some 74) tb2_59 rfl rfl (by kernel_rfl) (fun _ _ _ h => h) (.inl ⟨by rfl, by intro w'; go_simp; with_reducible rfl⟩) (by simp only [Act.put, sA, sB, sC, qw, qx]; rfl) ?_
    refine zP (by kernel_rfl) ?_
    rcases bq with _ | _
    ·have hgood : qa (edgeOk n ls.length es k = true) := ⟨hfst.out _ (by rw [hcE.out, show decide (cmpE (qc es (wrap64 ((k : Int) - 1))) (qc es (k : Int)) < 0) = true from decide_eq_true (by have := of_decide_eq_false hbq; omega), Bool.or_true])⟩
     go_wp2
     go_roundw
     case rel => exact ⟨k + 1, by go_num, by omega, ⟨fun j hj => by
       rcases Nat.lt_or_ge j k with hj' | hj'
       ·exact HOK.out j hj'
       ·obtain rfl : j = k := by omega
        exact hgood.out⟩, ⟨hK3.out⟩, ⟨hB3.out⟩⟩
     case measure => simp [intOf]; omega
    ·have hbad : zw n ls.length es = false := ze hlt (by unfold edgeOk; rw [hcE.out, show decide (cmpE (qc es (wrap64 ((k : Int) - 1))) (qc es (k : Int)) < 0) = false from decide_eq_false (by have := of_decide_eq_true hbq; omega), show decide (k = 0) = false from decide_eq_false (by omega)]; simp)
     have hQ := HQ.out
     rw [hbad, if_neg (by decide)] at hQ
     subst hQ
     clear hbad
     go_wp2
     go_ret
     exact ⟨rfl, hB3.out⟩
   refine zI (n := 40) (S := fun w' => w'.cell? ⟨g5, 0, none⟩ = some (.int .i64 (qc es (k : Int)).f0) ∧ w'.cell? ⟨g5, 1, none⟩ = some (.int .i64 (qc es (k : Int)).f1) ∧ w'.cell? ⟨g5, 2, none⟩ = some (.int .i64 (qc es (k : Int)).f2) ∧ w'.cell? ⟨g1, 0, none⟩ = some (.int .i64 n) ∧ w'.cell? ⟨g1, 1, none⟩ = some (.slice A1 ls.length c1) ∧ w'.cell? ⟨g1, 2, none⟩ = some (.slice (some ad) es.length c2)) (ds := []) tb2_19 (by kernel_rfl) rfl rfl ⟨h0, h1_, h2_, h3_, h4_, h5_⟩ (fun hHeld => ?_)
   refine qy (i := 0) (N := some 35) tb2_20 rfl rfl (by kernel_rfl) (fun _ _ _ h => h) (.inl ⟨by rfl, by intro w'; go_simp; with_reducible rfl⟩) (by simp only [Act.put, sA, sB, sC, qw, qx]; rfl) ?_
   refine qy (i := 1) (N := some 36) tb2_21 rfl rfl (by kernel_rfl) (fun _ _ _ h => h) (.inl ⟨by rfl, by intro w'; go_simp; with_reducible rfl⟩) (by simp only [Act.put, sA, sB, sC, qw, qx]; rfl) ?_
   refine vJ (i := 2) (N := some 37) tb2_22 rfl rfl (by kernel_rfl) (fun _ _ _ h => h) (.inl ⟨by rfl, by rintro w' ⟨s0, s1, s2, s3, s4, s5⟩; go_simp; with_reducible rfl⟩) hHeld (by simp only [Act.put, sA, sB, sC, qw, qx]; rfl) ?_
   by_cases e1 : ¬ (0 ≤ (qc es (k : Int)).f0 ∧ (qc es (k : Int)).f0 < n)
   ·have hbad : zw n ls.length es = false := ze hlt (by unfold edgeOk; rw [← Bool.decide_and, decide_eq_false e1, Bool.false_and])
    have hQ := HQ.out
    rw [hbad, if_neg (by decide)] at hQ
    subst hQ
    clear hbad
    refine one_ (i := 3) (N := some 38) tb2_23 rfl rfl (by kernel_rfl) (by decide) (fun K hK => ?_)
    refine j5 Try.func130 (by kernel_rfl) rfl #[.int .i64 (qc es (k : Int)).f0, .pointer (some ⟨g1, 0, none⟩)] (by rfl) rfl rfl rfl (by simp only [List.map_toArray, List.map_cons, List.map_nil]; rfl) ?_
    with_reducible refine (QK _ _ _ _ (hHeld.2.2.2.1) e1).mono ?_
    rintro e w3 ⟨rfl, rfl⟩
    refine ⟨_, rfl, ?_⟩
    refine hK.out _ _ ⟨hHeld.1, hHeld.2.1, hHeld.2.2.1, hHeld.2.2.2.1, hHeld.2.2.2.2.1, hHeld.2.2.2.2.2⟩ (fun hHeld => ?_)
    clear hK K
    refine zo (a' := ?_) ?_ ?_
    rotate_left
    ·show Act.put _ (some 38) _ = _
     simp only [Act.put, sA, sB, sC, qw, qx]
     rfl
    refine qy (i := 4) (N := some 39) tb2_24 rfl rfl (by kernel_rfl) (fun _ _ _ h => h) (.inl ⟨by rfl, by intro w'; go_simp; with_reducible rfl⟩) (by simp only [Act.put, sA, sB, sC, qw, qx]; rfl) ?_
    refine qy (i := 5) (N := some 40) tb2_25 rfl rfl (by kernel_rfl) (fun _ _ _ h => h) (.inl ⟨by rfl, by intro w'; go_simp; with_reducible rfl⟩) (by simp only [Act.put, sA, sB, sC, qw, qx]; rfl) ?_
    refine qy (i := 6) (N := some 41) (v := undef) tb2_26 rfl rfl (by kernel_rfl) (fun _ _ _ h => h) (.inr ⟨by rfl, rfl⟩) (by simp only [Act.put, sA, sB, sC, qw, qx]; rfl) ?_
    refine qy (i := 7) (N := some 42) (v := undef) tb2_27 rfl rfl (by kernel_rfl) (fun _ _ _ h => h) (.inr ⟨by rfl, rfl⟩) (by simp only [Act.put, sA, sB, sC, qw, qx]; rfl) ?_
    refine qy (i := 8) (N := some 43) (v := undef) tb2_28 rfl rfl (by kernel_rfl) (fun _ _ _ h => h) (.inr ⟨by rfl, rfl⟩) (by simp only [Act.put, sA, sB, sC, qw, qx]; rfl) ?_
    refine qy (i := 9) (N := some 44) (v := undef) tb2_29 rfl rfl (by kernel_rfl) (fun _ _ _ h => h) (.inr ⟨by rfl, rfl⟩) (by simp only [Act.put, sA, sB, sC, qw, qx]; rfl) ?_
    refine qy (i := 10) (N := some 45) (v := undef) tb2_30 rfl rfl (by kernel_rfl) (fun _ _ _ h => h) (.inr ⟨by rfl, rfl⟩) (by simp only [Act.put, sA, sB, sC, qw, qx]; rfl) ?_
    refine qy (i := 11) (N := some 46) tb2_31 rfl rfl (by kernel_rfl) (fun _ _ _ h => h) (.inl ⟨by rfl, by intro w'; go_simp; with_reducible rfl⟩) (by simp only [Act.put, sA, sB, sC, qw, qx]; rfl) ?_
    refine qy (i := 12) (N := some 47) tb2_32 rfl rfl (by kernel_rfl) (fun _ _ _ h => h) (.inl ⟨by rfl, by intro w'; go_simp; with_reducible rfl⟩) (by simp only [Act.put, sA, sB, sC, qw, qx]; rfl) ?_
    refine qy (i := 13) (N := some 48) (v := undef) tb2_33 rfl rfl (by kernel_rfl) (fun _ _ _ h => h) (.inr ⟨by rfl, rfl⟩) (by simp only [Act.put, sA, sB, sC, qw, qx]; rfl) ?_
    refine qy (i := 14) (N := some 49) (v := undef) tb2_34 rfl rfl (by kernel_rfl) (fun _ _ _ h => h) (.inr ⟨by rfl, rfl⟩) (by simp only [Act.put, sA, sB, sC, qw, qx]; rfl) ?_
    refine qy (i := 15) (N := some 50) (v := undef) tb2_35 rfl rfl (by kernel_rfl) (fun _ _ _ h => h) (.inr ⟨by rfl, rfl⟩) (by simp only [Act.put, sA, sB, sC, qw, qx]; rfl) ?_
    refine qy (i := 16) (N := some 51) tb2_36 rfl rfl (by kernel_rfl) (fun _ _ _ h => h) (.inl ⟨by rfl, by intro w'; go_simp; with_reducible rfl⟩) (by simp only [Act.put, sA, sB, sC, qw, qx]; rfl) ?_
    refine qy (i := 17) (N := some 52) tb2_37 rfl rfl (by kernel_rfl) (fun _ _ _ h => h) (.inl ⟨by rfl, by intro w'; go_simp; with_reducible rfl⟩) (by simp only [Act.put, sA, sB, sC, qw, qx]; rfl) ?_
    refine qy (i := 18) (N := some 53) (v := undef) tb2_38 rfl rfl (by kernel_rfl) (fun _ _ _ h => h) (.inr ⟨by rfl, rfl⟩) (by simp only [Act.put, sA, sB, sC, qw, qx]; rfl) ?_
    refine qy (i := 19) (N := some 54) (v := undef) tb2_60 rfl rfl (by kernel_rfl) (fun _ _ _ h => h) (.inr ⟨by rfl, rfl⟩) (by simp only [Act.put, sA, sB, sC, qw, qx]; rfl) ?_
    refine qy (i := 20) (N := some 55) (v := undef) tb2_40 rfl rfl (by kernel_rfl) (fun _ _ _ h => h) (.inr ⟨by rfl, rfl⟩) (by simp only [Act.put, sA, sB, sC, qw, qx]; rfl) ?_
    refine qy (i := 21) (N := some 56) (v := undef) tb2_41 rfl rfl (by kernel_rfl) (fun _ _ _ h => h) (.inr ⟨by rfl, rfl⟩) (by simp only [Act.put, sA, sB, sC, qw, qx]; rfl) ?_
    refine qy (i := 22) (N := some 57) (v := undef) tb2_42 rfl rfl (by kernel_rfl) (fun _ _ _ h => h) (.inr ⟨by rfl, rfl⟩) (by simp only [Act.put, sA, sB, sC, qw, qx]; rfl) ?_
    refine qy (i := 23) (N := some 58) (v := undef) tb2_43 rfl rfl (by kernel_rfl) (fun _ _ _ h => h) (.inr ⟨by rfl, rfl⟩) (by simp only [Act.put, sA, sB, sC, qw, qx]; rfl) ?_
    refine qy (i := 24) (N := some 59) tb2_44 rfl rfl (by kernel_rfl) (fun _ _ _ h => h) (.inl ⟨by rfl, by intro w'; go_simp; with_reducible rfl⟩) (by simp only [Act.put, sA, sB, sC, qw, qx]; rfl) ?_
    refine qy (i := 25) (N := some 60) tb2_45 rfl rfl (by kernel_rfl) (fun _ _ _ h => h) (.inl ⟨by rfl, by intro w'; go_simp; with_reducible rfl⟩) (by simp only [Act.put, sA, sB, sC, qw, qx]; rfl) ?_
    refine qy (i := 26) (N := some 61) (v := undef) tb2_46 rfl rfl (by kernel_rfl) (fun _ _ _ h => h) (.inr ⟨by rfl, rfl⟩) (by simp only [Act.put, sA, sB, sC, qw, qx]; rfl) ?_
    refine qy (i := 27) (N := some 62) (v := undef) tb2_47 rfl rfl (by kernel_rfl) (fun _ _ _ h => h) (.inr ⟨by rfl, rfl⟩) (by simp only [Act.put, sA, sB, sC, qw, qx]; rfl) ?_
    refine qy (i := 28) (N := some 63) (v := undef) tb2_48 rfl rfl (by kernel_rfl) (fun _ _ _ h => h) (.inr ⟨by rfl, rfl⟩) (by simp only [Act.put, sA, sB, sC, qw, qx]; rfl) ?_
    refine qy (i := 29) (N := some 64) (v := undef) tb2_49 rfl rfl (by kernel_rfl) (fun _ _ _ h => h) (.inr ⟨by rfl, rfl⟩) (by simp only [Act.put, sA, sB, sC, qw, qx]; rfl) ?_
    refine qy (i := 30) (N := some 65) (v := undef) tb2_61 rfl rfl (by kernel_rfl) (fun _ _ _ h => h) (.inr ⟨by rfl, rfl⟩) (by simp only [Act.put, sA, sB, sC, qw, qx]; rfl) ?_
    refine qy (i := 31) (N := some 66) (v := undef) tb2_62 rfl rfl (by kernel_rfl) (fun _ _ _ h => h) (.inr ⟨by rfl, rfl⟩) (by simp only [Act.put, sA, sB, sC, qw, qx]; rfl) ?_
    refine qy (i := 32) (N := some 67) (v := undef) tb2_52 rfl rfl (by kernel_rfl) (fun _ _ _ h => h) (.inr ⟨by rfl, rfl⟩) (by simp only [Act.put, sA, sB, sC, qw, qx]; rfl) ?_
    refine qy (i := 33) (N := some 68) (v := undef) tb2_53 rfl rfl (by kernel_rfl) (fun _ _ _ h => h) (.inr ⟨by rfl, rfl⟩) (by simp only [Act.put, sA, sB, sC, qw, qx]; rfl) ?_
    refine qy (i := 34) (N := some 69) (v := undef) tb2_54 rfl rfl (by kernel_rfl) (fun _ _ _ h => h) (.inr ⟨by rfl, rfl⟩) (by simp only [Act.put, sA, sB, sC, qw, qx]; rfl) ?_
    refine qy (i := 35) (N := some 70) (v := undef) tb2_55 rfl rfl (by kernel_rfl) (fun _ _ _ h => h) (.inr ⟨by rfl, rfl⟩) (by simp only [Act.put, sA, sB, sC, qw, qx]; rfl) ?_
    refine qy (i := 36) (N := some 71) (v := undef) tb2_56 rfl rfl (by kernel_rfl) (fun _ _ _ h => h) (.inr ⟨by rfl, rfl⟩) (by simp only [Act.put, sA, sB, sC, qw, qx]; rfl) ?_
    refine qy (i := 37) (N := some 72) (v := undef) tb2_57 rfl rfl (by kernel_rfl) (fun _ _ _ h => h) (.inr ⟨by rfl, rfl⟩) (by simp only [Act.put, sA, sB, sC, qw, qx]; rfl) ?_
    refine qy (i := 38) (N := some 73) (v := undef) tb2_58 rfl rfl (by kernel_rfl) (fun _ _ _ h => h) (.inr ⟨by rfl, rfl⟩) (by simp only [Act.put, sA, sB, sC, qw, qx]; rfl) ?_
    refine qy (i := 39) (N := some 74) tb2_59 rfl rfl (by kernel_rfl) (fun _ _ _ h => h) (.inl ⟨by rfl, by intro w'; go_simp; with_reducible rfl⟩) (by simp only [Act.put, sA, sB, sC, qw, qx]; rfl) ?_
    refine zP (by kernel_rfl) ?_
    go_wp2
    go_ret
    exact ⟨rfl, qf n2_.out⟩
   replace e1 := Decidable.not_not.1 e1
   refine one_ (i := 3) (N := some 38) tb2_23 rfl rfl (by kernel_rfl) (by decide) (fun K hK => ?_)
   refine j5 Try.func130 (by kernel_rfl) rfl #[.int .i64 (qc es (k : Int)).f0, .pointer (some ⟨g1, 0, none⟩)] (by rfl) rfl rfl rfl (by simp only [List.map_toArray, List.map_cons, List.map_nil]; rfl) ?_
   with_reducible refine (jT _ _ _ _ (hHeld.2.2.2.1) e1.1 e1.2).mono ?_
   rintro e w3 ⟨rfl, rfl⟩
   refine ⟨_, rfl, ?_⟩
   refine hK.out _ _ ⟨hHeld.1, hHeld.2.1, hHeld.2.2.1, hHeld.2.2.2.1, hHeld.2.2.2.2.1, hHeld.2.2.2.2.2⟩ (fun hHeld => ?_)
   clear hK K
   refine zo (a' := ?_) ?_ ?_
   rotate_left
   ·show Act.put _ (some 38) _ = _
    simp only [Act.put, sA, sB, sC, qw, qx]
    rfl
   refine qy (i := 4) (N := some 39) tb2_24 rfl rfl (by kernel_rfl) (fun _ _ _ h => h) (.inl ⟨by rfl, by intro w'; go_simp; with_reducible rfl⟩) (by simp only [Act.put, sA, sB, sC, qw, qx]; rfl) ?_
   refine qy (i := 5) (N := some 40) tb2_25 rfl rfl (by kernel_rfl) (fun _ _ _ h => h) (.inl ⟨by rfl, by intro w'; go_simp; with_reducible rfl⟩) (by simp only [Act.put, sA, sB, sC, qw, qx]; rfl) ?_
   refine qy (i := 6) (N := some 41) tb2_26 rfl rfl (by kernel_rfl) (fun _ _ _ h => h) (.inl ⟨by rfl, by intro w'; go_simp; with_reducible rfl⟩) (by simp only [Act.put, sA, sB, sC, qw, qx]; rfl) ?_
   refine qy (i := 7) (N := some 42) tb2_27 rfl rfl (by kernel_rfl) (fun _ _ _ h => h) (.inl ⟨by rfl, by intro w'; go_simp; with_reducible rfl⟩) (by simp only [Act.put, sA, sB, sC, qw, qx]; rfl) ?_
   refine vJ (i := 8) (N := some 43) tb2_28 rfl rfl (by kernel_rfl) (fun _ _ _ h => h) (.inl ⟨by rfl, by rintro w' ⟨s0, s1, s2, s3, s4, s5⟩; go_simp; with_reducible rfl⟩) hHeld (by simp only [Act.put, sA, sB, sC, qw, qx]; rfl) ?_
   by_cases e2 : ¬ (0 ≤ (qc es (k : Int)).f2 ∧ (qc es (k : Int)).f2 < n)
   ·have hbad : zw n ls.length es = false := ze hlt (by unfold edgeOk; rw [show (decide (0 ≤ (qc es (k : Int)).f2) && decide ((qc es (k : Int)).f2 < n)) = false by rw [← Bool.decide_and]; exact decide_eq_false e2]; simp)
    have hQ := HQ.out
    rw [hbad, if_neg (by decide)] at hQ
    subst hQ
    clear hbad
    refine one_ (i := 9) (N := some 44) tb2_29 rfl rfl (by kernel_rfl) (by decide) (fun K hK => ?_)
    refine j5 Try.func130 (by kernel_rfl) rfl #[.int .i64 (qc es (k : Int)).f2, .pointer (some ⟨g1, 0, none⟩)] (by rfl) rfl rfl rfl (by simp only [List.map_toArray, List.map_cons, List.map_nil]; rfl) ?_
    with_reducible refine (QK _ _ _ _ (hHeld.2.2.2.1) e2).mono ?_
    rintro e w3 ⟨rfl, rfl⟩
    refine ⟨_, rfl, ?_⟩
    refine hK.out _ _ ⟨hHeld.1, hHeld.2.1, hHeld.2.2.1, hHeld.2.2.2.1, hHeld.2.2.2.2.1, hHeld.2.2.2.2.2⟩ (fun hHeld => ?_)
    clear hK K
    refine zo (a' := ?_) ?_ ?_
    rotate_left
    ·show Act.put _ (some 44) _ = _
     simp only [Act.put, sA, sB, sC, qw, qx]
     rfl
    refine qy (i := 10) (N := some 45) tb2_30 rfl rfl (by kernel_rfl) (fun _ _ _ h => h) (.inl ⟨by rfl, by intro w'; go_simp; with_reducible rfl⟩) (by simp only [Act.put, sA, sB, sC, qw, qx]; rfl) ?_
    refine qy (i := 11) (N := some 46) tb2_31 rfl rfl (by kernel_rfl) (fun _ _ _ h => h) (.inl ⟨by rfl, by intro w'; go_simp; with_reducible rfl⟩) (by simp only [Act.put, sA, sB, sC, qw, qx]; rfl) ?_
    refine qy (i := 12) (N := some 47) tb2_32 rfl rfl (by kernel_rfl) (fun _ _ _ h => h) (.inl ⟨by rfl, by intro w'; go_simp; with_reducible rfl⟩) (by simp only [Act.put, sA, sB, sC, qw, qx]; rfl) ?_
    refine qy (i := 13) (N := some 48) (v := undef) tb2_33 rfl rfl (by kernel_rfl) (fun _ _ _ h => h) (.inr ⟨by rfl, rfl⟩) (by simp only [Act.put, sA, sB, sC, qw, qx]; rfl) ?_
    refine qy (i := 14) (N := some 49) (v := undef) tb2_34 rfl rfl (by kernel_rfl) (fun _ _ _ h => h) (.inr ⟨by rfl, rfl⟩) (by simp only [Act.put, sA, sB, sC, qw, qx]; rfl) ?_
    refine qy (i := 15) (N := some 50) (v := undef) tb2_35 rfl rfl (by kernel_rfl) (fun _ _ _ h => h) (.inr ⟨by rfl, rfl⟩) (by simp only [Act.put, sA, sB, sC, qw, qx]; rfl) ?_
    refine qy (i := 16) (N := some 51) tb2_36 rfl rfl (by kernel_rfl) (fun _ _ _ h => h) (.inl ⟨by rfl, by intro w'; go_simp; with_reducible rfl⟩) (by simp only [Act.put, sA, sB, sC, qw, qx]; rfl) ?_
    refine qy (i := 17) (N := some 52) tb2_37 rfl rfl (by kernel_rfl) (fun _ _ _ h => h) (.inl ⟨by rfl, by intro w'; go_simp; with_reducible rfl⟩) (by simp only [Act.put, sA, sB, sC, qw, qx]; rfl) ?_
    refine qy (i := 18) (N := some 53) (v := undef) tb2_38 rfl rfl (by kernel_rfl) (fun _ _ _ h => h) (.inr ⟨by rfl, rfl⟩) (by simp only [Act.put, sA, sB, sC, qw, qx]; rfl) ?_
    refine qy (i := 19) (N := some 54) (v := undef) tb2_60 rfl rfl (by kernel_rfl) (fun _ _ _ h => h) (.inr ⟨by rfl, rfl⟩) (by simp only [Act.put, sA, sB, sC, qw, qx]; rfl) ?_
    refine qy (i := 20) (N := some 55) (v := undef) tb2_40 rfl rfl (by kernel_rfl) (fun _ _ _ h => h) (.inr ⟨by rfl, rfl⟩) (by simp only [Act.put, sA, sB, sC, qw, qx]; rfl) ?_
    refine qy (i := 21) (N := some 56) (v := undef) tb2_41 rfl rfl (by kernel_rfl) (fun _ _ _ h => h) (.inr ⟨by rfl, rfl⟩) (by simp only [Act.put, sA, sB, sC, qw, qx]; rfl) ?_
    refine qy (i := 22) (N := some 57) (v := undef) tb2_42 rfl rfl (by kernel_rfl) (fun _ _ _ h => h) (.inr ⟨by rfl, rfl⟩) (by simp only [Act.put, sA, sB, sC, qw, qx]; rfl) ?_
    refine qy (i := 23) (N := some 58) (v := undef) tb2_43 rfl rfl (by kernel_rfl) (fun _ _ _ h => h) (.inr ⟨by rfl, rfl⟩) (by simp only [Act.put, sA, sB, sC, qw, qx]; rfl) ?_
    refine qy (i := 24) (N := some 59) tb2_44 rfl rfl (by kernel_rfl) (fun _ _ _ h => h) (.inl ⟨by rfl, by intro w'; go_simp; with_reducible rfl⟩) (by simp only [Act.put, sA, sB, sC, qw, qx]; rfl) ?_
    refine qy (i := 25) (N := some 60) tb2_45 rfl rfl (by kernel_rfl) (fun _ _ _ h => h) (.inl ⟨by rfl, by intro w'; go_simp; with_reducible rfl⟩) (by simp only [Act.put, sA, sB, sC, qw, qx]; rfl) ?_
    refine qy (i := 26) (N := some 61) (v := undef) tb2_46 rfl rfl (by kernel_rfl) (fun _ _ _ h => h) (.inr ⟨by rfl, rfl⟩) (by simp only [Act.put, sA, sB, sC, qw, qx]; rfl) ?_
    refine qy (i := 27) (N := some 62) (v := undef) tb2_47 rfl rfl (by kernel_rfl) (fun _ _ _ h => h) (.inr ⟨by rfl, rfl⟩) (by simp only [Act.put, sA, sB, sC, qw, qx]; rfl) ?_
    refine qy (i := 28) (N := some 63) (v := undef) tb2_48 rfl rfl (by kernel_rfl) (fun _ _ _ h => h) (.inr ⟨by rfl, rfl⟩) (by simp only [Act.put, sA, sB, sC, qw, qx]; rfl) ?_
    refine qy (i := 29) (N := some 64) (v := undef) tb2_49 rfl rfl (by kernel_rfl) (fun _ _ _ h => h) (.inr ⟨by rfl, rfl⟩) (by simp only [Act.put, sA, sB, sC, qw, qx]; rfl) ?_
    refine qy (i := 30) (N := some 65) (v := undef) tb2_61 rfl rfl (by kernel_rfl) (fun _ _ _ h => h) (.inr ⟨by rfl, rfl⟩) (by simp only [Act.put, sA, sB, sC, qw, qx]; rfl) ?_
    refine qy (i := 31) (N := some 66) (v := undef) tb2_62 rfl rfl (by kernel_rfl) (fun _ _ _ h => h) (.inr ⟨by rfl, rfl⟩) (by simp only [Act.put, sA, sB, sC, qw, qx]; rfl) ?_
    refine qy (i := 32) (N := some 67) (v := undef) tb2_52 rfl rfl (by kernel_rfl) (fun _ _ _ h => h) (.inr ⟨by rfl, rfl⟩) (by simp only [Act.put, sA, sB, sC, qw, qx]; rfl) ?_
    refine qy (i := 33) (N := some 68) (v := undef) tb2_53 rfl rfl (by kernel_rfl) (fun _ _ _ h => h) (.inr ⟨by rfl, rfl⟩) (by simp only [Act.put, sA, sB, sC, qw, qx]; rfl) ?_
    refine qy (i := 34) (N := some 69) (v := undef) tb2_54 rfl rfl (by kernel_rfl) (fun _ _ _ h => h) (.inr ⟨by rfl, rfl⟩) (by simp only [Act.put, sA, sB, sC, qw, qx]; rfl) ?_
    refine qy (i := 35) (N := some 70) (v := undef) tb2_55 rfl rfl (by kernel_rfl) (fun _ _ _ h => h) (.inr ⟨by rfl, rfl⟩) (by simp only [Act.put, sA, sB, sC, qw, qx]; rfl) ?_
    refine qy (i := 36) (N := some 71) (v := undef) tb2_56 rfl rfl (by kernel_rfl) (fun _ _ _ h => h) (.inr ⟨by rfl, rfl⟩) (by simp only [Act.put, sA, sB, sC, qw, qx]; rfl) ?_
    refine qy (i := 37) (N := some 72) (v := undef) tb2_57 rfl rfl (by kernel_rfl) (fun _ _ _ h => h) (.inr ⟨by rfl, rfl⟩) (by simp only [Act.put, sA, sB, sC, qw, qx]; rfl) ?_
    refine qy (i := 38) (N := some 73) (v := undef) tb2_58 rfl rfl (by kernel_rfl) (fun _ _ _ h => h) (.inr ⟨by rfl, rfl⟩) (by simp only [Act.put, sA, sB, sC, qw, qx]; rfl) ?_
    refine qy (i := 39) (N := some 74) tb2_59 rfl rfl (by kernel_rfl) (fun _ _ _ h => h) (.inl ⟨by rfl, by intro w'; go_simp; with_reducible rfl⟩) (by simp only [Act.put, sA, sB, sC, qw, qx]; rfl) ?_
    refine zP (by kernel_rfl) ?_
    go_wp2
    go_ret
    exact ⟨rfl, qf n2_.out⟩
   replace e2 := Decidable.not_not.1 e2
   refine one_ (i := 9) (N := some 44) tb2_29 rfl rfl (by kernel_rfl) (by decide) (fun K hK => ?_)
   refine j5 Try.func130 (by kernel_rfl) rfl #[.int .i64 (qc es (k : Int)).f2, .pointer (some ⟨g1, 0, none⟩)] (by rfl) rfl rfl rfl (by simp only [List.map_toArray, List.map_cons, List.map_nil]; rfl) ?_
   with_reducible refine (jT _ _ _ _ (hHeld.2.2.2.1) e2.1 e2.2).mono ?_
   rintro e w3 ⟨rfl, rfl⟩
   refine ⟨_, rfl, ?_⟩
   refine hK.out _ _ ⟨hHeld.1, hHeld.2.1, hHeld.2.2.1, hHeld.2.2.2.1, hHeld.2.2.2.2.1, hHeld.2.2.2.2.2⟩ (fun hHeld => ?_)
   clear hK K
   refine zo (a' := ?_) ?_ ?_
   rotate_left
   ·show Act.put _ (some 44) _ = _
    simp only [Act.put, sA, sB, sC, qw, qx]
    rfl
   refine qy (i := 10) (N := some 45) tb2_30 rfl rfl (by kernel_rfl) (fun _ _ _ h => h) (.inl ⟨by rfl, by intro w'; go_simp; with_reducible rfl⟩) (by simp only [Act.put, sA, sB, sC, qw, qx]; rfl) ?_
   refine qy (i := 11) (N := some 46) tb2_31 rfl rfl (by kernel_rfl) (fun _ _ _ h => h) (.inl ⟨by rfl, by intro w'; go_simp; with_reducible rfl⟩) (by simp only [Act.put, sA, sB, sC, qw, qx]; rfl) ?_
   refine qy (i := 12) (N := some 47) tb2_32 rfl rfl (by kernel_rfl) (fun _ _ _ h => h) (.inl ⟨by rfl, by intro w'; go_simp; with_reducible rfl⟩) (by simp only [Act.put, sA, sB, sC, qw, qx]; rfl) ?_
   refine qy (i := 13) (N := some 48) tb2_33 rfl rfl (by kernel_rfl) (fun _ _ _ h => h) (.inl ⟨by rfl, by intro w'; go_simp; with_reducible rfl⟩) (by simp only [Act.put, sA, sB, sC, qw, qx]; rfl) ?_
   refine vJ (i := 14) (N := some 49) tb2_34 rfl rfl (by kernel_rfl) (fun _ _ _ h => h) (.inl ⟨by rfl, by rintro w' ⟨s0, s1, s2, s3, s4, s5⟩; go_simp; with_reducible rfl⟩) hHeld (by simp only [Act.put, sA, sB, sC, qw, qx]; rfl) ?_
   by_cases e3 : (qc es (k : Int)).f1 < 0
   ·have d3 : decide ((qc es (k : Int)).f1 < 0) = true := decide_eq_true e3
    have hbad : zw n ls.length es = false := ze hlt (by unfold edgeOk; rw [show decide (0 ≤ (qc es (k : Int)).f1) = false from decide_eq_false (by omega)]; simp)
    have hQ := HQ.out
    rw [hbad, if_neg (by decide)] at hQ
    subst hQ
    clear hbad
    refine qy (i := 15) (N := some 50) tb2_35 rfl rfl (by kernel_rfl) (fun _ _ _ h => h) (.inl ⟨by rfl, by intro w'; go_simp; with_reducible rfl⟩) (by simp only [Act.put, sA, sB, sC, qw, qx]; rfl) ?_
    refine qy (i := 16) (N := some 51) tb2_36 rfl rfl (by kernel_rfl) (fun _ _ _ h => h) (.inl ⟨by rfl, by intro w'; go_simp; with_reducible rfl⟩) (by simp only [Act.put, sA, sB, sC, qw, qx]; rfl) ?_
    refine qy (i := 17) (N := some 52) tb2_37 rfl rfl (by kernel_rfl) (fun _ _ _ h => h) (.inl ⟨by rfl, by intro w'; go_simp; with_reducible rfl⟩) (by simp only [Act.put, sA, sB, sC, qw, qx]; rfl) ?_
    refine qy (i := 18) (N := some 53) (v := undef) tb2_38 rfl rfl (by kernel_rfl) (fun _ _ _ h => h) (.inr ⟨by rfl, rfl⟩) (by simp only [Act.put, sA, sB, sC, qw, qx]; rfl) ?_
    refine qy (i := 19) (N := some 54) (v := undef) tb2_60 rfl rfl (by kernel_rfl) (fun _ _ _ h => h) (.inr ⟨by rfl, rfl⟩) (by simp only [Act.put, sA, sB, sC, qw, qx]; rfl) ?_
    refine qy (i := 20) (N := some 55) (v := undef) tb2_40 rfl rfl (by kernel_rfl) (fun _ _ _ h => h) (.inr ⟨by rfl, rfl⟩) (by simp only [Act.put, sA, sB, sC, qw, qx]; rfl) ?_
    refine qy (i := 21) (N := some 56) (v := undef) tb2_41 rfl rfl (by kernel_rfl) (fun _ _ _ h => h) (.inr ⟨by rfl, rfl⟩) (by simp only [Act.put, sA, sB, sC, qw, qx]; rfl) ?_
    refine qy (i := 22) (N := some 57) (v := undef) tb2_42 rfl rfl (by kernel_rfl) (fun _ _ _ h => h) (.inr ⟨by rfl, rfl⟩) (by simp only [Act.put, sA, sB, sC, qw, qx]; rfl) ?_
    refine qy (i := 23) (N := some 58) (v := undef) tb2_43 rfl rfl (by kernel_rfl) (fun _ _ _ h => h) (.inr ⟨by rfl, rfl⟩) (by simp only [Act.put, sA, sB, sC, qw, qx]; rfl) ?_
    refine qy (i := 24) (N := some 59) tb2_44 rfl rfl (by kernel_rfl) (fun _ _ _ h => h) (.inl ⟨by rfl, by intro w'; go_simp; with_reducible rfl⟩) (by simp only [Act.put, sA, sB, sC, qw, qx]; rfl) ?_
    refine qy (i := 25) (N := some 60) tb2_45 rfl rfl (by kernel_rfl) (fun _ _ _ h => h) (.inl ⟨by rfl, by intro w'; go_simp; with_reducible rfl⟩) (by simp only [Act.put, sA, sB, sC, qw, qx]; rfl) ?_
    refine qy (i := 26) (N := some 61) (v := undef) tb2_46 rfl rfl (by kernel_rfl) (fun _ _ _ h => h) (.inr ⟨by rfl, rfl⟩) (by simp only [Act.put, sA, sB, sC, qw, qx]; rfl) ?_
    refine qy (i := 27) (N := some 62) (v := undef) tb2_47 rfl rfl (by kernel_rfl) (fun _ _ _ h => h) (.inr ⟨by rfl, rfl⟩) (by simp only [Act.put, sA, sB, sC, qw, qx]; rfl) ?_
    refine qy (i := 28) (N := some 63) (v := undef) tb2_48 rfl rfl (by kernel_rfl) (fun _ _ _ h => h) (.inr ⟨by rfl, rfl⟩) (by simp only [Act.put, sA, sB, sC, qw, qx]; rfl) ?_
    refine qy (i := 29) (N := some 64) (v := undef) tb2_49 rfl rfl (by kernel_rfl) (fun _ _ _ h => h) (.inr ⟨by rfl, rfl⟩) (by simp only [Act.put, sA, sB, sC, qw, qx]; rfl) ?_
    refine qy (i := 30) (N := some 65) (v := undef) tb2_61 rfl rfl (by kernel_rfl) (fun _ _ _ h => h) (.inr ⟨by rfl, rfl⟩) (by simp only [Act.put, sA, sB, sC, qw, qx]; rfl) ?_
    refine qy (i := 31) (N := some 66) (v := undef) tb2_62 rfl rfl (by kernel_rfl) (fun _ _ _ h => h) (.inr ⟨by rfl, rfl⟩) (by simp only [Act.put, sA, sB, sC, qw, qx]; rfl) ?_
    refine qy (i := 32) (N := some 67) (v := undef) tb2_52 rfl rfl (by kernel_rfl) (fun _ _ _ h => h) (.inr ⟨by rfl, rfl⟩) (by simp only [Act.put, sA, sB, sC, qw, qx]; rfl) ?_
    refine qy (i := 33) (N := some 68) (v := undef) tb2_53 rfl rfl (by kernel_rfl) (fun _ _ _ h => h) (.inr ⟨by rfl, rfl⟩) (by simp only [Act.put, sA, sB, sC, qw, qx]; rfl) ?_
    refine qy (i := 34) (N := some 69) (v := undef) tb2_54 rfl rfl (by kernel_rfl) (fun _ _ _ h => h) (.inr ⟨by rfl, rfl⟩) (by simp only [Act.put, sA, sB, sC, qw, qx]; rfl) ?_
    refine qy (i := 35) (N := some 70) (v := undef) tb2_55 rfl rfl (by kernel_rfl) (fun _ _ _ h => h) (.inr ⟨by rfl, rfl⟩) (by simp only [Act.put, sA, sB, sC, qw, qx]; rfl) ?_
    refine qy (i := 36) (N := some 71) (v := undef) tb2_56 rfl rfl (by kernel_rfl) (fun _ _ _ h => h) (.inr ⟨by rfl, rfl⟩) (by simp only [Act.put, sA, sB, sC, qw, qx]; rfl) ?_
    refine qy (i := 37) (N := some 72) (v := undef) tb2_57 rfl rfl (by kernel_rfl) (fun _ _ _ h => h) (.inr ⟨by rfl, rfl⟩) (by simp only [Act.put, sA, sB, sC, qw, qx]; rfl) ?_
    refine qy (i := 38) (N := some 73) (v := undef) tb2_58 rfl rfl (by kernel_rfl) (fun _ _ _ h => h) (.inr ⟨by rfl, rfl⟩) (by simp only [Act.put, sA, sB, sC, qw, qx]; rfl) ?_
    refine qy (i := 39) (N := some 74) tb2_59 rfl rfl (by kernel_rfl) (fun _ _ _ h => h) (.inl ⟨by rfl, by intro w'; go_simp; with_reducible rfl⟩) (by simp only [Act.put, sA, sB, sC, qw, qx]; rfl) ?_
    refine zP (by kernel_rfl) ?_
    go_wp2
    go_ret
    exact ⟨rfl, qf n2_.out⟩
   have d3 : decide ((qc es (k : Int)).f1 < 0) = false := decide_eq_false e3
   refine qy (i := 15) (N := some 50) tb2_35 rfl rfl (by kernel_rfl) (fun _ _ _ h => h) (.inl ⟨by rfl, by intro w'; go_simp; with_reducible rfl⟩) (by simp only [Act.put, sA, sB, sC, qw, qx]; rfl) ?_
   refine qy (i := 16) (N := some 51) tb2_36 rfl rfl (by kernel_rfl) (fun _ _ _ h => h) (.inl ⟨by rfl, by intro w'; go_simp; with_reducible rfl⟩) (by simp only [Act.put, sA, sB, sC, qw, qx]; rfl) ?_
   refine qy (i := 17) (N := some 52) tb2_37 rfl rfl (by kernel_rfl) (fun _ _ _ h => h) (.inl ⟨by rfl, by intro w'; go_simp; with_reducible rfl⟩) (by simp only [Act.put, sA, sB, sC, qw, qx]; rfl) ?_
   refine qy (i := 18) (N := some 53) tb2_38 rfl rfl (by kernel_rfl) (fun _ _ _ h => h) (.inl ⟨by rfl, by intro w'; go_simp; with_reducible rfl⟩) (by simp only [Act.put, sA, sB, sC, qw, qx]; rfl) ?_
   refine qy (i := 20) (N := some 55) tb2_39 rfl rfl (by kernel_rfl) (fun _ _ _ h => h) (.inl ⟨by rfl, by intro w'; go_simp; with_reducible rfl⟩) (by simp only [Act.put, sA, sB, sC, qw, qx]; rfl) ?_
   refine vJ (i := 19) (N := some 54) tb2_40 rfl rfl (by kernel_rfl) (fun _ _ _ h => h) (.inl ⟨by rfl, by rintro w' ⟨s0, s1, s2, s3, s4, s5⟩; go_simp; with_reducible rfl⟩) hHeld (by simp only [Act.put, sA, sB, sC, qw, qx]; rfl) ?_
   refine vJ (i := 21) (N := some 56) tb2_41 rfl rfl (by kernel_rfl) (fun _ _ _ h => h) (.inl ⟨by rfl, by rintro w' ⟨s0, s1, s2, s3, s4, s5⟩; go_simp; with_reducible rfl⟩) hHeld (by simp only [Act.put, sA, sB, sC, qw, qx]; rfl) ?_
   refine qy (i := 22) (N := some 57) tb2_42 rfl rfl (by kernel_rfl) (fun _ _ _ h => h) (.inl ⟨by rfl, by intro w'; go_simp; with_reducible rfl⟩) (by simp only [Act.put, sA, sB, sC, qw, qx]; rfl) ?_
   by_cases e4 : (ls.length : Int) ≤ (qc es (k : Int)).f1
   ·have d4 : decide ((ls.length : Int) ≤ (qc es (k : Int)).f1) = true := decide_eq_true e4
    have hbad : zw n ls.length es = false := ze hlt (by unfold edgeOk; rw [show decide ((qc es (k : Int)).f1 < (ls.length : Int)) = false from decide_eq_false (by omega)]; simp)
    have hQ := HQ.out
    rw [hbad, if_neg (by decide)] at hQ
    subst hQ
    clear hbad
    refine qy (i := 23) (N := some 58) tb2_43 rfl rfl (by kernel_rfl) (fun _ _ _ h => h) (.inl ⟨by rfl, by intro w'; go_simp; with_reducible rfl⟩) (by simp only [Act.put, sA, sB, sC, qw, qx]; rfl) ?_
    refine qy (i := 24) (N := some 59) tb2_44 rfl rfl (by kernel_rfl) (fun _ _ _ h => h) (.inl ⟨by rfl, by intro w'; go_simp; with_reducible rfl⟩) (by simp only [Act.put, sA, sB, sC, qw, qx]; rfl) ?_
    refine qy (i := 25) (N := some 60) tb2_45 rfl rfl (by kernel_rfl) (fun _ _ _ h => h) (.inl ⟨by rfl, by intro w'; go_simp; with_reducible rfl⟩) (by simp only [Act.put, sA, sB, sC, qw, qx]; rfl) ?_
    refine qy (i := 26) (N := some 61) (v := undef) tb2_46 rfl rfl (by kernel_rfl) (fun _ _ _ h => h) (.inr ⟨by rfl, rfl⟩) (by simp only [Act.put, sA, sB, sC, qw, qx]; rfl) ?_
    refine qy (i := 27) (N := some 62) (v := undef) tb2_47 rfl rfl (by kernel_rfl) (fun _ _ _ h => h) (.inr ⟨by rfl, rfl⟩) (by simp only [Act.put, sA, sB, sC, qw, qx]; rfl) ?_
    refine qy (i := 28) (N := some 63) (v := undef) tb2_48 rfl rfl (by kernel_rfl) (fun _ _ _ h => h) (.inr ⟨by rfl, rfl⟩) (by simp only [Act.put, sA, sB, sC, qw, qx]; rfl) ?_
    refine qy (i := 29) (N := some 64) (v := undef) tb2_49 rfl rfl (by kernel_rfl) (fun _ _ _ h => h) (.inr ⟨by rfl, rfl⟩) (by simp only [Act.put, sA, sB, sC, qw, qx]; rfl) ?_
    refine qy (i := 30) (N := some 65) (v := undef) tb2_61 rfl rfl (by kernel_rfl) (fun _ _ _ h => h) (.inr ⟨by rfl, rfl⟩) (by simp only [Act.put, sA, sB, sC, qw, qx]; rfl) ?_
    refine qy (i := 31) (N := some 66) (v := undef) tb2_62 rfl rfl (by kernel_rfl) (fun _ _ _ h => h) (.inr ⟨by rfl, rfl⟩) (by simp only [Act.put, sA, sB, sC, qw, qx]; rfl) ?_
    refine qy (i := 32) (N := some 67) (v := undef) tb2_52 rfl rfl (by kernel_rfl) (fun _ _ _ h => h) (.inr ⟨by rfl, rfl⟩) (by simp only [Act.put, sA, sB, sC, qw, qx]; rfl) ?_
    refine qy (i := 33) (N := some 68) (v := undef) tb2_53 rfl rfl (by kernel_rfl) (fun _ _ _ h => h) (.inr ⟨by rfl, rfl⟩) (by simp only [Act.put, sA, sB, sC, qw, qx]; rfl) ?_
    refine qy (i := 34) (N := some 69) (v := undef) tb2_54 rfl rfl (by kernel_rfl) (fun _ _ _ h => h) (.inr ⟨by rfl, rfl⟩) (by simp only [Act.put, sA, sB, sC, qw, qx]; rfl) ?_
    refine qy (i := 35) (N := some 70) (v := undef) tb2_55 rfl rfl (by kernel_rfl) (fun _ _ _ h => h) (.inr ⟨by rfl, rfl⟩) (by simp only [Act.put, sA, sB, sC, qw, qx]; rfl) ?_
    refine qy (i := 36) (N := some 71) (v := undef) tb2_56 rfl rfl (by kernel_rfl) (fun _ _ _ h => h) (.inr ⟨by rfl, rfl⟩) (by simp only [Act.put, sA, sB, sC, qw, qx]; rfl) ?_
    refine qy (i := 37) (N := some 72) (v := undef) tb2_57 rfl rfl (by kernel_rfl) (fun _ _ _ h => h) (.inr ⟨by rfl, rfl⟩) (by simp only [Act.put, sA, sB, sC, qw, qx]; rfl) ?_
    refine qy (i := 38) (N := some 73) (v := undef) tb2_58 rfl rfl (by kernel_rfl) (fun _ _ _ h => h) (.inr ⟨by rfl, rfl⟩) (by simp only [Act.put, sA, sB, sC, qw, qx]; rfl) ?_
    refine qy (i := 39) (N := some 74) tb2_59 rfl rfl (by kernel_rfl) (fun _ _ _ h => h) (.inl ⟨by rfl, by intro w'; go_simp; with_reducible rfl⟩) (by simp only [Act.put, sA, sB, sC, qw, qx]; rfl) ?_
    refine zP (by kernel_rfl) ?_
    go_wp2
    go_ret
    exact ⟨rfl, qf n2_.out⟩
   have d4 : decide ((ls.length : Int) ≤ (qc es (k : Int)).f1) = false := decide_eq_false e4
   have e5 : ¬ 0 < k := fun h => hH ⟨h, e1, e2, e3, e4⟩
   have hfst : qa (∀ c : Bool, (decide (k = 0) || c) = true → ((decide (0 ≤ (qc es (k : Int)).f0) && decide ((qc es (k : Int)).f0 < n)) && ((decide (0 ≤ (qc es (k : Int)).f2) && decide ((qc es (k : Int)).f2 < n)) && (decide (0 ≤ (qc es (k : Int)).f1) && (decide ((qc es (k : Int)).f1 < (ls.length : Int)) && (decide (k = 0) || c))))) = true) := ⟨fun c hc => by rw [hc, decide_eq_true e1.1, decide_eq_true e1.2, decide_eq_true e2.1, decide_eq_true e2.2, show decide (0 ≤ (qc es (k : Int)).f1) = true from decide_eq_true (by omega), show decide ((qc es (k : Int)).f1 < (ls.length : Int)) = true from decide_eq_true (by omega)]; rfl⟩
   have d5 : decide (0 < (k : Int)) = false := decide_eq_false (by omega)
   have d6 : decide (0 < k) = false := decide_eq_false e5
   have hgood : qa (edgeOk n ls.length es k = true) := ⟨hfst.out _ (by rw [show decide (k = 0) = true from decide_eq_true (by omega), Bool.true_or])⟩
   refine qy (i := 23) (N := some 58) tb2_43 rfl rfl (by kernel_rfl) (fun _ _ _ h => h) (.inl ⟨by rfl, by intro w'; go_simp; with_reducible rfl⟩) (by simp only [Act.put, sA, sB, sC, qw, qx]; rfl) ?_
   refine qy (i := 24) (N := some 59) tb2_44 rfl rfl (by kernel_rfl) (fun _ _ _ h => h) (.inl ⟨by rfl, by intro w'; go_simp; with_reducible rfl⟩) (by simp only [Act.put, sA, sB, sC, qw, qx]; rfl) ?_
   refine qy (i := 25) (N := some 60) tb2_45 rfl rfl (by kernel_rfl) (fun _ _ _ h => h) (.inl ⟨by rfl, by intro w'; go_simp; with_reducible rfl⟩) (by simp only [Act.put, sA, sB, sC, qw, qx]; rfl) ?_
   refine qy (i := 26) (N := some 61) tb2_46 rfl rfl (by kernel_rfl) (fun _ _ _ h => h) (.inl ⟨by rfl, by intro w'; go_simp; with_reducible rfl⟩) (by simp only [Act.put, sA, sB, sC, qw, qx]; rfl) ?_
   refine qy (i := 27) (N := some 62) tb2_47 rfl rfl (by kernel_rfl) (fun _ _ _ h => h) (.inl ⟨by rfl, by intro w'; go_simp; with_reducible rfl⟩) (by simp only [Act.put, sA, sB, sC, qw, qx]; rfl) ?_
   refine qy (i := 28) (N := some 63) tb2_48 rfl rfl (by kernel_rfl) (fun _ _ _ h => h) (.inl ⟨by rfl, by intro w'; go_simp; with_reducible rfl⟩) (by simp only [Act.put, sA, sB, sC, qw, qx]; rfl) ?_
   refine qy (i := 29) (N := some 64) (v := undef) tb2_49 rfl rfl (by kernel_rfl) (fun _ _ _ h => h) (.inr ⟨by rfl, rfl⟩) (by simp only [Act.put, sA, sB, sC, qw, qx]; rfl) ?_
   refine qy (i := 30) (N := some 65) (v := undef) tb2_61 rfl rfl (by kernel_rfl) (fun _ _ _ h => h) (.inr ⟨by rfl, rfl⟩) (by simp only [Act.put, sA, sB, sC, qw, qx]; rfl) ?_
   refine qy (i := 31) (N := some 66) (v := undef) tb2_62 rfl rfl (by kernel_rfl) (fun _ _ _ h => h) (.inr ⟨by rfl, rfl⟩) (by simp only [Act.put, sA, sB, sC, qw, qx]; rfl) ?_
   refine qy (i := 32) (N := some 67) (v := undef) tb2_52 rfl rfl (by kernel_rfl) (fun _ _ _ h => h) (.inr ⟨by rfl, rfl⟩) (by simp only [Act.put, sA, sB, sC, qw, qx]; rfl) ?_
   refine qy (i := 33) (N := some 68) (v := undef) tb2_53 rfl rfl (by kernel_rfl) (fun _ _ _ h => h) (.inr ⟨by rfl, rfl⟩) (by simp only [Act.put, sA, sB, sC, qw, qx]; rfl) ?_
   refine qy (i := 34) (N := some 69) (v := undef) tb2_54 rfl rfl (by kernel_rfl) (fun _ _ _ h => h) (.inr ⟨by rfl, rfl⟩) (by simp only [Act.put, sA, sB, sC, qw, qx]; rfl) ?_
   refine qy (i := 35) (N := some 70) (v := undef) tb2_55 rfl rfl (by kernel_rfl) (fun _ _ _ h => h) (.inr ⟨by rfl, rfl⟩) (by simp only [Act.put, sA, sB, sC, qw, qx]; rfl) ?_
   refine qy (i := 36) (N := some 71) (v := undef) tb2_56 rfl rfl (by kernel_rfl) (fun _ _ _ h => h) (.inr ⟨by rfl, rfl⟩) (by simp only [Act.put, sA, sB, sC, qw, qx]; rfl) ?_
   refine qy (i := 37) (N := some 72) (v := undef) tb2_57 rfl rfl (by kernel_rfl) (fun _ _ _ h => h) (.inr ⟨by rfl, rfl⟩) (by simp only [Act.put, sA, sB, sC, qw, qx]; rfl) ?_
   refine qy (i := 38) (N := some 73) tb2_58 rfl rfl (by kernel_rfl) (fun _ _ _ h => h) (.inl ⟨by rfl, by intro w'; go_simp; with_reducible rfl⟩) (by simp only [Act.put, sA, sB, sC, qw, qx]; rfl) ?_
   refine qy (i := 39) (N := some 74) tb2_59 rfl rfl (by kernel_rfl) (fun _ _ _ h => h) (.inl ⟨by rfl, by intro w'; go_simp; with_reducible rfl⟩) (by simp only [Act.put, sA, sB, sC, qw, qx]; rfl) ?_
   refine zP (by kernel_rfl) ?_
   go_wp2
   go_roundw
   case rel => exact ⟨k + 1, by go_num, by omega, ⟨fun j hj => by
     rcases Nat.lt_or_ge j k with hj' | hj'
     ·exact HOK.out j hj'
     ·obtain rfl : j = k := by omega
      exact hgood.out⟩, ⟨ql n1_.out⟩, ⟨qf n2_.out⟩⟩
   case measure => simp [intOf]; omega
  ·have e : k = es.length := by omega
   subst e
   have d1 : decide ((es.length : Int) < (es.length : Int)) = false := decide_eq_false (by omega)
   have d2 : decide (es.length < es.length) = false := decide_eq_false (by omega)
   have hQ := HQ.out
   rw [if_pos (jP HOK.out)] at hQ
   subst hQ
   go_wp2
   go_ret
   exact ⟨rfl, HB.out⟩
set_option maxHeartbeats 1000000 in
set_option maxRecDepth 100000 in
theorem qK.calls (k : Nat) (a0_0 : Int) (A0_1 : Option Addr) (c0_1 : Nat) (l0_1 : List ByteArray) (A0_2 : Option Addr) (c0_2 : Nat) (l0_2 : List (S55)) (r : Int) (w : World) (hr0_1 : Kd.C Kd.string w A0_1 l0_1.length l0_1) (hc0_1 : l0_1.length ≤ c0_1) (hr0_2 : Kd.C k55 w A0_2 l0_2.length l0_2) (hc0_2 : l0_2.length ≤ c0_2) (h : qK.f k a0_0 l0_1 l0_2 = some r) :
  Calls Try.prog 67 #[.agg #[.int .i64 a0_0, .slice A0_1 l0_1.length c0_1, .slice A0_2 l0_2.length c0_2]] w fun e w' => e = .returned (.int .i64 r) ∧ Below w.heap.size w w' := by
 unfold qK.f at h
 have hu25 := Try.underlying25
 by_cases h1 : a0_0 < 1
 ·rw [if_pos h1] at h
  obtain rfl := Option.some.inj h
  have b1 : decide (a0_0 < 1) = true := decide_eq_true h1
  clear h hr0_1 hr0_2
  go_enter Try.func67, Try.ntmps67
  go_wp2
  go_ret
  exact ⟨rfl, qg (Below.refl _ _) _⟩
 rw [if_neg h1] at h
 have b1 : decide (a0_0 < 1) = false := decide_eq_false h1
 by_cases h2 : a0_0 > 2048
 ·rw [if_pos h2] at h
  obtain rfl := Option.some.inj h
  have b2 : decide (2048 < a0_0) = true := decide_eq_true h2
  clear h hr0_1 hr0_2
  go_enter Try.func67, Try.ntmps67
  go_wp2
  go_ret
  exact ⟨rfl, qg (Below.refl _ _) _⟩
 rw [if_neg h2] at h
 have b2 : decide (2048 < a0_0) = false := decide_eq_false (by omega)
 obtain ⟨b, hb, h⟩ := Option.bind_eq_some_iff.1 h
 by_cases h3 : b = true
 ·subst h3
  rw [if_pos rfl] at h
  by_cases h4 : (l0_2.length : Int) > 1000000
  ·rw [if_pos h4] at h
   obtain rfl := Option.some.inj h
   have HN := qa.mk hb
   have HR := qa.mk hr0_1
   have HC := qa.mk hc0_1
   have b3 : decide (1000000 < (l0_2.length : Int)) = true := decide_eq_true h4
   have b4 : decide (1000000 < l0_2.length) = true := decide_eq_true (by omega)
   clear h hr0_1 hr0_2 hb hc0_1
   go_enter Try.func67, Try.ntmps67
   go_wp2_with (first | (go_at_call 129; (with_reducible refine (vF.calls k _ _ l0_1 _ _ (Kd.qU HR.out (qg (Below.refl _ _) _)) HC.out HN.out).mono ?_); rintro e w1 ⟨rfl, hb⟩; have HB := qa.mk (qD (qg (Below.refl w.heap.size w) _) hb); have hc2 := (qj (qB (zY w _) hb) 2).trans rfl; clear hb))
   go_ret
   exact ⟨rfl, HB.out⟩
  ·rw [if_neg h4] at h
   refine yB a0_0 A0_1 c0_1 l0_1 A0_2 c0_2 l0_2 r w hr0_2 (by omega) (by omega) (by omega) (fun W hW => vF.calls k A0_1 c0_1 l0_1 true W hW hc0_1 hb) hr0_1 ?_
   split at h <;> rename_i h5
   ·rw [if_pos h5]; exact Option.some.inj h
   ·rw [if_neg h5]; exact Option.some.inj h
 ·rw [if_neg h3] at h
  obtain rfl := Option.some.inj h
  obtain rfl : b = false := by simpa using h3
  have HN := qa.mk hb
  have HR := qa.mk hr0_1
  have HC := qa.mk hc0_1
  clear h hr0_1 hr0_2 hb hc0_1
  go_enter Try.func67, Try.ntmps67
  go_wp2_with (first | (go_at_call 129; (with_reducible refine (vF.calls k _ _ l0_1 _ _ (Kd.qU HR.out (qg (Below.refl _ _) _)) HC.out HN.out).mono ?_); rintro e w1 ⟨rfl, hb⟩; have HB := qa.mk (qD (qg (Below.refl w.heap.size w) _) hb); clear hb))
  go_ret
  exact ⟨rfl, HB.out⟩
def wC (ls : List ByteArray) (i : Nat) : Bool :=
 decide (((rdOf ByteArray.empty ls (i : Int)).size : Int) ≤ 200) && (decide (i = 0) || Op.bytesLess ((rdOf ByteArray.empty ls ((i : Int) - 1)).toList) ((rdOf ByteArray.empty ls (i : Int)).toList))
def zG (ls : List ByteArray) : Bool := (List.range ls.length).all (wC ls)
def mayF (n : Int) (ls : List ByteArray) (es : List S55) : Bool :=
 decide (1 ≤ n) && (decide (n ≤ 2048) && (decide (ls.length ≤ 64) && (decide (es.length ≤ 1000000) && (zG ls && zw n ls.length es))))
theorem jr {ls : List ByteArray} {i : Nat} (hi : i < ls.length) (h : wC ls i = false) : zG ls = false := by
 unfold zG
 rw [List.all_eq_false]
 exact ⟨i, List.mem_range.2 hi, by simp [h]⟩
theorem kr {ls : List ByteArray} (h : ∀ j, j < ls.length → wC ls j = true) : zG ls = true := by
 unfold zG
 rw [List.all_eq_true]
 exact fun j hj => h j (List.mem_range.1 hj)
def Grew (w w' : World) : Prop := ∃ q os, w' = Go.Sort.grow (w.drewN q) os
theorem Grew.refl (w : World) : Grew w w := ⟨0, #[], by rw [Go.Sort.grow_empty]; rfl⟩
theorem jK {w w' : World} (h : Grew w w') (o : Obj) : Grew w (w'.alloc o) := by
 obtain ⟨q, os, rfl⟩ := h
 exact ⟨q, os.push o, by simp [Go.Sort.grow, World.alloc, ← Array.append_push]⟩
theorem wR {w w' : World} (h : Grew w w') (n : Nat) : Grew w (w'.drewN n) := by
 obtain ⟨q, os, rfl⟩ := h
 refine ⟨q + n, os, ?_⟩
 rw [← World.drewN_drewN]
 rfl
theorem Qh {w w' : World} (h : Grew w w') : Grew w w'.drew := by
 have := wR h 1
 exact this
theorem Grew.below {w w' : World} (h : Grew w w') : Below w.heap.size w w' := by
 obtain ⟨q, os, rfl⟩ := h
 refine ⟨rfl, rfl, rfl, by simp [Go.Sort.grow, World.drewN], fun k hk => ?_⟩
 show (w.heap ++ os)[k]? = w.heap[k]?
 exact Array.getElem?_append_left hk
theorem zH {w : World} {a : Addr} {v : Value} (h : w.cell? a = some v) (o : Obj) : (w.alloc o).cell? a = some v := wF (qg (Below.refl _ _) o) h
theorem or_reads (W : World) (a b c : Int) : Kd.C (Kd.int .i64) (W.alloc (.cells #[.int .i64 a, .int .i64 b, .int .i64 c] 3)) (some ⟨W.heap.size, 0, none⟩) 3 [a, b, c] :=
 ⟨rfl, by omega, fun _ => ⟨_, rfl, fun j p hj => by
  have hB := zY W (.cells #[.int .i64 a, .int .i64 b, .int .i64 c] 3)
  match j, hj with
  | 0, hj => obtain rfl := Option.some.inj hj; exact ⟨[.int .i64 a], rfl, rfl, fun i u hu => by match i, hu with | 0, hu => obtain rfl := Option.some.inj hu; exact (qj hB 0).trans rfl⟩
  | 1, hj => obtain rfl := Option.some.inj hj; exact ⟨[.int .i64 b], rfl, rfl, fun i u hu => by match i, hu with | 0, hu => obtain rfl := Option.some.inj hu; rw [add_plain]; exact (qj hB 1).trans rfl⟩
  | 2, hj => obtain rfl := Option.some.inj hj; exact ⟨[.int .i64 c], rfl, rfl, fun i u hu => by match i, hu with | 0, hu => obtain rfl := Option.some.inj hu; rw [add_plain]; exact (qj hB 2).trans rfl⟩⟩⟩
set_option maxHeartbeats 4000000 in
set_option maxRecDepth 100000 in
theorem zb.grows (x y : S55) (w : World) :
  Calls Try.prog 126 #[.agg #[.int .i64 x.f0, .int .i64 x.f1, .int .i64 x.f2], .agg #[.int .i64 y.f0, .int .i64 y.f1, .int .i64 y.f2]] w fun e w' => e = .returned (.int .i64 (cmpE x y)) ∧ Grew w w' := by
 have hu55 := Try.underlying55
 have hc0 := qa.mk (jl x.f0 y.f0)
 have hc1 := qa.mk (jl x.f1 y.f1)
 have hc2 := qa.mk (jl x.f2 y.f2)
 have hd := qa.mk (Qq 1 (if x.f0 < y.f0 then -1 else if y.f0 < x.f0 then 1 else 0) (if x.f1 < y.f1 then -1 else if y.f1 < x.f1 then 1 else 0) (if x.f2 < y.f2 then -1 else if y.f2 < x.f2 then 1 else 0))
 have hr : qa ((if (if x.f0 < y.f0 then (-1 : Int) else if y.f0 < x.f0 then 1 else 0) = 0 then (if (if x.f1 < y.f1 then (-1 : Int) else if y.f1 < x.f1 then 1 else 0) = 0 then (if x.f2 < y.f2 then (-1 : Int) else if y.f2 < x.f2 then 1 else 0) else (if x.f1 < y.f1 then (-1 : Int) else if y.f1 < x.f1 then 1 else 0)) else (if x.f0 < y.f0 then (-1 : Int) else if y.f0 < x.f0 then 1 else 0)) = cmpE x y) := ⟨by
  simp only [cmpE]
  repeat' split
  all_goals omega⟩
 rw [hr.out] at hd
 clear hr
 generalize (if x.f0 < y.f0 then (-1 : Int) else if y.f0 < x.f0 then 1 else 0) = c0 at hc0 hd
 generalize (if x.f1 < y.f1 then (-1 : Int) else if y.f1 < x.f1 then 1 else 0) = c1 at hc1 hd
 generalize (if x.f2 < y.f2 then (-1 : Int) else if y.f2 < x.f2 then 1 else 0) = c2 at hc2 hd
 go_enter Try.func126, Try.ntmps126
 go_wp2
 have HG0 : qa (Grew w (((w.alloc (.cells #[.int .i64 x.f0, .int .i64 x.f1, .int .i64 x.f2] 55)).alloc (.cells #[.int .i64 y.f0, .int .i64 y.f1, .int .i64 y.f2] 55)).drew)) := ⟨Qh (jK (jK (Grew.refl _) _) _)⟩
 have B1 := qa.mk (qh (zY w (.cells #[.int .i64 x.f0, .int .i64 x.f1, .int .i64 x.f2] 55)) (.cells #[.int .i64 y.f0, .int .i64 y.f1, .int .i64 y.f2] 55))
 have B2 := qa.mk (zY (w.alloc (.cells #[.int .i64 x.f0, .int .i64 x.f1, .int .i64 x.f2] 55)) (.cells #[.int .i64 y.f0, .int .i64 y.f1, .int .i64 y.f2] 55))
 rw [show (w.alloc (.cells #[.int .i64 x.f0, .int .i64 x.f1, .int .i64 x.f2] 55)).heap.size = w.heap.size + 1 by simp] at B2
 obtain ⟨g1, hg1⟩ : ∃ g1, g1 = w.heap.size := ⟨_, rfl⟩
 obtain ⟨g2, hg2⟩ : ∃ g2, g2 = w.heap.size + 1 := ⟨_, rfl⟩
 rw [← hg2] at B2 ⊢
 rw [← hg1] at B1 ⊢
 clear hg1 hg2
 generalize ((w.alloc (.cells #[.int .i64 x.f0, .int .i64 x.f1, .int .i64 x.f2] 55)).alloc (.cells #[.int .i64 y.f0, .int .i64 y.f1, .int .i64 y.f2] 55)) = w2 at B1 B2 HG0 ⊢
 have h0 := (qj B1.out 0).trans rfl
 have h1 := (qj B1.out 1).trans rfl
 have h2 := (qj B1.out 2).trans rfl
 have h3 := (qj B2.out 0).trans rfl
 have h4 := (qj B2.out 1).trans rfl
 have h5 := (qj B2.out 2).trans rfl
 have HOr : ∀ (W : World) (a b c : Int), Kd.C (Kd.int .i64) (W.alloc (.cells #[.int .i64 a, .int .i64 b, .int .i64 c] 3)) (some ⟨W.heap.size, 0, none⟩) 3 [a, b, c] := fun W a b c => or_reads W a b c
 refine zI (n := 18) (S := fun w' => w'.cell? ⟨g1, 0, none⟩ = some (.int .i64 x.f0) ∧ w'.cell? ⟨g1, 1, none⟩ = some (.int .i64 x.f1) ∧ w'.cell? ⟨g1, 2, none⟩ = some (.int .i64 x.f2) ∧ w'.cell? ⟨g2, 0, none⟩ = some (.int .i64 y.f0) ∧ w'.cell? ⟨g2, 1, none⟩ = some (.int .i64 y.f1) ∧ w'.cell? ⟨g2, 2, none⟩ = some (.int .i64 y.f2)) (ds := []) tb2_0 (by kernel_rfl) rfl rfl ⟨h0, h1, h2, h3, h4, h5⟩ (fun hHeld => ?_)
 refine qy (i := 0) (N := some 5) tb2_1 rfl rfl (by kernel_rfl) (fun _ _ _ h => h) (.inl ⟨by rfl, by intro w'; go_simp; with_reducible rfl⟩) (by simp only [Act.put, sA, sB, sC, qw, qx]; rfl) ?_
 refine qy (i := 2) (N := some 7) tb2_2 rfl rfl (by kernel_rfl) (fun _ _ _ h => h) (.inl ⟨by rfl, by intro w'; go_simp; with_reducible rfl⟩) (by simp only [Act.put, sA, sB, sC, qw, qx]; rfl) ?_
 refine qy (i := 5) (N := some 10) tb2_3 rfl rfl (by kernel_rfl) (fun _ _ _ h => h) (.inl ⟨by rfl, by intro w'; go_simp; with_reducible rfl⟩) (by simp only [Act.put, sA, sB, sC, qw, qx]; rfl) ?_
 refine qy (i := 7) (N := some 12) tb2_4 rfl rfl (by kernel_rfl) (fun _ _ _ h => h) (.inl ⟨by rfl, by intro w'; go_simp; with_reducible rfl⟩) (by simp only [Act.put, sA, sB, sC, qw, qx]; rfl) ?_
 refine qy (i := 10) (N := some 15) tb2_5 rfl rfl (by kernel_rfl) (fun _ _ _ h => h) (.inl ⟨by rfl, by intro w'; go_simp; with_reducible rfl⟩) (by simp only [Act.put, sA, sB, sC, qw, qx]; rfl) ?_
 refine qy (i := 12) (N := some 17) tb2_6 rfl rfl (by kernel_rfl) (fun _ _ _ h => h) (.inl ⟨by rfl, by intro w'; go_simp; with_reducible rfl⟩) (by simp only [Act.put, sA, sB, sC, qw, qx]; rfl) ?_
 refine vJ (i := 1) (N := some 6) tb2_7 rfl rfl (by kernel_rfl) (fun _ _ _ h => h) (.inl ⟨by rfl, by rintro w' ⟨s0, s1, s2, s3, s4, s5⟩; go_simp; with_reducible rfl⟩) hHeld (by simp only [Act.put, sA, sB, sC, qw, qx]; rfl) ?_
 refine vJ (i := 3) (N := some 8) tb2_8 rfl rfl (by kernel_rfl) (fun _ _ _ h => h) (.inl ⟨by rfl, by rintro w' ⟨s0, s1, s2, s3, s4, s5⟩; go_simp; with_reducible rfl⟩) hHeld (by simp only [Act.put, sA, sB, sC, qw, qx]; rfl) ?_
 refine vJ (i := 6) (N := some 11) tb2_9 rfl rfl (by kernel_rfl) (fun _ _ _ h => h) (.inl ⟨by rfl, by rintro w' ⟨s0, s1, s2, s3, s4, s5⟩; go_simp; with_reducible rfl⟩) hHeld (by simp only [Act.put, sA, sB, sC, qw, qx]; rfl) ?_
 refine vJ (i := 8) (N := some 13) tb2_10 rfl rfl (by kernel_rfl) (fun _ _ _ h => h) (.inl ⟨by rfl, by rintro w' ⟨s0, s1, s2, s3, s4, s5⟩; go_simp; with_reducible rfl⟩) hHeld (by simp only [Act.put, sA, sB, sC, qw, qx]; rfl) ?_
 refine vJ (i := 11) (N := some 16) tb2_11 rfl rfl (by kernel_rfl) (fun _ _ _ h => h) (.inl ⟨by rfl, by rintro w' ⟨s0, s1, s2, s3, s4, s5⟩; go_simp; with_reducible rfl⟩) hHeld (by simp only [Act.put, sA, sB, sC, qw, qx]; rfl) ?_
 refine vJ (i := 13) (N := some 18) tb2_12 rfl rfl (by kernel_rfl) (fun _ _ _ h => h) (.inl ⟨by rfl, by rintro w' ⟨s0, s1, s2, s3, s4, s5⟩; go_simp; with_reducible rfl⟩) hHeld (by simp only [Act.put, sA, sB, sC, qw, qx]; rfl) ?_
 refine one_ (i := 4) (N := some 9) tb2_13 rfl rfl (by kernel_rfl) (by decide) (fun K hK => ?_)
 refine jI Try.func164 (by kernel_rfl) rfl #[.int .i64 x.f0, .int .i64 y.f0] (by rfl) rfl rfl (by simp only [List.map_toArray, List.map_cons, List.map_nil]; rfl) ?_
 with_reducible refine (cmp_Compare_int.calls _ _ _ _ hc0.out).mono ?_
 rintro e w3 ⟨rfl, ⟨nd, rfl⟩⟩
 refine ⟨_, rfl, ?_⟩
 have HG1 := qa.mk (wR HG0.out nd)
 refine hK.out _ _ ⟨hHeld.1, hHeld.2.1, hHeld.2.2.1, hHeld.2.2.2.1, hHeld.2.2.2.2.1, hHeld.2.2.2.2.2⟩ (fun hHeld => ?_)
 clear hK K
 refine zo (a' := ?_) ?_ ?_
 rotate_left
 ·show Act.put _ (some 9) _ = _
  simp only [Act.put, sA, sB, sC, qw, qx]
  rfl
 refine one_ (i := 9) (N := some 14) tb2_14 rfl rfl (by kernel_rfl) (by decide) (fun K hK => ?_)
 refine jI Try.func164 (by kernel_rfl) rfl #[.int .i64 x.f1, .int .i64 y.f1] (by rfl) rfl rfl (by simp only [List.map_toArray, List.map_cons, List.map_nil]; rfl) ?_
 with_reducible refine (cmp_Compare_int.calls _ _ _ _ hc1.out).mono ?_
 rintro e w3 ⟨rfl, ⟨nd, rfl⟩⟩
 refine ⟨_, rfl, ?_⟩
 have HG2 := qa.mk (wR HG1.out nd)
 refine hK.out _ _ ⟨hHeld.1, hHeld.2.1, hHeld.2.2.1, hHeld.2.2.2.1, hHeld.2.2.2.2.1, hHeld.2.2.2.2.2⟩ (fun hHeld => ?_)
 clear hK K
 refine zo (a' := ?_) ?_ ?_
 rotate_left
 ·show Act.put _ (some 14) _ = _
  simp only [Act.put, sA, sB, sC, qw, qx]
  rfl
 refine one_ (i := 14) (N := some 19) tb2_15 rfl rfl (by kernel_rfl) (by decide) (fun K hK => ?_)
 refine jI Try.func164 (by kernel_rfl) rfl #[.int .i64 x.f2, .int .i64 y.f2] (by rfl) rfl rfl (by simp only [List.map_toArray, List.map_cons, List.map_nil]; rfl) ?_
 with_reducible refine (cmp_Compare_int.calls _ _ _ _ hc2.out).mono ?_
 rintro e w3 ⟨rfl, ⟨nd, rfl⟩⟩
 refine ⟨_, rfl, ?_⟩
 have HG3 := qa.mk (wR HG2.out nd)
 refine hK.out _ _ ⟨hHeld.1, hHeld.2.1, hHeld.2.2.1, hHeld.2.2.2.1, hHeld.2.2.2.2.1, hHeld.2.2.2.2.2⟩ (fun hHeld => ?_)
 clear hK K
 refine zo (a' := ?_) ?_ ?_
 rotate_left
 ·show Act.put _ (some 19) _ = _
  simp only [Act.put, sA, sB, sC, qw, qx]
  rfl
 refine one_ (i := 15) (N := some 20) tb2_16 rfl rfl (by kernel_rfl) (by decide) (fun K hK => ?_)
 refine value_ (w1 := ?_) (v := ?_) (by rfl) rfl ?_ ?_
 rotate_left 2
 ·go_simp
  constructor
  ·rfl
  ·rfl
 have HG4 := qa.mk (jK HG3.out (.cells #[.int .i64 c0, .int .i64 c1, .int .i64 c2] 3))
 refine hK.out _ _ ⟨zH (hHeld.1) _, zH (hHeld.2.1) _, zH (hHeld.2.2.1) _, zH (hHeld.2.2.2.1) _, zH (hHeld.2.2.2.2.1) _, zH (hHeld.2.2.2.2.2) _⟩ (fun hHeld => ?_)
 clear hK K
 refine zo (a' := ?_) ?_ ?_
 rotate_left
 ·show Act.put _ (some 20) _ = _
  simp only [Act.put, sA, sB, sC, qw, qx]
  rfl
 refine one_ (i := 16) (N := some 21) tb2_17 rfl rfl (by kernel_rfl) (by decide) (fun K hK => ?_)
 refine jI Try.func163 (by kernel_rfl) rfl #[.slice (some ⟨_, 0, none⟩) 3 3] (by rfl) rfl rfl (by simp only [List.map_toArray, List.map_cons, List.map_nil]; rfl) ?_
 refine (vS.calls 5 _ 3 [c0, c1, c2] _ _ (HOr _ _ _ _) (Nat.le_refl _) hd.out).mono ?_
 rintro e w3 ⟨rfl, ⟨nd, rfl⟩⟩
 refine ⟨_, rfl, ?_⟩
 have HG5 := qa.mk (wR HG4.out nd)
 refine hK.out _ _ ⟨hHeld.1, hHeld.2.1, hHeld.2.2.1, hHeld.2.2.2.1, hHeld.2.2.2.2.1, hHeld.2.2.2.2.2⟩ (fun hHeld => ?_)
 clear hK K
 refine zo (a' := ?_) ?_ ?_
 rotate_left
 ·show Act.put _ (some 21) _ = _
  simp only [Act.put, sA, sB, sC, qw, qx]
  rfl
 refine qy (i := 17) (N := some 4) tb2_18 rfl rfl (by kernel_rfl) (fun _ _ _ h => h) (.inl ⟨by rfl, by intro w'; go_simp; with_reducible rfl⟩) (by simp only [Act.put, sA, sB, sC, qw, qx]; rfl) ?_
 refine zP (by kernel_rfl) ?_
 go_wp2
 go_ret
 have hE := HG5.out
 rw [show w2.drew = w2.drewN 1 from rfl, World.drewN_drewN, World.drewN_drewN, World.drewN_drewN, ← Nat.add_assoc, ← Nat.add_assoc] at hE
 exact ⟨rfl, hE⟩
instance : Inhabited S55 := ⟨z55⟩
def encE (x : S55) : List Value := [.int .i64 x.f0, .int .i64 x.f1, .int .i64 x.f2]
def leE (a b : S55) : Bool := decide (cmpE a b ≤ 0)
def wh (l : List S55) : List S55 := l.mergeSort leE
theorem wJ (a b c : S55) (h1 : leE a b = true) (h2 : leE b c = true) : leE a c = true := by
 unfold leE cmpE at *
 simp only [decide_eq_true_eq] at *
 repeat' split at h1
 all_goals (repeat' split at h2)
 all_goals (first | omega | (repeat' split) <;> omega)
theorem wz (a b : S55) : (leE a b || leE b a) = true := by
 unfold leE cmpE
 simp only [Bool.or_eq_true, decide_eq_true_eq]
 repeat' split
 all_goals omega
theorem xg {a b : S55} (h0 : a.f0 = b.f0) (h1 : a.f1 = b.f1) (h2 : a.f2 = b.f2) : a = b := by
 cases a; cases b; simp_all
theorem wB {a b : S55} (h1 : leE a b = true) (h2 : leE b a = true) : a = b := by
 unfold leE cmpE at *
 simp only [decide_eq_true_eq] at *
 repeat' split at h1
 all_goals (repeat' split at h2)
 all_goals first | omega | exact xg (by omega) (by omega) (by omega)
theorem jE (a b : S55) : ltOf cmpE a b = !leE b a := by
 unfold ltOf leE cmpE
 repeat' split
 all_goals (first | omega | simp; done | (simp; omega))
theorem swoE : Go.Sort.SWO (ltOf cmpE) where
 irrefl x := by
  rw [jE]
  have := wz x x
  simpa using this
 trans x y z h1 h2 := by
  rw [jE] at *
  simp only [Bool.not_eq_true'] at *
  have t1 := wz x y
  have t2 := wz y z
  rw [h1, Bool.or_false] at t1
  rw [h2, Bool.or_false] at t2
  rcases h3 : leE z x with _ | _
  ·rfl
  ·have := wJ y z x t2 h3
   rw [h1] at this
   cases this
 ntrans x y z h1 h2 := by
  rw [jE] at *
  simp only [Bool.not_eq_false'] at *
  exact wJ z y x h2 h1
theorem xO {d d' : Array S55} (hp : Go.Sort.PermIn 0 d.size d d') (hs : Go.Sort.SortedIn (ltOf cmpE) 0 d.size d') : d'.toList = wh d.toList := by
 obtain ⟨hsz, _, hperm⟩ := hp
 have e1 : d'.extract 0 d.size = d' := by rw [← hsz]; simp
 have e2 : d.extract 0 d.size = d := by simp
 rw [e1, e2] at hperm
 refine List.Perm.eq_of_pairwise (le := fun a b => leE a b = true) (fun a b _ _ h1 h2 => wB h1 h2) ?_ (List.pairwise_mergeSort (fun a b c => wJ a b c) (fun a b => wz a b) _) (hperm.trans (List.mergeSort_perm _ _).symm)
 rw [List.pairwise_iff_getElem]
 intro i j hi hj hij
 have hi' : i < d'.size := by simpa using hi
 have hj' : j < d'.size := by simpa using hj
 have h := hs i j (Nat.zero_le _) hij (by omega)
 rw [jE, getElem!_pos d' i hi', getElem!_pos d' j hj'] at h
 simpa using h
theorem isAgg55 : ∀ w, (isAgg (Try.j4.t 24)).run Try.prog w = .ok true w := fun w => by
 change (isAgg 55).run Try.prog w = _
 simp [isAgg, run_underlying Try.underlying55]
theorem sizeOf55 : ∀ w, (Go.sizeOf (Try.j4.t 24)).run Try.prog w = .ok 3 w := fun w => by
 change (Go.sizeOf 55).run Try.prog w = _
 obtain ⟨i0, hi, hzz⟩ := Option.map_eq_some_iff.1 (show (Try.prog.info? 55).map (fun i => (i.zero, i.size, i.bytes)) = some (some (.agg #[.int .i64 0, .int .i64 0, .int .i64 0]), 3, 24) by kernel_rfl)
 simp only [Prod.mk.injEq] at hzz
 simp [Go.sizeOf, typeInfo, hi, hzz.2.1]
theorem cmpLaysE (blk off size : Nat) (w : World) : CmpLays Try.prog 126 #[] encE 3 cmpE blk off size w := fun m os dk hs x y =>
 (zb.grows x y _).mono fun e w' ⟨he, q, os', hw⟩ => ⟨he, q, os', hw⟩
def ko (l : List S55) : Array Value := Go.Sort.flatK encE 3 l.toArray
theorem holdsE {W : World} {g : Nat} {cur : Array Value} {l : List S55} {inner : List Value} {ok : Nat → Prop} {base : Nat} (hh : W.heap[g]? = some (.cells cur 55 (0, 0))) (ht : cur.toList.take (l.length * 3) = inner) (hr : Reps (k55.M W base ok) 3 l inner) : Go.Sort.HoldsK encE 3 W g 0 l.toArray := by
 intro t ht2
 have hsz : t < l.length * 3 := by simpa using ht2
 refine ⟨?_, by simp [World.frozen?, hh]⟩
 have hj : t / 3 < l.length := by omega
 have hp := hr.2 (t / 3) l[t / 3] (List.getElem?_eq_getElem hj)
 have ho := kZ hp
 have h1 : inner[t]? = ((inner.drop (t / 3 * 3)).take 3)[t % 3]? := by
  rw [List.getElem?_take_of_lt (by omega), List.getElem?_drop]
  congr 1
  omega
 rw [ho] at h1
 have h2 : cur[t]? = inner[t]? := by
  rw [← ht, List.getElem?_take_of_lt hsz, Array.getElem?_toList]
 simp only [World.cell?, hh, Nat.zero_add]
 simp only [Option.isSome_none, Bool.false_eq_true, if_false]
 rw [h2, h1]
 have h3 : (Go.Sort.flatK encE 3 l.toArray)[t]! = (encE l.toArray[t / 3]!)[t % 3]! := Go.Sort.get_flatK _ _ _ _ (by simpa using hsz)
 rw [h3]
 have h4 : l.toArray[t / 3]! = l[t / 3] := by simp [getElem!_pos, hj]
 rw [h4]
 have h5 : t % 3 = 0 ∨ t % 3 = 1 ∨ t % 3 = 2 := by omega
 rcases h5 with h5 | h5 | h5 <;> rw [h5] <;> rfl
theorem heap_put {α : Type} [Inhabited α] (enc : α → Value) {w : World} {g n : Nat} {os : Array Obj} {cur : Array Value} {e : TypeId} {fr : Nat × Nat} (d : Array α) (hb : w.heap[g]? = some (.cells cur e fr)) :
  (Go.Sort.grow (Go.Sort.putRow enc (Go.Sort.ahead w n) g 0 d) os).heap[g]? = some (.cells (Go.Sort.putCells enc 0 d cur) e fr) := by
 have hg : g < w.heap.size := (Array.getElem?_eq_some_iff.1 hb).1
 rw [Go.Sort.heap_grow_old _ _ (by simpa using hg)]
 simp [Go.Sort.putRow, Go.Sort.mapBlock, Go.Sort.ahead, Array.getElem?_modify, hb, Go.Sort.onCells]
theorem yA {α : Type} [Inhabited α] (enc : α → Value) {w : World} {g n : Nat} {os : Array Obj} (d : Array α) : w.grownBy (Go.Sort.grow (Go.Sort.putRow enc (Go.Sort.ahead w n) g 0 d) os) (some g) := by
 refine ⟨rfl, rfl, rfl, by simp, fun k hk hne => ?_⟩
 rw [Go.Sort.heap_grow_old _ _ (by simpa using hk)]
 have : g ≠ k := fun e => hne (by rw [e])
 simp [Go.Sort.putRow, Go.Sort.mapBlock, Go.Sort.ahead, Array.getElem?_modify, this]
theorem QJ {W : World} {g cap base : Nat} {cur : Array Value} {l : List S55} (hg : base ≤ g) (hh : W.heap[g]? = some (.cells (Go.Sort.putCells id 0 (ko l) cur) 55 (0, 0))) (h1 : l.length ≤ cap) (h2 : cap ≤ maxLen) (h3 : cur.size = cap * 3) :
  Kd.R k55 55 W base (fun _ => True) (.slice (some ⟨g, 0, none⟩) l.length cap) l := by
 have hfs : (ko l).size = l.length * 3 := by simp [ko]
 refine ⟨fun _ _ => trivial, (Go.Sort.putCells id 0 (ko l) cur).toList.take (l.length * 3), ⟨?_, .inr ⟨g, cap, _, rfl, hg, hh, h1, h2, by simp [Go.Sort.putCells, h3, show k55.sz = 3 from rfl], rfl⟩⟩, ?_, ?_⟩
 ·rw [List.length_take]
  simp [Go.Sort.putCells, h3, show k55.sz = 3 from rfl]
  omega
 ·rw [List.length_take]
  show _ = l.length * 3
  simp [Go.Sort.putCells, h3, show k55.sz = 3 from rfl]
  omega
 ·intro j p hj
  have hjl : j < l.length := (List.getElem?_eq_some_iff.1 hj).1
  have hpe : l[j] = p := (List.getElem?_eq_some_iff.1 hj).2
  have : (((Go.Sort.putCells id 0 (ko l) cur).toList.take (l.length * 3)).drop (j * k55.sz)).take k55.sz = [.int .i64 p.f0, .int .i64 p.f1, .int .i64 p.f2] := by
   show (((Go.Sort.putCells id 0 (ko l) cur).toList.take (l.length * 3)).drop (j * 3)).take 3 = _
   apply List.ext_getElem?
   intro i
   by_cases hi : i < 3
   ·rw [List.getElem?_take_of_lt hi, List.getElem?_drop, List.getElem?_take_of_lt (by omega), Array.getElem?_toList]
    have hq : (Go.Sort.putCells id 0 (ko l) cur)[j * 3 + i]? = some ((ko l)[j * 3 + i]!) := by
     simp [Go.Sort.putCells, hfs, show j * 3 + i < l.length * 3 by omega, show j * 3 + i < cur.size by omega]
    rw [hq]
    have h3 : (ko l)[j * 3 + i]! = (encE l.toArray[(j * 3 + i) / 3]!)[(j * 3 + i) % 3]! := Go.Sort.get_flatK _ _ _ _ (by simp; omega)
    rw [h3, show (j * 3 + i) / 3 = j by omega, show (j * 3 + i) % 3 = i by omega]
    have h4 : l.toArray[j]! = p := by rw [← hpe]; simp [getElem!_pos, hjl]
    rw [h4]
    have h5 : i = 0 ∨ i = 1 ∨ i = 2 := by omega
    rcases h5 with rfl | rfl | rfl <;> rfl
   ·rw [List.getElem?_take_eq_none (by omega), List.getElem?_eq_none (by simp; omega)]
  rw [this]
  exact wm _ _ _ _
theorem jf (l : List S55) : (wh l).length = l.length := by simp [wh, List.length_mergeSort]
theorem Qa (l : List S55) (v : Value) (base : Nat) (w0 W : World) (hB : Below base w0 W) (ho : Kd.R k55 55 W base (fun _ => True) v l) (hlt : l.length < 4611686018427387904) (hWb : base ≤ W.heap.size) :
  Calls Try.prog 125 #[v, .func (.func 126) #[] #[]] W fun e W2 => e = .returned (.tuple #[]) ∧ Kd.R k55 55 W2 base (fun _ => True) v (wh l) ∧ Below base w0 W2 ∧ W.grownBy W2 v.ownBlock := by
 obtain ⟨_, inner, ho2, hr⟩ := ho
 rcases ho2.2 with ⟨rfl, hn⟩ | ⟨g, cap, cur, rfl, hg, hh, hnc, hcm, hcs, htake⟩
 ·have hnil : l = [] := List.eq_nil_of_length_eq_zero hn
  subst hnil
  have hS := AnyF.slices_SortFunc_none Try.wh none 0 (.func (.func 126) #[] #[]) W
  change Calls Try.prog 125 _ W _ at hS
  refine hS.mono ?_
  rintro e W2 ⟨rfl, rfl⟩
  exact ⟨rfl, by rw [show wh [] = [] by simp [wh]]; exact Kd.jO _ _ _ _ _, hB, ⟨rfl, rfl, rfl, Nat.le_refl _, fun _ _ _ => rfl⟩⟩
 ·have eg : ∀ args w, (callFunc 126 args).run Try.prog w = .ok (.enter 126 args) w := fun args w => xP Try.func126 (by kernel_rfl) rfl args w
  have hS := AnyQ.slices_SortFunc Try.wh 3 isAgg55 sizeOf55 encE (fun _ => rfl) (fun x v hv => by simp [encE] at hv; rcases hv with rfl | rfl | rfl <;> rfl) cmpE swoE 126 #[] g 0 cap l.toArray W eg (cmpLaysE g 0 _ W) (holdsE hh htake hr) (Array.getElem?_eq_some_iff.1 hh).1 (by simpa using hlt)
  change Calls Try.prog 125 _ W _ at hS
  rw [List.size_toArray] at hS
  refine hS.mono ?_
  rintro e W2 ⟨rfl, d', n, os, hp, hs, rfl⟩
  have hd : d' = (wh l).toArray := by
   have := xO (d := l.toArray) (d' := d') (by simpa using hp) (by simpa using hs)
   rw [show l.toArray.toList = l from rfl] at this
   rw [← this]
  subst hd
  have hh2 := heap_put id (n := n) (os := os) (Go.Sort.flatK encE 3 (wh l).toArray) hh
  have hz := jf l
  have hgr : W.grownBy (sortWorldK encE 3 W g 0 n (wh l).toArray os) (some g) := yA id _
  refine ⟨rfl, ?_, hB.grown hgr hWb (fun k hk => by cases hk; exact hg), hgr⟩
  have := QJ (l := wh l) (cap := cap) hg hh2 (by omega) hcm (by rw [hcs]; rfl)
  rw [hz] at this
  exact this
def Ev {α : Type} (F : Nat → Option α) (r : α) : Prop := ∃ k0, ∀ k, k0 ≤ k → F k = some r
theorem Ev.Qn {α : Type} {F : Nat → Option α} {r : α} (hm : ∀ k, LeO (F k) (F (k + 1))) {k0 : Nat} (h : F k0 = some r) : Ev F r := by
 refine ⟨k0, fun k hk => ?_⟩
 obtain ⟨j, rfl⟩ : ∃ j, k = k0 + j := ⟨k - k0, by omega⟩
 clear hk
 induction j with
 | zero => exact h
 | succ j ih => exact hm _ r ih
theorem Ev.some {α : Type} {F : Nat → Option α} {r : α} (h : Ev F r) : ∃ k, F k = Option.some r := let ⟨k, h⟩ := h; ⟨k, h k (Nat.le_refl _)⟩
theorem wrap_small {i : Int} (h0 : -9223372036854775808 ≤ i) (h1 : i < 9223372036854775808) : wrap64 i = i := by unfold wrap64; omega
theorem wy {i : Nat} (h : i < 4611686018427387904) : wrap64 ((i : Int) + 1) = ((i + 1 : Nat) : Int) := by rw [wrap_small (by omega) (by omega)]; omega
theorem wV {α : Type} {d : α} {xs : List α} {j : Nat} (h : j < xs.length) : rdOf d xs (j : Int) = xs[j] := by
 unfold rdOf
 rw [Int.toNat_natCast, List.getD_eq_getElem?_getD, List.getElem?_eq_getElem h]
 rfl
theorem toList_inj {a b : ByteArray} (h : a.toList = b.toList) : a = b := by
 rw [ByteArray.toList_eq, ByteArray.toList_eq] at h
 cases a; cases b
 simp only [ByteArray.mk.injEq]
 exact Array.toList_inj.1 h
theorem jY {α : Type} {R : α → α → Prop} (ht : ∀ a b c, R a b → R b c → R a c) {l : List α} (h : ∀ i (h : i + 1 < l.length), R (l[i]'(by omega)) l[i + 1]) : l.Pairwise R := by
 rw [List.pairwise_iff_getElem]
 intro i j hi hj hij
 obtain ⟨m, rfl⟩ : ∃ m, j = i + 1 + m := ⟨j - i - 1, by omega⟩
 induction m with
 | zero => exact h i hj
 | succ m ih => exact ht _ _ _ (ih (by omega) (by omega)) (h (i + 1 + m) hj)
section
variable {α : Type} [Inhabited α] [DecidableEq α] {le : α → α → Prop}
theorem xq (ht : ∀ a b c, le a b → le b c → le a c) (hr : ∀ a, le a a) (d : Array α) (hs : ∀ i j, i ≤ j → j < d.size → le d[i]! d[j]!) (ha : ∀ a b, le a b → le b a → a = b) :
  ∀ m, m ≤ d.size → (Lib.compactUpTo d m).Pairwise (fun a b => le a b ∧ a ≠ b) ∧ (∀ x ∈ Lib.compactUpTo d m, 0 < m ∧ le x d[m - 1]!) ∧ (∀ j, j < m → d[j]! ∈ Lib.compactUpTo d m)
 | 0, _ => by simp [Lib.compactUpTo]
 | m + 1, hm => by
  obtain ⟨h1, h2, h3⟩ := xq ht hr d hs ha m (by omega)
  rw [Lib.compactUpTo_succ]
  by_cases hk : Lib.keeps d m = true
  ·rw [if_pos hk]
   refine ⟨?_, ?_, ?_⟩
   ·rw [List.pairwise_append]
    refine ⟨h1, by simp, fun a ha1 b hb => ?_⟩
    obtain rfl := List.mem_singleton.1 hb
    obtain ⟨hm0, hle⟩ := h2 a ha1
    have h4 := hs (m - 1) m (by omega) (by omega)
    refine ⟨ht _ _ _ hle h4, fun e => ?_⟩
    unfold Lib.keeps at hk
    rcases of_decide_eq_true hk with h5 | h5
    ·omega
    ·exact h5 (ha _ _ (by rw [← e]; exact hle) h4)
   ·intro x hx
    refine ⟨by omega, ?_⟩
    rcases List.mem_append.1 hx with hx | hx
    ·obtain ⟨hm0, hle⟩ := h2 x hx
     exact ht _ _ _ hle (hs (m - 1) m (by omega) (by omega))
    ·obtain rfl := List.mem_singleton.1 hx
     exact hr _
   ·intro j hj
    by_cases h : j < m
    ·exact List.mem_append_left _ (h3 j h)
    ·obtain rfl : j = m := by omega
     exact List.mem_append_right _ (List.mem_singleton.2 rfl)
  ·rw [if_neg hk, List.append_nil]
   have hm0 : 0 < m := by
    rcases Nat.eq_zero_or_pos m with h | h
    ·subst h; exact absurd (Lib.keeps_lt_one d 0 (by omega)) hk
    ·exact h
   have he : d[m]! = d[m - 1]! := by
    unfold Lib.keeps at hk
    rw [decide_eq_true_iff] at hk
    exact Classical.byContradiction fun h => hk (.inr h)
   refine ⟨h1, fun x hx => ⟨by omega, ?_⟩, fun j hj => ?_⟩
   ·rw [Nat.add_sub_cancel, he]
    exact (h2 x hx).2
   ·by_cases h : j < m
    ·exact h3 j h
    ·obtain rfl : j = m := by omega
     rw [he]
     exact h3 (j - 1) (by omega)
theorem jv (ht : ∀ a b c, le a b → le b c → le a c) (hr : ∀ a, le a a) (ha : ∀ a b, le a b → le b a → a = b) {l : List α} (hs : l.Pairwise le) :
  (Lib.compact l).Pairwise (fun a b => le a b ∧ a ≠ b) ∧ (∀ x ∈ l, x ∈ Lib.compact l) := by
 have h := xq ht hr l.toArray (by
  intro i j hij hj
  rw [List.size_toArray] at hj
  rw [getElem!_pos l.toArray i (by simpa using (by omega : i < l.length)), getElem!_pos l.toArray j (by simpa using hj)]
  simp only [List.getElem_toArray]
  rcases Nat.lt_or_eq_of_le hij with h | h
  ·exact List.pairwise_iff_getElem.1 hs i j (by omega) hj h
  ·subst h; exact hr _) ha l.length (by simp)
 refine ⟨h.1, fun x hx => ?_⟩
 obtain ⟨i, hi, rfl⟩ := List.mem_iff_getElem.1 hx
 have := h.2.2 i hi
 rw [getElem!_pos l.toArray i (by simpa using hi)] at this
 simpa [Lib.compact] using this
theorem yt {l : List α} {x : α} (h : x ∈ Lib.compact l) : x ∈ l := by
 unfold Lib.compact Lib.compactUpTo at h
 obtain ⟨i, hi, rfl⟩ := List.mem_map.1 h
 have hlt := List.mem_range.1 (List.mem_filter.1 hi).1
 rw [getElem!_pos l.toArray i (by simpa using hlt)]
 simp
theorem kY {l : List α} (h : l.Pairwise (fun a b => a ≠ b)) : Lib.compact l = l := by
 refine Lib.compact_all l fun j hj => ?_
 rcases Nat.eq_zero_or_pos j with h0 | h0
 ·subst h0; exact Lib.keeps_lt_one _ 0 (by omega)
 ·refine Lib.keeps_pos ?_
  rw [getElem!_pos l.toArray j (by simpa using hj), getElem!_pos l.toArray (j - 1) (by simp; omega)]
  simp only [List.getElem_toArray]
  exact fun e => List.pairwise_iff_getElem.1 h (j - 1) j (by omega) hj (by omega) e.symm
end
theorem wH (ls : List ByteArray) (i : Nat) (h : i < ls.length) : (zF ls)[i]'(by simpa [zF] using h) = (ls[i]).toList := by simp [zF, ByteArray.toList_eq]
theorem xe (ls : List ByteArray) : zK (zF ls) = ls := by
 unfold zK zF
 rw [List.map_map]
 exact (List.map_congr_left (fun s _ => rfl)).trans (List.map_id _)
theorem xk (l : List (List UInt8)) : zF (zK l) = l := by
 unfold zK zF
 rw [List.map_map]
 exact (List.map_congr_left (fun s _ => rfl)).trans (List.map_id _)
theorem le_tr (a b c : List UInt8) (h1 : decide (a ≤ b) = true) (h2 : decide (b ≤ c) = true) : decide (a ≤ c) = true := by
 rw [decide_eq_true_iff] at *
 exact List.le_trans h1 h2
theorem le_tot (a b : List UInt8) : (decide (a ≤ b) || decide (b ≤ a)) = true := by
 rw [Bool.or_eq_true, decide_eq_true_iff, decide_eq_true_iff]
 exact List.le_total a b
theorem xJ (ls : List ByteArray) : xm ls [] = ls ↔ ∀ i (h : i + 1 < ls.length), (ls[i]'(by omega)).toList < (ls[i + 1]).toList := by
 constructor
 ·intro h i hi
  have h1 : zF ls = Lib.compact (vQ ls) := by
   have := congrArg zF h
   unfold xm at this
   rw [xk, List.append_nil] at this
   exact this.symm
  have hs : (vQ ls).Pairwise (fun a b => a ≤ b) := (List.pairwise_mergeSort le_tr le_tot (zF ls)).imp (fun h => by simpa using h)
  have h2 := (jv (le := fun a b : List UInt8 => a ≤ b) (fun _ _ _ h1 h2 => List.le_trans h1 h2) (fun _ => List.le_refl _) (fun _ _ h1 h2 => List.le_antisymm h1 h2) hs).1
  rw [← h1, List.pairwise_iff_getElem] at h2
  have h3 := h2 i (i + 1) (by simp [zF]; omega) (by simp [zF]; omega) (by omega)
  rw [wH ls i (by omega), wH ls (i + 1) hi] at h3
  exact Std.lt_of_le_of_ne h3.1 h3.2
 ·intro h
  have hp : (zF ls).Pairwise (fun a b => a < b) := by
   refine jY (R := fun a b : List UInt8 => a < b) (fun a b c h1 h2 => List.lt_trans h1 h2) fun i hi => ?_
   have hi' : i + 1 < ls.length := by simpa [zF] using hi
   rw [wH ls i (by omega), wH ls (i + 1) hi']
   exact h i hi'
  unfold xm vQ
  rw [List.append_nil, List.mergeSort_of_pairwise (hp.imp (fun h => by simpa using List.le_of_lt h)), kY (hp.imp (fun h e => by subst e; exact List.lt_irrefl _ h)), xe]
theorem indexF : ∀ (m k : Nat) (ls : List ByteArray) (i : Nat), i + m = ls.length → m < k → ls.length < 4611686018427387904 → ∃ r, qC.l0 k ls (ls.length : Int) (i : Int) = some r ∧ (0 ≤ r ↔ ∃ j, i ≤ j ∧ j < ls.length ∧ 200 < ((rdOf ByteArray.empty ls (j : Int)).size : Int))
 | 0, k + 1, ls, i, h, _, hl => by
  refine ⟨-1, ?_, ?_⟩
  ·rw [qC.l0, if_neg (by omega)]
  ·constructor
   ·intro h; omega
   ·rintro ⟨j, h1, h2, _⟩; omega
 | m + 1, k + 1, ls, i, h, hk, hl => by
  rw [qC.l0, if_pos (by omega), if_pos (by omega), if_pos (by omega)]
  unfold z8.f
  rw [Option.bind_some]
  by_cases hz : ((rdOf ByteArray.empty ls (i : Int)).size : Int) > 200
  ·rw [if_pos (decide_eq_true hz)]
   exact ⟨_, rfl, fun _ => ⟨i, Nat.le_refl _, by omega, hz⟩, fun _ => by omega⟩
  ·rw [if_neg (by simpa using hz), wy (by omega)]
   obtain ⟨r, h1, h2⟩ := indexF m k ls (i + 1) (by omega) (by omega) hl
   refine ⟨r, h1, h2.trans ⟨fun ⟨j, a, b, c⟩ => ⟨j, by omega, b, c⟩, fun ⟨j, a, b, c⟩ => ⟨j, ?_, b, c⟩⟩⟩
   rcases Nat.lt_or_eq_of_le a with h | h
   ·omega
   ·subst h; exact absurd c (by omega)
theorem equalF : ∀ (m k : Nat) (a b : List ByteArray) (i : Nat), i + m = a.length → a.length = b.length → m < k → a.length < 4611686018427387904 → ∃ r, qF.l0 k a b (a.length : Int) (i : Int) = some r ∧ (r = true ↔ ∀ j, i ≤ j → j < a.length → rdOf ByteArray.empty a (j : Int) = rdOf ByteArray.empty b (j : Int))
 | 0, k + 1, a, b, i, h, hab, _, hl => by
  refine ⟨true, ?_, ?_⟩
  ·rw [qF.l0, if_neg (by omega)]
  ·exact ⟨fun _ j h1 h2 => by omega, fun _ => rfl⟩
 | m + 1, k + 1, a, b, i, h, hab, hk, hl => by
  rw [qF.l0, if_pos (by omega), if_pos (by omega), if_pos (by omega), if_pos (by omega)]
  by_cases he : (rdOf ByteArray.empty a (i : Int)).toList = (rdOf ByteArray.empty b (i : Int)).toList
  ·rw [if_pos he, wy (by omega)]
   obtain ⟨r, h1, h2⟩ := equalF m k a b (i + 1) (by omega) hab (by omega) hl
   refine ⟨r, h1, h2.trans ⟨fun hh j a1 b1 => ?_, fun hh j a1 b1 => hh j (by omega) b1⟩⟩
   rcases Nat.lt_or_eq_of_le a1 with h3 | h3
   ·exact hh j (by omega) b1
   ·subst h3; exact toList_inj he
  ·rw [if_neg he]
   exact ⟨false, rfl, ⟨fun h => absurd h (by decide), fun hh => absurd (congrArg ByteArray.toList (hh i (Nat.le_refl _) (by omega))) he⟩⟩
theorem equal_at (a b : List ByteArray) (hl : a.length < 4611686018427387904) (k : Nat) (hk : a.length + 1 ≤ k) : qF.f k a b = some (decide (a = b)) := by
 unfold qF.f
 by_cases hab : a.length = b.length
 ·rw [if_pos (by omega)]
  obtain ⟨r, h1, h2⟩ := equalF a.length k a b 0 (by omega) hab (by omega) hl
  rw [show ((0 : Nat) : Int) = 0 from rfl] at h1
  rw [h1]
  congr 1
  rw [Bool.eq_iff_iff, h2, decide_eq_true_iff]
  constructor
  ·intro hh
   refine List.ext_getElem hab fun j h3 h4 => ?_
   have := hh j (Nat.zero_le _) h3
   rwa [wV h3, wV h4] at this
  ·intro e j _ _; rw [e]
 ·rw [if_neg (by omega)]
  congr 1
  symm
  rw [decide_eq_false_iff_not]
  intro e; exact hab (congrArg _ e)
theorem jc (ls : List ByteArray) : zG ls = true ↔ (∀ j, j < ls.length → ((rdOf ByteArray.empty ls (j : Int)).size : Int) ≤ 200) ∧ xm ls [] = ls := by
 rw [xJ]
 unfold zG
 rw [List.all_eq_true]
 constructor
 ·intro h
  refine ⟨fun j hj => ?_, fun i hi => ?_⟩
  ·have := h j (List.mem_range.2 hj)
   unfold wC at this
   rw [Bool.and_eq_true, decide_eq_true_iff] at this
   exact this.1
  ·have := h (i + 1) (List.mem_range.2 hi)
   unfold wC at this
   rw [Bool.and_eq_true, Bool.or_eq_true, decide_eq_true_iff, decide_eq_true_iff, bytesLess_eq, decide_eq_true_iff, show (((i + 1 : Nat) : Int) - 1) = (i : Int) by omega, wV hi, wV (by omega)] at this
   rcases this.2 with h1 | h1
   ·omega
   ·exact h1
 ·rintro ⟨h1, h2⟩ j hj
  have hj := List.mem_range.1 hj
  unfold wC
  rw [Bool.and_eq_true, Bool.or_eq_true, decide_eq_true_iff, decide_eq_true_iff, bytesLess_eq, decide_eq_true_iff]
  refine ⟨h1 j hj, ?_⟩
  rcases Nat.eq_zero_or_pos j with h | h
  ·exact .inl h
  ·refine .inr ?_
   obtain ⟨i, rfl⟩ : ∃ i, j = i + 1 := ⟨j - 1, by omega⟩
   rw [show (((i + 1 : Nat) : Int) - 1) = (i : Int) by omega, wV hj, wV (by omega)]
   exact h2 i hj
theorem named_at (ls : List ByteArray) (k : Nat) (hk : 140 ≤ k) : vF.f k ls = some (decide (ls.length ≤ 64) && zG ls) := by
 by_cases hl : ls.length ≤ 64
 ·obtain ⟨k, rfl⟩ : ∃ k', k = k' + 1 := ⟨k - 1, by omega⟩
  unfold vF.f qP.f qC.f
  rw [if_neg (by omega)]
  obtain ⟨r, h2, h3⟩ := indexF ls.length (k + 1) ls 0 (by omega) (by omega) (by omega)
  rw [show ((0 : Nat) : Int) = 0 from rfl] at h2
  rw [h2]
  simp only [Option.bind_some, vF.j0]
  rw [show decide (ls.length ≤ 64) = true from decide_eq_true hl, Bool.true_and]
  by_cases hr : 0 ≤ r
  ·rw [if_pos (decide_eq_true hr)]
   congr 1
   symm
   obtain ⟨j, _, hj, hz⟩ := h3.1 hr
   rw [Bool.eq_false_iff]
   intro hh
   have := ((jc ls).1 hh).1 j hj
   omega
  ·rw [if_neg (by simpa using hr)]
   unfold zT.f
   rw [if_pos (by simp; omega), Option.bind_some, equal_at ls _ (by omega) k (by omega), Option.bind_some]
   congr 1
   rw [Bool.eq_iff_iff, decide_eq_true_iff, jc]
   refine ⟨fun e => ⟨fun j hj => ?_, e.symm⟩, fun h => h.2.symm⟩
   exact Int.not_lt.1 fun hz => hr (h3.2 ⟨j, Nat.zero_le _, hj, hz⟩)
 ·obtain ⟨k, rfl⟩ : ∃ k', k = k' + 1 := ⟨k - 1, by omega⟩
  unfold vF.f
  rw [if_pos (by omega), vF.j0, if_pos rfl, show decide (ls.length ≤ 64) = false from decide_eq_false hl, Bool.false_and]
theorem jk (n : Int) (ls : List ByteArray) (es : List S55) (k : Nat) (hk : 140 ≤ k) : qK.f k n ls es = some (if mayF n ls es = true then 0 else 1) := by
 unfold qK.f mayF
 by_cases h1 : n < 1
 ·rw [if_pos h1, show decide (1 ≤ n) = false from decide_eq_false (by omega)]
  rfl
 rw [if_neg h1, show decide (1 ≤ n) = true from decide_eq_true (by omega)]
 by_cases h2 : n > 2048
 ·rw [if_pos h2, show decide (n ≤ 2048) = false from decide_eq_false (by omega)]
  rfl
 rw [if_neg h2, show decide (n ≤ 2048) = true from decide_eq_true (by omega), named_at ls k hk]
 by_cases h3 : ls.length ≤ 64
 ·rw [show decide (ls.length ≤ 64) = true from decide_eq_true h3]
  simp only [Option.bind_some, Bool.true_and]
  by_cases h4 : zG ls = true
  ·rw [if_pos h4, h4]
   by_cases h5 : (es.length : Int) > 1000000
   ·rw [if_pos h5, show decide (es.length ≤ 1000000) = false from decide_eq_false (by omega)]
    rfl
   rw [if_neg h5, show decide (es.length ≤ 1000000) = true from decide_eq_true (by omega)]
   simp only [Bool.true_and]
   split <;> rfl
  ·rw [if_neg h4, Bool.eq_false_iff.2 h4]
   simp
 ·rw [show decide (ls.length ≤ 64) = false from decide_eq_false h3]
  simp
theorem sortE_eq {l l' : List S55} (hp : l'.Perm l) (hs : l'.Pairwise fun a b => leE a b = true) : wh l = l' :=
 List.Perm.eq_of_pairwise (le := fun a b => leE a b = true) (fun a b _ _ h1 h2 => wB h1 h2) (List.pairwise_mergeSort (fun a b c => wJ a b c) (fun a b => wz a b) _) hs ((List.mergeSort_perm _ _).trans hp.symm)
theorem xV (ls : List ByteArray) (h1 : ∀ s ∈ ls, s.size ≤ 200) (h2 : (zF ls).Pairwise fun a b => a < b) : zG ls = true := by
 rw [jc]
 refine ⟨fun j hj => ?_, ?_⟩
 ·rw [wV hj]
  have := h1 _ (List.getElem_mem hj)
  omega
 ·rw [xJ]
  intro i hi
  have := List.pairwise_iff_getElem.1 h2 i (i + 1) (by simp [zF]; omega) (by simp [zF]; omega) (by omega)
  rwa [wH ls i (by omega), wH ls (i + 1) hi] at this
theorem labels_a : zG [(⟨#[97]⟩ : ByteArray)] = true := xV _ (by decide) (by decide)
end Go.Proofs.Ytcjbghmhdefdiaa.S
namespace Go.Proofs.Ytcjbghmhdefdiaa.S
open Go.RowKit Go.Proofs.YtcjbghmhdefdiaaW.PrintWords Go.Proofs.YtcjbghmhdefdiaaW.PrintLast Go.Proofs.YtcjbghmhdefdiaaW.PrintMore
attribute [local go_sem] vW vZ zi zk vL vK vY vV
set_option linter.unusedVariables false
set_option linter.unusedSimpArgs false
theorem eqA55 (d : Nat) (w : World) (x0 y0 : Int) (x1 y1 : Int) (x2 y2 : Int) :
  (Op.equalIn (d + 2) 55 (.agg #[.int .i64 x0, .int .i64 x1, .int .i64 x2]) (.agg #[.int .i64 y0, .int .i64 y1, .int .i64 y2])).run Try.prog w = .ok (x0 == y0 && (x1 == y1 && (x2 == y2))) w := by
 refine eqA_of Try.underlying55 (by kernel_rfl) ?_
 refine yK (by rfl) (by go_simp; rfl) (by go_simp; rfl) (by go_simp) ?_
 refine yK (by rfl) (by go_simp; rfl) (by go_simp; rfl) (by go_simp) ?_
 exact eqf_last (by rfl) (by go_simp; rfl) (by go_simp; rfl) (by go_simp)
end Go.Proofs.Ytcjbghmhdefdiaa.S
