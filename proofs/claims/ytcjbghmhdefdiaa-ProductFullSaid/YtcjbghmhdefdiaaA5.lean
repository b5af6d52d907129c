/- Part 5 of a proof that a law of the program answers true for every input. -/
import Derived.Test.YtcjbghmhdefdiaaA2
import Derived.Test.YtcjbghmhdefdiaaA3
import Derived.Test.YtcjbghmhdefdiaaA4
namespace Go.Proofs.Ytcjbghmhdefdiaa.S
abbrev tb5_0 : Array Bool := #[false, false, false, false, false, false, false, false, false, false, false, false, false]
abbrev tb5_1 : Array Bool := #[true, false, false, false, false, false, false, false, false, false, false, false, false]
abbrev tb5_2 : Array Bool := #[true, false, true, false, false, false, false, false, false, false, false, false, false]
abbrev tb5_3 : Array Bool := #[true, false, true, false, false, true, false, false, false, false, false, false, false]
abbrev tb5_4 : Array Bool := #[true, false, true, false, false, true, false, true, false, false, false, false, false]
abbrev tb5_5 : Array Bool := #[true, true, true, false, false, true, false, true, false, false, false, false, false]
abbrev tb5_6 : Array Bool := #[true, true, true, true, false, true, false, true, false, false, false, false, false]
abbrev tb5_7 : Array Bool := #[true, true, true, true, true, true, false, true, false, false, false, false, false]
abbrev tb5_8 : Array Bool := #[true, true, true, true, true, true, true, true, false, false, false, false, false]
abbrev tb5_9 : Array Bool := #[true, true, true, true, true, true, true, true, true, false, false, false, false]
abbrev tb5_10 : Array Bool := #[true, true, true, true, true, true, true, true, true, true, true, true, false]
abbrev tb5_11 : Array Bool := #[true, true, true, true, true, true, true, true, true, true, false, false, false]
abbrev tb5_12 : Array Bool := #[true, true, true, true, true, true, true, true, true, false, false, true, false]
abbrev tb5_13 : Array Bool := #[true, true, true, true, true, true, true, true, true, true, true, false, false]
abbrev tb5_14 : Array Bool := #[true, true, true, true, true, true, true, true, true, true, false, true, false]
abbrev tb5_15 : Array Bool := #[true, true, true, true, true, true, true, true, true, true, true, true, true]
end Go.Proofs.Ytcjbghmhdefdiaa.S
namespace Go.Proofs.Ytcjbghmhdefdiaa.S
open Go.RowKit Go.Proofs.YtcjbghmhdefdiaaW.PrintWords Go.Proofs.YtcjbghmhdefdiaaW.PrintLast Go.Proofs.YtcjbghmhdefdiaaW.PrintMore
attribute [local go_sem] max2_int min2_int max_two min_two max_three min_three max_four min_four   -- for this text's walks alone
set_option linter.unusedVariables false
set_option linter.unusedSimpArgs false
mutual
def product_Of.j0 : Nat → Bool → Int → List ByteArray → List (S55) → Int → List ByteArray → List (S55) → Option (Int × List ByteArray × (List (S55)) × Int)
 | 0, _, _, _, _, _, _, _ => none
 | k + 1, x22, x845000, x845001, x845002, x846000, x846001, x846002 => if x22 = true then (some (0, ([] : List ByteArray), ([] : List (S55)), 1)) else ((names_Union.f x845001 x846001).bind fun t849 => (if (wrap64 (x845000 * x846000)) > 2048 then (product_Of.j1 k true x845000 x845001 x845002 x846000 x846001 x846002 (wrap64 (x845000 * x846000)) t849) else (product_Of.j1 k (decide ((t849.length : Int) > 64)) x845000 x845001 x845002 x846000 x846001 x846002 (wrap64 (x845000 * x846000)) t849)))
def product_Of.j1 : Nat → Bool → Int → List ByteArray → List (S55) → Int → List ByteArray → List (S55) → Int → List ByteArray → Option (Int × List ByteArray × (List (S55)) × Int)
 | 0, _, _, _, _, _, _, _, _, _ => none
 | k + 1, x43, x845000, x845001, x845002, x846000, x846001, x846002, x853000, x853001 => if x43 = true then (some (0, ([] : List ByteArray), ([] : List (S55)), 8)) else (product_Of.l0 k x853001 (x853001.length : Int) 0 x845000 x845001 x845002 x846000 x846001 x846002 x853000 x853001 ([] : List (S55)))
def product_Of.l0 : Nat → List ByteArray → Int → Int → Int → List ByteArray → List (S55) → Int → List ByteArray → List (S55) → Int → List ByteArray → List (S55) → Option (Int × List ByteArray × (List (S55)) × Int)
 | 0, _, _, _, _, _, _, _, _, _, _, _, _ => none
 | k + 1, x46, x47, x48, x845000, x845001, x845002, x846000, x846001, x846002, x853000, x853001, x853002 => if x48 < x47 then (if 0 ≤ x48 then (if x48 < (x46.length : Int) then ((product_both.f k x845000 x845001 x845002 x846000 x846001 x846002 (rdOf ByteArray.empty x46 x48)).bind fun bt862 => (if (wrap64 ((x853002.length : Int) + (wrap64 ((bt862.1.length : Int) * (bt862.2.length : Int))))) > 1000000 then (some (0, ([] : List ByteArray), ([] : List (S55)), 8)) else (product_Of.l1 k x48 bt862.2 x46 x47 x48 bt862.1 (bt862.1.length : Int) 0 x845000 x845001 x845002 x846000 x846001 x846002 x853000 x853001 x853002))) else (none)) else (none)) else ((lts_Sort.f k x853000 x853001 x853002).bind fun bt853 => (some (bt853.1, bt853.2.1, bt853.2.2.1, bt853.2.2.2)))
def product_Of.l1 : Nat → Int → List (S55) → List ByteArray → Int → Int → List (S55) → Int → Int → Int → List ByteArray → List (S55) → Int → List ByteArray → List (S55) → Int → List ByteArray → List (S55) → Option (Int × List ByteArray × (List (S55)) × Int)
 | 0, _, _, _, _, _, _, _, _, _, _, _, _, _, _, _, _, _ => none
 | k + 1, x7, x10, x46, x47, x48, x71, x72, x73, x845000, x845001, x845002, x846000, x846001, x846002, x853000, x853001, x853002 => if x73 < x72 then (if 0 ≤ x73 then (if x73 < (x71.length : Int) then (product_Of.l2 k x7 x10 x46 x47 x48 x71 x72 x73 x10 (x10.length : Int) 0 x845000 x845001 x845002 x846000 x846001 x846002 x853000 x853001 x853002 ((rd_T55 x71 x73).f0) ((rd_T55 x71 x73).f1) ((rd_T55 x71 x73).f2)) else (none)) else (none)) else (product_Of.l0 k x46 x47 (wrap64 (x48 + 1)) x845000 x845001 x845002 x846000 x846001 x846002 x853000 x853001 x853002)
def product_Of.l2 : Nat → Int → List (S55) → List ByteArray → Int → Int → List (S55) → Int → Int → List (S55) → Int → Int → Int → List ByteArray → List (S55) → Int → List ByteArray → List (S55) → Int → List ByteArray → List (S55) → Int → Int → Int → Option (Int × List ByteArray × (List (S55)) × Int)
 | 0, _, _, _, _, _, _, _, _, _, _, _, _, _, _, _, _, _, _, _, _, _, _, _ => none
 | k + 1, x7, x10, x46, x47, x48, x71, x72, x73, x77, x78, x79, x845000, x845001, x845002, x846000, x846001, x846002, x853000, x853001, x853002, x870000, x870001, x870002 => if x79 < x78 then (if 0 ≤ x79 then (if x79 < (x77.length : Int) then (if x853002.length < 5864062014805 then (product_Of.l2 k x7 x10 x46 x47 x48 x71 x72 x73 x77 x78 (wrap64 (x79 + 1)) x845000 x845001 x845002 x846000 x846001 x846002 x853000 x853001 (x853002 ++ [(⟨wrap64 ((wrap64 (x870000 * x846000)) + ((rd_T55 x77 x79).f0)), x7, wrap64 ((wrap64 (x870002 * x846000)) + ((rd_T55 x77 x79).f2))⟩ : S55)]) x870000 x870001 x870002) else (none)) else (none)) else (none)) else (product_Of.l1 k x7 x10 x46 x47 x48 x71 x72 (wrap64 (x73 + 1)) x845000 x845001 x845002 x846000 x846001 x846002 x853000 x853001 x853002)
end
def product_Of.f (k : Nat) (a0_0 : Int) (l0_1 : List ByteArray) (l0_2 : List (S55)) (a1_0 : Int) (l1_1 : List ByteArray) (l1_2 : List (S55)) : Option (Int × List ByteArray × (List (S55)) × Int) := (lts_Check.f k a0_0 l0_1 l0_2).bind fun t847 => (if t847 = 0 then ((lts_Check.f k a1_0 l1_1 l1_2).bind fun t848 => (product_Of.j0 k (t848 != 0) a0_0 l0_1 l0_2 a1_0 l1_1 l1_2)) else (product_Of.j0 k true a0_0 l0_1 l0_2 a1_0 l1_1 l1_2))
theorem product_Of.mono_l : ∀ k, (∀ y0 y1 y2 y3 y4 y5 y6, LeO (product_Of.j0 k y0 y1 y2 y3 y4 y5 y6) (product_Of.j0 (k + 1) y0 y1 y2 y3 y4 y5 y6)) ∧ (∀ y0 y1 y2 y3 y4 y5 y6 y7 y8, LeO (product_Of.j1 k y0 y1 y2 y3 y4 y5 y6 y7 y8) (product_Of.j1 (k + 1) y0 y1 y2 y3 y4 y5 y6 y7 y8)) ∧ (∀ y0 y1 y2 y3 y4 y5 y6 y7 y8 y9 y10 y11, LeO (product_Of.l0 k y0 y1 y2 y3 y4 y5 y6 y7 y8 y9 y10 y11) (product_Of.l0 (k + 1) y0 y1 y2 y3 y4 y5 y6 y7 y8 y9 y10 y11)) ∧ (∀ y0 y1 y2 y3 y4 y5 y6 y7 y8 y9 y10 y11 y12 y13 y14 y15 y16, LeO (product_Of.l1 k y0 y1 y2 y3 y4 y5 y6 y7 y8 y9 y10 y11 y12 y13 y14 y15 y16) (product_Of.l1 (k + 1) y0 y1 y2 y3 y4 y5 y6 y7 y8 y9 y10 y11 y12 y13 y14 y15 y16)) ∧ (∀ y0 y1 y2 y3 y4 y5 y6 y7 y8 y9 y10 y11 y12 y13 y14 y15 y16 y17 y18 y19 y20 y21 y22, LeO (product_Of.l2 k y0 y1 y2 y3 y4 y5 y6 y7 y8 y9 y10 y11 y12 y13 y14 y15 y16 y17 y18 y19 y20 y21 y22) (product_Of.l2 (k + 1) y0 y1 y2 y3 y4 y5 y6 y7 y8 y9 y10 y11 y12 y13 y14 y15 y16 y17 y18 y19 y20 y21 y22))
 | 0 => ⟨fun _ _ _ _ _ _ _ r h => by simp [product_Of.j0] at h, fun _ _ _ _ _ _ _ _ _ r h => by simp [product_Of.j1] at h, fun _ _ _ _ _ _ _ _ _ _ _ _ r h => by simp [product_Of.l0] at h, fun _ _ _ _ _ _ _ _ _ _ _ _ _ _ _ _ _ r h => by simp [product_Of.l1] at h, fun _ _ _ _ _ _ _ _ _ _ _ _ _ _ _ _ _ _ _ _ _ _ _ r h => by simp [product_Of.l2] at h⟩
 | k + 1 => by
  obtain ⟨ih0, ih1, ih2, ih3, ih4⟩ := product_Of.mono_l k
  refine ⟨?_, ?_, ?_, ?_, ?_⟩
  ·intro y0 y1 y2 y3 y4 y5 y6
   unfold product_Of.j0
   repeat' first
   | (with_reducible exact ih0 _ _ _ _ _ _ _)
   | (with_reducible exact ih1 _ _ _ _ _ _ _ _ _)
   | (with_reducible exact ih2 _ _ _ _ _ _ _ _ _ _ _ _)
   | (with_reducible exact ih3 _ _ _ _ _ _ _ _ _ _ _ _ _ _ _ _ _)
   | (with_reducible exact ih4 _ _ _ _ _ _ _ _ _ _ _ _ _ _ _ _ _ _ _ _ _ _ _)
   | (with_reducible exact lts_Check.mono _ _ _ _)
   | (with_reducible exact lts_Sort.mono _ _ _ _)
   | (with_reducible exact product_both.mono _ _ _ _ _ _ _ _)
   | (with_reducible exact LeO.refl _)
   | (with_reducible exact LeO.none _)
   | (with_reducible refine LeO.ite ?_ ?_)
   | (with_reducible refine LeO.bind ?_ (fun _ => ?_))
   | exact ih0 _ _ _ _ _ _ _
   | exact ih1 _ _ _ _ _ _ _ _ _
   | exact ih2 _ _ _ _ _ _ _ _ _ _ _ _
   | exact ih3 _ _ _ _ _ _ _ _ _ _ _ _ _ _ _ _ _
   | exact ih4 _ _ _ _ _ _ _ _ _ _ _ _ _ _ _ _ _ _ _ _ _ _ _
   | exact lts_Check.mono _ _ _ _
   | exact lts_Sort.mono _ _ _ _
   | exact product_both.mono _ _ _ _ _ _ _ _
   | exact LeO.none _
   | refine LeO.ite ?_ ?_
   | refine LeO.bind ?_ (fun _ => ?_)
  ·intro y0 y1 y2 y3 y4 y5 y6 y7 y8
   unfold product_Of.j1
   repeat' first
   | (with_reducible exact ih0 _ _ _ _ _ _ _)
   | (with_reducible exact ih1 _ _ _ _ _ _ _ _ _)
   | (with_reducible exact ih2 _ _ _ _ _ _ _ _ _ _ _ _)
   | (with_reducible exact ih3 _ _ _ _ _ _ _ _ _ _ _ _ _ _ _ _ _)
   | (with_reducible exact ih4 _ _ _ _ _ _ _ _ _ _ _ _ _ _ _ _ _ _ _ _ _ _ _)
   | (with_reducible exact lts_Check.mono _ _ _ _)
   | (with_reducible exact lts_Sort.mono _ _ _ _)
   | (with_reducible exact product_both.mono _ _ _ _ _ _ _ _)
   | (with_reducible exact LeO.refl _)
   | (with_reducible exact LeO.none _)
   | (with_reducible refine LeO.ite ?_ ?_)
   | (with_reducible refine LeO.bind ?_ (fun _ => ?_))
   | exact ih0 _ _ _ _ _ _ _
   | exact ih1 _ _ _ _ _ _ _ _ _
   | exact ih2 _ _ _ _ _ _ _ _ _ _ _ _
   | exact ih3 _ _ _ _ _ _ _ _ _ _ _ _ _ _ _ _ _
   | exact ih4 _ _ _ _ _ _ _ _ _ _ _ _ _ _ _ _ _ _ _ _ _ _ _
   | exact lts_Check.mono _ _ _ _
   | exact lts_Sort.mono _ _ _ _
   | exact product_both.mono _ _ _ _ _ _ _ _
   | exact LeO.none _
   | refine LeO.ite ?_ ?_
   | refine LeO.bind ?_ (fun _ => ?_)
  ·intro y0 y1 y2 y3 y4 y5 y6 y7 y8 y9 y10 y11
   unfold product_Of.l0
   repeat' first
   | (with_reducible exact ih0 _ _ _ _ _ _ _)
   | (with_reducible exact ih1 _ _ _ _ _ _ _ _ _)
   | (with_reducible exact ih2 _ _ _ _ _ _ _ _ _ _ _ _)
   | (with_reducible exact ih3 _ _ _ _ _ _ _ _ _ _ _ _ _ _ _ _ _)
   | (with_reducible exact ih4 _ _ _ _ _ _ _ _ _ _ _ _ _ _ _ _ _ _ _ _ _ _ _)
   | (with_reducible exact lts_Check.mono _ _ _ _)
   | (with_reducible exact lts_Sort.mono _ _ _ _)
   | (with_reducible exact product_both.mono _ _ _ _ _ _ _ _)
   | (with_reducible exact LeO.refl _)
   | (with_reducible exact LeO.none _)
   | (with_reducible refine LeO.ite ?_ ?_)
   | (with_reducible refine LeO.bind ?_ (fun _ => ?_))
   | exact ih0 _ _ _ _ _ _ _
   | exact ih1 _ _ _ _ _ _ _ _ _
   | exact ih2 _ _ _ _ _ _ _ _ _ _ _ _
   | exact ih3 _ _ _ _ _ _ _ _ _ _ _ _ _ _ _ _ _
   | exact ih4 _ _ _ _ _ _ _ _ _ _ _ _ _ _ _ _ _ _ _ _ _ _ _
   | exact lts_Check.mono _ _ _ _
   | exact lts_Sort.mono _ _ _ _
   | exact product_both.mono _ _ _ _ _ _ _ _
   | exact LeO.none _
   | refine LeO.ite ?_ ?_
   | refine LeO.bind ?_ (fun _ => ?_)
  ·intro y0 y1 y2 y3 y4 y5 y6 y7 y8 y9 y10 y11 y12 y13 y14 y15 y16
   unfold product_Of.l1
   repeat' first
   | (with_reducible exact ih0 _ _ _ _ _ _ _)
   | (with_reducible exact ih1 _ _ _ _ _ _ _ _ _)
   | (with_reducible exact ih2 _ _ _ _ _ _ _ _ _ _ _ _)
   | (with_reducible exact ih3 _ _ _ _ _ _ _ _ _ _ _ _ _ _ _ _ _)
   | (with_reducible exact ih4 _ _ _ _ _ _ _ _ _ _ _ _ _ _ _ _ _ _ _ _ _ _ _)
   | (with_reducible exact lts_Check.mono _ _ _ _)
   | (with_reducible exact lts_Sort.mono _ _ _ _)
   | (with_reducible exact product_both.mono _ _ _ _ _ _ _ _)
   | (with_reducible exact LeO.refl _)
   | (with_reducible exact LeO.none _)
   | (with_reducible refine LeO.ite ?_ ?_)
   | (with_reducible refine LeO.bind ?_ (fun _ => ?_))
   | exact ih0 _ _ _ _ _ _ _
   | exact ih1 _ _ _ _ _ _ _ _ _
   | exact ih2 _ _ _ _ _ _ _ _ _ _ _ _
   | exact ih3 _ _ _ _ _ _ _ _ _ _ _ _ _ _ _ _ _
   | exact ih4 _ _ _ _ _ _ _ _ _ _ _ _ _ _ _ _ _ _ _ _ _ _ _
   | exact lts_Check.mono _ _ _ _
   | exact lts_Sort.mono _ _ _ _
   | exact product_both.mono _ _ _ _ _ _ _ _
   | exact LeO.none _
   | refine LeO.ite ?_ ?_
   | refine LeO.bind ?_ (fun _ => ?_)
  ·intro y0 y1 y2 y3 y4 y5 y6 y7 y8 y9 y10 y11 y12 y13 y14 y15 y16 y17 y18 y19 y20 y21 y22
   unfold product_Of.l2
   repeat' first
   | (with_reducible exact ih0 _ _ _ _ _ _ _)
   | (with_reducible exact ih1 _ _ _ _ _ _ _ _ _)
   | (with_reducible exact ih2 _ _ _ _ _ _ _ _ _ _ _ _)
   | (with_reducible exact ih3 _ _ _ _ _ _ _ _ _ _ _ _ _ _ _ _ _)
   | (with_reducible exact ih4 _ _ _ _ _ _ _ _ _ _ _ _ _ _ _ _ _ _ _ _ _ _ _)
   | (with_reducible exact lts_Check.mono _ _ _ _)
   | (with_reducible exact lts_Sort.mono _ _ _ _)
   | (with_reducible exact product_both.mono _ _ _ _ _ _ _ _)
   | (with_reducible exact LeO.refl _)
   | (with_reducible exact LeO.none _)
   | (with_reducible refine LeO.ite ?_ ?_)
   | (with_reducible refine LeO.bind ?_ (fun _ => ?_))
   | exact ih0 _ _ _ _ _ _ _
   | exact ih1 _ _ _ _ _ _ _ _ _
   | exact ih2 _ _ _ _ _ _ _ _ _ _ _ _
   | exact ih3 _ _ _ _ _ _ _ _ _ _ _ _ _ _ _ _ _
   | exact ih4 _ _ _ _ _ _ _ _ _ _ _ _ _ _ _ _ _ _ _ _ _ _ _
   | exact lts_Check.mono _ _ _ _
   | exact lts_Sort.mono _ _ _ _
   | exact product_both.mono _ _ _ _ _ _ _ _
   | exact LeO.none _
   | refine LeO.ite ?_ ?_
   | refine LeO.bind ?_ (fun _ => ?_)
theorem product_Of.mono : ∀ a0 a1 a2 a3 a4 a5 k, LeO (product_Of.f k a0 a1 a2 a3 a4 a5) (product_Of.f (k + 1) a0 a1 a2 a3 a4 a5) := by
 intro a0 a1 a2 a3 a4 a5 k
 obtain ⟨ih0, ih1, ih2, ih3, ih4⟩ := product_Of.mono_l k
 unfold product_Of.f
 repeat' first
   | (with_reducible exact ih0 _ _ _ _ _ _ _)
   | (with_reducible exact ih1 _ _ _ _ _ _ _ _ _)
   | (with_reducible exact ih2 _ _ _ _ _ _ _ _ _ _ _ _)
   | (with_reducible exact ih3 _ _ _ _ _ _ _ _ _ _ _ _ _ _ _ _ _)
   | (with_reducible exact ih4 _ _ _ _ _ _ _ _ _ _ _ _ _ _ _ _ _ _ _ _ _ _ _)
   | (with_reducible exact lts_Check.mono _ _ _ _)
   | (with_reducible exact lts_Sort.mono _ _ _ _)
   | (with_reducible exact product_both.mono _ _ _ _ _ _ _ _)
   | (with_reducible exact LeO.refl _)
   | (with_reducible exact LeO.none _)
   | (with_reducible refine LeO.ite ?_ ?_)
   | (with_reducible refine LeO.bind ?_ (fun _ => ?_))
   | exact ih0 _ _ _ _ _ _ _
   | exact ih1 _ _ _ _ _ _ _ _ _
   | exact ih2 _ _ _ _ _ _ _ _ _ _ _ _
   | exact ih3 _ _ _ _ _ _ _ _ _ _ _ _ _ _ _ _ _
   | exact ih4 _ _ _ _ _ _ _ _ _ _ _ _ _ _ _ _ _ _ _ _ _ _ _
   | exact lts_Check.mono _ _ _ _
   | exact lts_Sort.mono _ _ _ _
   | exact product_both.mono _ _ _ _ _ _ _ _
   | exact LeO.none _
   | refine LeO.ite ?_ ?_
   | refine LeO.bind ?_ (fun _ => ?_)
def product_Of.T3 : Bool × List (List Nat × List Nat) := (true, [([], []), ([0], [0]), ([], []), ([2], [2]), ([1, 3], [1, 3]), ([], []), ([5], [5]), ([], []), ([7], [7]), ([6, 8], [6, 8]), ([4, 9], [4, 9]), ([], []), ([11, 10, 9, 0, 1, 2, 3, 4, 5, 6, 7, 8, 9, 10, 11], [10, 11])])
def product_Of.B3 : List Nat := [0, 1, 0, 4, 15, 0, 32, 0, 128, 480, 1023, 0, 4095]
theorem product_Of.tab3 : rtab .any (opsOf Try.f60 3) = product_Of.T3 := by kernel_rfl
theorem product_Of.bits3 : waitsOk product_Of.T3.2 product_Of.B3 = true := by kernel_rfl
set_option maxHeartbeats 8000000 in
set_option maxRecDepth 100000 in
theorem product_Of.calls (k : Nat) (a0_0 : Int) (A0_1 : Option Addr) (c0_1 : Nat) (l0_1 : List ByteArray) (A0_2 : Option Addr) (c0_2 : Nat) (l0_2 : List (S55)) (a1_0 : Int) (A1_1 : Option Addr) (c1_1 : Nat) (l1_1 : List ByteArray) (A1_2 : Option Addr) (c1_2 : Nat) (l1_2 : List (S55)) (r1 : Int) (r2 : List ByteArray) (r3 : List (S55)) (r4 : Int) (w : World) (hr0_1 : Kd.C Kd.string w A0_1 l0_1.length l0_1) (hc0_1 : l0_1.length ≤ c0_1) (hr0_2 : Kd.C k55 w A0_2 l0_2.length l0_2) (hc0_2 : l0_2.length ≤ c0_2) (hr1_1 : Kd.C Kd.string w A1_1 l1_1.length l1_1) (hc1_1 : l1_1.length ≤ c1_1) (hr1_2 : Kd.C k55 w A1_2 l1_2.length l1_2) (hc1_2 : l1_2.length ≤ c1_2) (h : product_Of.f k a0_0 l0_1 l0_2 a1_0 l1_1 l1_2 = some (r1, r2, r3, r4)) :
  Calls Try.prog 60 #[.agg #[.int .i64 a0_0, .slice A0_1 l0_1.length c0_1, .slice A0_2 l0_2.length c0_2], .agg #[.int .i64 a1_0, .slice A1_1 l1_1.length c1_1, .slice A1_2 l1_2.length c1_2]] w fun e w' => ∃ v1_ v2_ : Value, e = .returned (.tuple #[.agg #[.int .i64 r1, v1_, v2_], .int .i64 r4]) ∧ Kd.R Kd.string 9 w' w.heap.size (fun _ => True) v1_ r2 ∧ Kd.R k55 55 w' w.heap.size (fun _ => True) v2_ r3 ∧ Below w.heap.size w w' := by
 have hu25 := Try.underlying25
 have hu55 := Try.underlying55
 have HR0_1 := Aside0.mk hr0_1
 have HC0_1 := Aside0.mk hc0_1
 clear hr0_1 hc0_1
 have HR0_2 := Aside0.mk hr0_2
 have HC0_2 := Aside0.mk hc0_2
 clear hr0_2 hc0_2
 have HR1_1 := Aside0.mk hr1_1
 have HC1_1 := Aside0.mk hc1_1
 clear hr1_1 hc1_1
 have HR1_2 := Aside0.mk hr1_2
 have HC1_2 := Aside0.mk hc1_2
 clear hr1_2 hc1_2
 have HB := Aside0.mk (Below.refl w.heap.size w)
 have H : ((lts_Check.f k a0_0 l0_1 l0_2).bind fun t847 => (if t847 = 0 then ((lts_Check.f k a1_0 l1_1 l1_2).bind fun t848 => (product_Of.j0 k (t848 != 0) a0_0 l0_1 l0_2 a1_0 l1_1 l1_2)) else (product_Of.j0 k true a0_0 l0_1 l0_2 a1_0 l1_1 l1_2))) = some (r1, r2, r3, r4) := h
 clear h
 have HC3 := Aside0.mk H
 clear H
 go_enter Try.func60, Try.ntmps60
 go_upto_region 1 with (first | ((with_reducible refine gate_dst (N := 2) rfl ?_); (try (refine gate_guard (by rfl) ?_; dsimp only)); refine box_event ?hg (N := 2) ?hd (cs := #[.int .i64 a0_0, .slice A0_1 l0_1.length c0_1, .slice A0_2 l0_2.length c0_2]) (t := 25) ?hr ?_; (case hd => rfl); (case hg => rfl); (case hr => first | (go_simp; done) | (go_simp; rfl)); intro gb844 hg w4 hbox hb; have n0_ := Aside0.mk (below_step (by repeat (first | (with_reducible first | exact HB.out | apply below_alloc | apply pw_below_drewN | apply below_drew1) | exact HB.out)) hb); have n1_ := Aside0.mk (hbox); have n2_ := Aside0.mk ((by rw [hg]; exact (below_size (by repeat (first | (with_reducible first | exact HB.out | apply below_alloc | apply pw_below_drewN | apply below_drew1) | exact HB.out))) : w.heap.size ≤ gb844)); have n3_ := Aside0.mk ((by rw [hg]; exact (below_size (by repeat (first | (with_reducible first | exact HB.out | apply below_alloc | apply pw_below_drewN | apply below_drew1) | exact HB.out))) : w.heap.size ≤ gb844)); clear HB; have HB := n0_; have BK844 := n1_; have GW844 := n2_; have GE844 := n3_; clear n0_ n1_ n2_ n3_; clear hb hbox hg) | ((with_reducible refine gate_dst (N := 3) rfl ?_); (try (refine gate_guard (by rfl) ?_; dsimp only)); refine box_event ?hg (N := 3) ?hd (cs := #[.int .i64 a1_0, .slice A1_1 l1_1.length c1_1, .slice A1_2 l1_2.length c1_2]) (t := 25) ?hr ?_; (case hd => rfl); (case hg => rfl); (case hr => first | (go_simp; done) | (go_simp; rfl)); intro gb845 hg w5 hbox hb; have n0_ := Aside0.mk (blk_below (g := gb844) (o := .cells #[.int .i64 a0_0, .slice A0_1 l0_1.length c0_1, .slice A0_2 l0_2.length c0_2] 25 (0, 0)) (by (with_reducible repeat (first | refine blk_drewN ?_ _ | refine blk_drew ?_ | refine blk_alloc ?_ _)); exact BK844.out) hb); have n1_ := Aside0.mk (below_step (by repeat (first | (with_reducible first | exact HB.out | apply below_alloc | apply pw_below_drewN | apply below_drew1 | refine below_set ?_ GE844.out) | exact HB.out)) hb); have n2_ := Aside0.mk (hbox); have n3_ := Aside0.mk ((by rw [hg]; exact (below_size (by repeat (first | (with_reducible first | exact HB.out | apply below_alloc | apply pw_below_drewN | apply below_drew1 | refine below_set ?_ GE844.out) | exact HB.out))) : w.heap.size ≤ gb845)); have n4_ := Aside0.mk ((by rw [hg]; exact (below_size (by repeat (first | (with_reducible first | exact HB.out | apply below_alloc | apply pw_below_drewN | apply below_drew1 | refine below_set ?_ GE844.out) | exact HB.out))) : w.heap.size ≤ gb845)); have n5_ := Aside0.mk ((by rw [hg]; exact Nat.ne_of_lt (blk_lt (g := gb844) (o := .cells #[.int .i64 a0_0, .slice A0_1 l0_1.length c0_1, .slice A0_2 l0_2.length c0_2] 25 (0, 0)) (by (with_reducible repeat (first | refine blk_drewN ?_ _ | refine blk_drew ?_ | refine blk_alloc ?_ _)); exact BK844.out)) : gb844 ≠ gb845)); have n6_ := Aside0.mk ((by rw [hg]; exact Nat.ne_of_gt (blk_lt (g := gb844) (o := .cells #[.int .i64 a0_0, .slice A0_1 l0_1.length c0_1, .slice A0_2 l0_2.length c0_2] 25 (0, 0)) (by (with_reducible repeat (first | refine blk_drewN ?_ _ | refine blk_drew ?_ | refine blk_alloc ?_ _)); exact BK844.out)) : gb845 ≠ gb844)); clear BK844; clear HB; have BK844 := n0_; have HB := n1_; have BK845 := n2_; have GW845 := n3_; have GE845 := n4_; have NB844_845 := n5_; have NB845_844 := n6_; clear n0_ n1_ n2_ n3_ n4_ n5_ n6_; clear hb hbox hg) | ((with_reducible refine gate_dst (N := 4) rfl ?_); (try (refine gate_guard (by rfl) ?_; dsimp only)); refine box_event ?hg (N := 4) ?hd (cs := #[.int .i64 0, .slice none 0 0, .slice none 0 0]) (t := 25) ?hr ?_; (case hd => rfl); (case hg => rfl); (case hr => first | (go_simp; done) | (go_simp; rfl)); intro gb846 hg w6 hbox hb; have n0_ := Aside0.mk (blk_below (g := gb844) (o := .cells #[.int .i64 a0_0, .slice A0_1 l0_1.length c0_1, .slice A0_2 l0_2.length c0_2] 25 (0, 0)) (by (with_reducible repeat (first | refine blk_drewN ?_ _ | refine blk_drew ?_ | refine blk_alloc ?_ _)); exact BK844.out) hb); have n1_ := Aside0.mk (blk_below (g := gb845) (o := .cells #[.int .i64 a1_0, .slice A1_1 l1_1.length c1_1, .slice A1_2 l1_2.length c1_2] 25 (0, 0)) (by (with_reducible repeat (first | refine blk_drewN ?_ _ | refine blk_drew ?_ | refine blk_alloc ?_ _)); exact BK845.out) hb); have n2_ := Aside0.mk (below_step (by repeat (first | (with_reducible first | exact HB.out | apply below_alloc | apply pw_below_drewN | apply below_drew1 | refine below_set ?_ GE844.out | refine below_set ?_ GE845.out) | exact HB.out)) hb); have n3_ := Aside0.mk (hbox); have n4_ := Aside0.mk ((by rw [hg]; exact (below_size (by repeat (first | (with_reducible first | exact HB.out | apply below_alloc | apply pw_below_drewN | apply below_drew1 | refine below_set ?_ GE844.out | refine below_set ?_ GE845.out) | exact HB.out))) : w.heap.size ≤ gb846)); have n5_ := Aside0.mk ((by rw [hg]; exact (below_size (by repeat (first | (with_reducible first | exact HB.out | apply below_alloc | apply pw_below_drewN | apply below_drew1 | refine below_set ?_ GE844.out | refine below_set ?_ GE845.out) | exact HB.out))) : w.heap.size ≤ gb846)); have n6_ := Aside0.mk ((by rw [hg]; exact Nat.ne_of_lt (blk_lt (g := gb844) (o := .cells #[.int .i64 a0_0, .slice A0_1 l0_1.length c0_1, .slice A0_2 l0_2.length c0_2] 25 (0, 0)) (by (with_reducible repeat (first | refine blk_drewN ?_ _ | refine blk_drew ?_ | refine blk_alloc ?_ _)); exact BK844.out)) : gb844 ≠ gb846)); have n7_ := Aside0.mk ((by rw [hg]; exact Nat.ne_of_gt (blk_lt (g := gb844) (o := .cells #[.int .i64 a0_0, .slice A0_1 l0_1.length c0_1, .slice A0_2 l0_2.length c0_2] 25 (0, 0)) (by (with_reducible repeat (first | refine blk_drewN ?_ _ | refine blk_drew ?_ | refine blk_alloc ?_ _)); exact BK844.out)) : gb846 ≠ gb844)); have n8_ := Aside0.mk ((by rw [hg]; exact Nat.ne_of_lt (blk_lt (g := gb845) (o := .cells #[.int .i64 a1_0, .slice A1_1 l1_1.length c1_1, .slice A1_2 l1_2.length c1_2] 25 (0, 0)) (by (with_reducible repeat (first | refine blk_drewN ?_ _ | refine blk_drew ?_ | refine blk_alloc ?_ _)); exact BK845.out)) : gb845 ≠ gb846)); have n9_ := Aside0.mk ((by rw [hg]; exact Nat.ne_of_gt (blk_lt (g := gb845) (o := .cells #[.int .i64 a1_0, .slice A1_1 l1_1.length c1_1, .slice A1_2 l1_2.length c1_2] 25 (0, 0)) (by (with_reducible repeat (first | refine blk_drewN ?_ _ | refine blk_drew ?_ | refine blk_alloc ?_ _)); exact BK845.out)) : gb846 ≠ gb845)); clear BK844; clear BK845; clear HB; have BK844 := n0_; have BK845 := n1_; have HB := n2_; have BK846 := n3_; have GW846 := n4_; have GE846 := n5_; have NB844_846 := n6_; have NB846_844 := n7_; have NB845_846 := n8_; have NB846_845 := n9_; clear n0_ n1_ n2_ n3_ n4_ n5_ n6_ n7_ n8_ n9_; clear hb hbox hg))
 (try simp only [Act.put, List.setIfInBounds_toArray, List.set_cons_zero, List.set_cons_succ])
 go_cut [22] (fun v22 wc => ∃ (kq : Nat) (x22_2 : Bool), v22 = .bool x22_2 ∧ Aside0 (product_Of.j0 kq x22_2 a0_0 l0_1 l0_2 a1_0 l1_1 l1_2 = some (r1, r2, r3, r4)) ∧ Aside0 (kq ≤ k) ∧ Aside0 (wc.heap[gb844]? = some (.cells #[.int .i64 a0_0, (.slice A0_1 l0_1.length c0_1), (.slice A0_2 l0_2.length c0_2)] 25 (0, 0))) ∧ Aside0 (wc.heap[gb845]? = some (.cells #[.int .i64 a1_0, (.slice A1_1 l1_1.length c1_1), (.slice A1_2 l1_2.length c1_2)] 25 (0, 0))) ∧ Aside0 (wc.heap[gb846]? = some (.cells #[.int .i64 0, (.slice none 0 0), (.slice none 0 0)] 25 (0, 0))) ∧ Aside0 (Below w.heap.size w wc))
 case first =>
  have H := HC3.out
  clear HC3
  replace H := Option.bind_eq_some_iff.mp H
  obtain ⟨t847, A70, H⟩ := H
  replace H : (if t847 = 0 then ((lts_Check.f k a1_0 l1_1 l1_2).bind fun t848 => (product_Of.j0 k (t848 != 0) a0_0 l0_1 l0_2 a1_0 l1_1 l1_2)) else (product_Of.j0 k true a0_0 l0_1 l0_2 a1_0 l1_1 l1_2)) = some (r1, r2, r3, r4) := H
  have A7 := Aside0.mk A70
  clear A70
  by_cases c8 : t847 = 0
  ·rw [if_pos c8] at H
   have c8b0 : (t847 == 0) = true := beq_iff_eq.mpr c8
   have c8b1 : (t847 != 0) = false := bne_eq_false_iff_eq.mpr c8
   clear c8
   (first | rw [c8b0] | (simp only [i64_w, i32_w]; rw [c8b0]) | skip)
   replace H := Option.bind_eq_some_iff.mp H
   obtain ⟨t848, A90, H⟩ := H
   replace H : (product_Of.j0 k (t848 != 0) a0_0 l0_1 l0_2 a1_0 l1_1 l1_2) = some (r1, r2, r3, r4) := H
   have A9 := Aside0.mk A90
   clear A90
   have H' := Aside0.mk H
   clear H
   have hnb10 := NB844_845.out
   have hnc10 := NB845_844.out
   have hnb11 := NB844_846.out
   have hnc11 := NB846_844.out
   have hcz12_0 : w6.cell? ⟨gb844, 0, none⟩ = some (.int .i64 a0_0) := (blk_cell BK844.out 0).trans rfl
   have hcz12_1 : w6.cell? ⟨gb844, 1, none⟩ = some (.slice A0_1 l0_1.length c0_1) := (blk_cell BK844.out 1).trans rfl
   have hcz12_2 : w6.cell? ⟨gb844, 2, none⟩ = some (.slice A0_2 l0_2.length c0_2) := (blk_cell BK844.out 2).trans rfl
   have hfz12_0 := blk_frozen BK844.out 0
   have hfz12_1 := blk_frozen BK844.out 1
   have hfz12_2 := blk_frozen BK844.out 2
   go_wp2_with (first | ((with_reducible refine gate_callee (f := 67) rfl ?_); refine goesL_ (some 16) rfl rfl Try.func67 (by kernel_rfl) rfl #[.agg #[.int .i64 a0_0, .slice A0_1 l0_1.length c0_1, .slice A0_2 l0_2.length c0_2]] rfl (by (try simp only [List.map_toArray, List.map_cons, List.map_nil]); first | done | rfl | (simp only [List.length_drop, List.length_take]; rfl)) ?_; (with_reducible refine (lts_Check.calls k a0_0 _ _ l0_1 _ _ l0_2 t847 _ ?side1 ?side2 ?side3 ?side4 A7.out).mono ?_); (case side1 => repeat (first | exact (Kd.C_below HR0_1.out HB.out) | (with_reducible refine Kd.C_alloc ?_ _) | (with_reducible refine Kd.C_drewN ?_ _) | (with_reducible refine Kd.C_drew ?_))); (case side2 => exact HC0_1.out); (case side3 => repeat (first | exact (Kd.C_below HR0_2.out HB.out) | (with_reducible refine Kd.C_alloc ?_ _) | (with_reducible refine Kd.C_drewN ?_ _) | (with_reducible refine Kd.C_drew ?_))); (case side4 => exact HC0_2.out); rintro e w13 ⟨rfl, hb⟩; refine ⟨_, rfl, ?_⟩; have n0_ := Aside0.mk (blk_below (g := gb844) (o := .cells #[.int .i64 a0_0, .slice A0_1 l0_1.length c0_1, .slice A0_2 l0_2.length c0_2] 25 (0, 0)) (by (with_reducible repeat (first | refine blk_drewN ?_ _ | refine blk_drew ?_ | refine blk_alloc ?_ _)); exact BK844.out) hb); have n1_ := Aside0.mk (blk_below (g := gb845) (o := .cells #[.int .i64 a1_0, .slice A1_1 l1_1.length c1_1, .slice A1_2 l1_2.length c1_2] 25 (0, 0)) (by (with_reducible repeat (first | refine blk_drewN ?_ _ | refine blk_drew ?_ | refine blk_alloc ?_ _)); exact BK845.out) hb); have n2_ := Aside0.mk (blk_below (g := gb846) (o := .cells #[.int .i64 0, .slice none 0 0, .slice none 0 0] 25 (0, 0)) (by (with_reducible repeat (first | refine blk_drewN ?_ _ | refine blk_drew ?_ | refine blk_alloc ?_ _)); exact BK846.out) hb); have n3_ := Aside0.mk (below_step (by repeat (first | (with_reducible first | exact HB.out | apply below_alloc | apply pw_below_drewN | apply below_drew1 | refine below_set ?_ GE844.out | refine below_set ?_ GE845.out | refine below_set ?_ GE846.out) | exact HB.out)) hb); clear BK844; clear BK845; clear BK846; clear HB; have BK844 := n0_; have BK845 := n1_; have BK846 := n2_; have HB := n3_; clear n0_ n1_ n2_ n3_; (try clear hb); (try clear hb2); (try clear hk); (try clear hi); have hnb14 := NB845_846.out; have hnc14 := NB846_845.out; have hcz15_0 : w13.cell? ⟨gb845, 0, none⟩ = some (.int .i64 a1_0) := (blk_cell BK845.out 0).trans rfl; have hcz15_1 : w13.cell? ⟨gb845, 1, none⟩ = some (.slice A1_1 l1_1.length c1_1) := (blk_cell BK845.out 1).trans rfl; have hcz15_2 : w13.cell? ⟨gb845, 2, none⟩ = some (.slice A1_2 l1_2.length c1_2) := (blk_cell BK845.out 2).trans rfl; have hfz15_0 := blk_frozen BK845.out 0; have hfz15_1 := blk_frozen BK845.out 1; have hfz15_2 := blk_frozen BK845.out 2) | (go_at_call 67; (with_reducible refine (lts_Check.calls k a1_0 _ _ l1_1 _ _ l1_2 t848 _ ?side1 ?side2 ?side3 ?side4 A9.out).mono ?_); (case side1 => repeat (first | exact (Kd.C_below HR1_1.out HB.out) | (with_reducible refine Kd.C_alloc ?_ _) | (with_reducible refine Kd.C_drewN ?_ _) | (with_reducible refine Kd.C_drew ?_))); (case side2 => exact HC1_1.out); (case side3 => repeat (first | exact (Kd.C_below HR1_2.out HB.out) | (with_reducible refine Kd.C_alloc ?_ _) | (with_reducible refine Kd.C_drewN ?_ _) | (with_reducible refine Kd.C_drew ?_))); (case side4 => exact HC1_2.out); rintro e w16 ⟨rfl, hb⟩; have n0_ := Aside0.mk (blk_below (g := gb844) (o := .cells #[.int .i64 a0_0, .slice A0_1 l0_1.length c0_1, .slice A0_2 l0_2.length c0_2] 25 (0, 0)) (by (with_reducible repeat (first | refine blk_drewN ?_ _ | refine blk_drew ?_ | refine blk_alloc ?_ _)); exact BK844.out) hb); have n1_ := Aside0.mk (blk_below (g := gb845) (o := .cells #[.int .i64 a1_0, .slice A1_1 l1_1.length c1_1, .slice A1_2 l1_2.length c1_2] 25 (0, 0)) (by (with_reducible repeat (first | refine blk_drewN ?_ _ | refine blk_drew ?_ | refine blk_alloc ?_ _)); exact BK845.out) hb); have n2_ := Aside0.mk (blk_below (g := gb846) (o := .cells #[.int .i64 0, .slice none 0 0, .slice none 0 0] 25 (0, 0)) (by (with_reducible repeat (first | refine blk_drewN ?_ _ | refine blk_drew ?_ | refine blk_alloc ?_ _)); exact BK846.out) hb); have n3_ := Aside0.mk (below_step (by repeat (first | (with_reducible first | exact HB.out | apply below_alloc | apply pw_below_drewN | apply below_drew1 | refine below_set ?_ GE844.out | refine below_set ?_ GE845.out | refine below_set ?_ GE846.out) | exact HB.out)) hb); clear BK844; clear BK845; clear BK846; clear HB; have BK844 := n0_; have BK845 := n1_; have BK846 := n2_; have HB := n3_; clear n0_ n1_ n2_ n3_; (try clear hb); (try clear hb2); (try clear hk); (try clear hi)))
   go_meet
   case rel => exact ⟨_, ((t848 != 0)), (by first | rfl | (simp; done) | (simp [*]; done)), H', ⟨by first | omega | exact Nat.le_refl _⟩, ⟨by (with_reducible repeat (first | refine blk_drewN ?_ _ | refine blk_drew ?_ | refine blk_alloc ?_ _)); exact BK844.out⟩, ⟨by (with_reducible repeat (first | refine blk_drewN ?_ _ | refine blk_drew ?_ | refine blk_alloc ?_ _)); exact BK845.out⟩, ⟨by (with_reducible repeat (first | refine blk_drewN ?_ _ | refine blk_drew ?_ | refine blk_alloc ?_ _)); exact BK846.out⟩, ⟨by repeat (first | (with_reducible first | exact HB.out | apply below_alloc | apply pw_below_drewN | apply below_drew1 | refine below_set ?_ GE844.out | refine below_set ?_ GE845.out | refine below_set ?_ GE846.out) | exact HB.out)⟩⟩
  ·rw [if_neg c8] at H
   have c8b0 : (t847 == 0) = false := beq_eq_false_iff_ne.mpr c8
   have c8b1 : (t847 != 0) = true := bne_iff_ne.mpr c8
   (first | rw [c8b0] | (simp only [i64_w, i32_w]; rw [c8b0]) | skip)
   have H' := Aside0.mk H
   clear H
   have hnb17 := NB844_845.out
   have hnc17 := NB845_844.out
   have hnb18 := NB844_846.out
   have hnc18 := NB846_844.out
   have hcz19_0 : w6.cell? ⟨gb844, 0, none⟩ = some (.int .i64 a0_0) := (blk_cell BK844.out 0).trans rfl
   have hcz19_1 : w6.cell? ⟨gb844, 1, none⟩ = some (.slice A0_1 l0_1.length c0_1) := (blk_cell BK844.out 1).trans rfl
   have hcz19_2 : w6.cell? ⟨gb844, 2, none⟩ = some (.slice A0_2 l0_2.length c0_2) := (blk_cell BK844.out 2).trans rfl
   have hfz19_0 := blk_frozen BK844.out 0
   have hfz19_1 := blk_frozen BK844.out 1
   have hfz19_2 := blk_frozen BK844.out 2
   go_wp2_with (first | ((with_reducible refine gate_callee (f := 67) rfl ?_); refine goesL_ (some 16) rfl rfl Try.func67 (by kernel_rfl) rfl #[.agg #[.int .i64 a0_0, .slice A0_1 l0_1.length c0_1, .slice A0_2 l0_2.length c0_2]] rfl (by (try simp only [List.map_toArray, List.map_cons, List.map_nil]); first | done | rfl | (simp only [List.length_drop, List.length_take]; rfl)) ?_; (with_reducible refine (lts_Check.calls k a0_0 _ _ l0_1 _ _ l0_2 t847 _ ?side1 ?side2 ?side3 ?side4 A7.out).mono ?_); (case side1 => repeat (first | exact (Kd.C_below HR0_1.out HB.out) | (with_reducible refine Kd.C_alloc ?_ _) | (with_reducible refine Kd.C_drewN ?_ _) | (with_reducible refine Kd.C_drew ?_))); (case side2 => exact HC0_1.out); (case side3 => repeat (first | exact (Kd.C_below HR0_2.out HB.out) | (with_reducible refine Kd.C_alloc ?_ _) | (with_reducible refine Kd.C_drewN ?_ _) | (with_reducible refine Kd.C_drew ?_))); (case side4 => exact HC0_2.out); rintro e w20 ⟨rfl, hb⟩; refine ⟨_, rfl, ?_⟩; have n0_ := Aside0.mk (blk_below (g := gb844) (o := .cells #[.int .i64 a0_0, .slice A0_1 l0_1.length c0_1, .slice A0_2 l0_2.length c0_2] 25 (0, 0)) (by (with_reducible repeat (first | refine blk_drewN ?_ _ | refine blk_drew ?_ | refine blk_alloc ?_ _)); exact BK844.out) hb); have n1_ := Aside0.mk (blk_below (g := gb845) (o := .cells #[.int .i64 a1_0, .slice A1_1 l1_1.length c1_1, .slice A1_2 l1_2.length c1_2] 25 (0, 0)) (by (with_reducible repeat (first | refine blk_drewN ?_ _ | refine blk_drew ?_ | refine blk_alloc ?_ _)); exact BK845.out) hb); have n2_ := Aside0.mk (blk_below (g := gb846) (o := .cells #[.int .i64 0, .slice none 0 0, .slice none 0 0] 25 (0, 0)) (by (with_reducible repeat (first | refine blk_drewN ?_ _ | refine blk_drew ?_ | refine blk_alloc ?_ _)); exact BK846.out) hb); have n3_ := Aside0.mk (below_step (by repeat (first | (with_reducible first | exact HB.out | apply below_alloc | apply pw_below_drewN | apply below_drew1 | refine below_set ?_ GE844.out | refine below_set ?_ GE845.out | refine below_set ?_ GE846.out) | exact HB.out)) hb); clear BK844; clear BK845; clear BK846; clear HB; have BK844 := n0_; have BK845 := n1_; have BK846 := n2_; have HB := n3_; clear n0_ n1_ n2_ n3_; (try clear hb); (try clear hb2); (try clear hk); (try clear hi)))
   go_meet
   case rel => exact ⟨_, (true), (by first | rfl | (simp; done) | (simp [*]; done)), H', ⟨by first | omega | exact Nat.le_refl _⟩, ⟨by (with_reducible repeat (first | refine blk_drewN ?_ _ | refine blk_drew ?_ | refine blk_alloc ?_ _)); exact BK844.out⟩, ⟨by (with_reducible repeat (first | refine blk_drewN ?_ _ | refine blk_drew ?_ | refine blk_alloc ?_ _)); exact BK845.out⟩, ⟨by (with_reducible repeat (first | refine blk_drewN ?_ _ | refine blk_drew ?_ | refine blk_alloc ?_ _)); exact BK846.out⟩, ⟨by repeat (first | (with_reducible first | exact HB.out | apply below_alloc | apply pw_below_drewN | apply below_drew1 | refine below_set ?_ GE844.out | refine below_set ?_ GE845.out | refine below_set ?_ GE846.out) | exact HB.out)⟩⟩
 case rest =>
  clear HC3
  try clear c1
  try clear p2
  try clear c6
  try clear c8
  try clear c8b0
  try clear c8b1
  try clear c10
  try clear c11
  try clear c14
  try clear c17
  try clear c18
  try clear hcz12_0
  try clear hcz12_1
  try clear hcz12_2
  try clear hcz15_0
  try clear hcz15_1
  try clear hcz15_2
  try clear hcz19_0
  try clear hcz19_1
  try clear hcz19_2
  try clear hfz12_0
  try clear hfz12_1
  try clear hfz12_2
  try clear hfz15_0
  try clear hfz15_1
  try clear hfz15_2
  try clear hfz19_0
  try clear hfz19_1
  try clear hfz19_2
  obtain ⟨kq, x22_2, rfl, HA, HJ2, BK844, BK845, BK846, HB⟩ := hcut
  cases kq with
  | zero => exact absurd HA.out (by simp [product_Of.j0])
  | succ kj2 =>
   have H := HA.out
   clear HA
   simp only [product_Of.j0] at H
   by_cases c21 : x22_2 = true
   ·subst c21
    have H1 : (some (0, ([] : List ByteArray), ([] : List (S55)), 1)) = some (r1, r2, r3, r4) := by rw [if_pos rfl] at H; exact H
    clear H
    have H := H1
    clear H1
    simp only [Option.some.injEq, Prod.mk.injEq] at H
    obtain ⟨rfl, rfl, rfl, rfl⟩ := H
    have hnb22 := NB846_844.out
    have hnc22 := NB844_846.out
    have hnb23 := NB846_845.out
    have hnc23 := NB845_846.out
    have hcz24_0 : wc.cell? ⟨gb846, 0, none⟩ = some (.int .i64 0) := (blk_cell BK846.out 0).trans rfl
    have hcz24_1 : wc.cell? ⟨gb846, 1, none⟩ = some (.slice none 0 0) := (blk_cell BK846.out 1).trans rfl
    have hcz24_2 : wc.cell? ⟨gb846, 2, none⟩ = some (.slice none 0 0) := (blk_cell BK846.out 2).trans rfl
    have hfz24_0 := blk_frozen BK846.out 0
    have hfz24_1 := blk_frozen BK846.out 1
    have hfz24_2 := blk_frozen BK846.out 2
    go_wp2
    refine bodyPost_ret (results_ct rfl _ _ gb846 25 #[.int .i64 0, .slice none 0 0, .slice none 0 0] (0, 0) _ rfl (by (with_reducible repeat (first | refine blk_drewN ?_ _ | refine blk_drew ?_ | refine blk_alloc ?_ _)); refine blk_put (cs := #[.int .i64 0, .slice none 0 0, .slice none 0 0]) ?_ 2 _ rfl; (with_reducible repeat (first | refine blk_drewN ?_ _ | refine blk_drew ?_ | refine blk_alloc ?_ _)); refine blk_put (cs := #[.int .i64 0, .slice none 0 0, .slice none 0 0]) ?_ 1 _ rfl; (with_reducible repeat (first | refine blk_drewN ?_ _ | refine blk_drew ?_ | refine blk_alloc ?_ _)); refine blk_put (cs := #[.int .i64 0, .slice none 0 0, .slice none 0 0]) ?_ 0 _ rfl; (with_reducible repeat (first | refine blk_drewN ?_ _ | refine blk_drew ?_ | refine blk_alloc ?_ _)); exact BK846.out) Try.underlying25 rfl (by kernel_rfl)) rfl ?_
    exact ⟨_, _, by first | rfl | (simp [errW_none, errW_some] <;> rfl) | (simp [*, errW_none, errW_some] <;> rfl), by first | exact Kd.R_nil _ _ _ _ _ | exact Kd.N_nil _ _ _ _ _ | exact Kd.V_nil _ _ _ _ _ | exact Kd.Q_nil _ _ _ _ _ | exact Kd.S_nil _ _ _ _ _, by first | exact Kd.R_nil _ _ _ _ _ | exact Kd.N_nil _ _ _ _ _ | exact Kd.V_nil _ _ _ _ _ | exact Kd.Q_nil _ _ _ _ _ | exact Kd.S_nil _ _ _ _ _, by repeat (first | (with_reducible first | exact HB.out | apply below_alloc | apply pw_below_drewN | apply below_drew1 | refine below_set ?_ GE844.out | refine below_set ?_ GE845.out | refine below_set ?_ GE846.out) | exact HB.out)⟩
   ·replace c21 := Bool.eq_false_iff.mpr c21
    subst c21
    have H1 : ((names_Union.f l0_1 l1_1).bind fun t849 => (if (wrap64 (a0_0 * a1_0)) > 2048 then (product_Of.j1 kj2 true a0_0 l0_1 l0_2 a1_0 l1_1 l1_2 (wrap64 (a0_0 * a1_0)) t849) else (product_Of.j1 kj2 (decide ((t849.length : Int) > 64)) a0_0 l0_1 l0_2 a1_0 l1_1 l1_2 (wrap64 (a0_0 * a1_0)) t849))) = some (r1, r2, r3, r4) := by rw [if_neg (show ¬ (false = true) by decide)] at H; exact H
    clear H
    have H := H1
    clear H1
    replace H := Option.bind_eq_some_iff.mp H
    obtain ⟨t849, A250, H⟩ := H
    replace H : (if (wrap64 (a0_0 * a1_0)) > 2048 then (product_Of.j1 kj2 true a0_0 l0_1 l0_2 a1_0 l1_1 l1_2 (wrap64 (a0_0 * a1_0)) t849) else (product_Of.j1 kj2 (decide ((t849.length : Int) > 64)) a0_0 l0_1 l0_2 a1_0 l1_1 l1_2 (wrap64 (a0_0 * a1_0)) t849)) = some (r1, r2, r3, r4) := H
    have A25 := Aside0.mk A250
    clear A250
    have HC26 := Aside0.mk H
    clear H
    try go_wp2
    have n0_ := Aside0.mk (blk_drew BK844.out)
    have n1_ := Aside0.mk (blk_drew BK845.out)
    have n2_ := Aside0.mk (blk_drew BK846.out)
    have n3_ := Aside0.mk (below_drew1 HB.out)
    clear BK844
    clear BK845
    clear BK846
    clear HB
    have BK844 := n0_
    have BK845 := n1_
    have BK846 := n2_
    have HB := n3_
    clear n0_ n1_ n2_ n3_
    refine start_ (n := 13) (S := fun w' => w'.cell? ⟨gb844, 0, none⟩ = some (.int .i64 a0_0) ∧ w'.cell? ⟨gb844, 1, none⟩ = some (.slice A0_1 l0_1.length c0_1) ∧ w'.cell? ⟨gb844, 2, none⟩ = some (.slice A0_2 l0_2.length c0_2) ∧ w'.cell? ⟨gb845, 0, none⟩ = some (.int .i64 a1_0) ∧ w'.cell? ⟨gb845, 1, none⟩ = some (.slice A1_1 l1_1.length c1_1) ∧ w'.cell? ⟨gb845, 2, none⟩ = some (.slice A1_2 l1_2.length c1_2)) (ds := []) tb5_0 (by kernel_rfl) rfl rfl ⟨(blk_cell BK844.out 0).trans rfl, (blk_cell BK844.out 1).trans rfl, (blk_cell BK844.out 2).trans rfl, (blk_cell BK845.out 0).trans rfl, (blk_cell BK845.out 1).trans rfl, (blk_cell BK845.out 2).trans rfl⟩ (fun hHeld => ?_); refine with_tabW product_Of.tab3 product_Of.bits3 (fun HT_ HW_ => ?_)
    generalize wc.drew = w27 at BK844 BK845 BK846 HB hHeld ⊢
    refine pure_ (i := 0) (N := some 24) (v := ?_) (a' := ?_) tb5_1 rfl rfl (any_of HT_.out (by kernel_rfl)) (fun _ _ _ h => h) (Or.inl ⟨by rfl, ?_⟩) ?_ ?_
    rotate_left
    ·intro w'
     go_simp
     with_reducible rfl
    rotate_left
    ·simp only [Act.put, List.setIfInBounds_toArray, List.set_cons_zero, List.set_cons_succ, i64_w, i32_w]
     rfl
    refine pure_ (i := 2) (N := some 26) (v := ?_) (a' := ?_) tb5_2 rfl rfl (any_of HT_.out (by kernel_rfl)) (fun _ _ _ h => h) (Or.inl ⟨by rfl, ?_⟩) ?_ ?_
    rotate_left
    ·intro w'
     go_simp
     with_reducible rfl
    rotate_left
    ·simp only [Act.put, List.setIfInBounds_toArray, List.set_cons_zero, List.set_cons_succ, i64_w, i32_w]
     rfl
    refine pure_ (i := 5) (N := some 29) (v := ?_) (a' := ?_) tb5_3 rfl rfl (any_of HT_.out (by kernel_rfl)) (fun _ _ _ h => h) (Or.inl ⟨by rfl, ?_⟩) ?_ ?_
    rotate_left
    ·intro w'
     go_simp
     with_reducible rfl
    rotate_left
    ·simp only [Act.put, List.setIfInBounds_toArray, List.set_cons_zero, List.set_cons_succ, i64_w, i32_w]
     rfl
    refine pure_ (i := 7) (N := some 31) (v := ?_) (a' := ?_) tb5_4 rfl rfl (any_of HT_.out (by kernel_rfl)) (fun _ _ _ h => h) (Or.inl ⟨by rfl, ?_⟩) ?_ ?_
    rotate_left
    ·intro w'
     go_simp
     with_reducible rfl
    rotate_left
    ·simp only [Act.put, List.setIfInBounds_toArray, List.set_cons_zero, List.set_cons_succ, i64_w, i32_w]
     rfl
    refine take_ (i := 1) (N := some 25) (v := ?_) (a' := ?_) tb5_5 rfl rfl (take_ofW HT_.out HW_.out (by kernel_rfl)) (fun _ _ _ h => h) (Or.inl ⟨by rfl, ?_⟩) hHeld ?_ ?_
    rotate_left
    ·rintro w' ⟨s0, s1, s2, s3, s4, s5⟩
     go_simp
     with_reducible rfl
    rotate_left
    ·simp only [Act.put, List.setIfInBounds_toArray, List.set_cons_zero, List.set_cons_succ, i64_w, i32_w]
     rfl
    refine take_ (i := 3) (N := some 27) (v := ?_) (a' := ?_) tb5_6 rfl rfl (take_ofW HT_.out HW_.out (by kernel_rfl)) (fun _ _ _ h => h) (Or.inl ⟨by rfl, ?_⟩) hHeld ?_ ?_
    rotate_left
    ·rintro w' ⟨s0, s1, s2, s3, s4, s5⟩
     go_simp
     with_reducible rfl
    rotate_left
    ·simp only [Act.put, List.setIfInBounds_toArray, List.set_cons_zero, List.set_cons_succ, i64_w, i32_w]
     rfl
    refine pure_ (i := 4) (N := some 28) (v := ?_) (a' := ?_) tb5_7 rfl rfl (any_of HT_.out (by kernel_rfl)) (fun _ _ _ h => h) (Or.inl ⟨by rfl, ?_⟩) ?_ ?_
    rotate_left
    ·intro w'
     go_simp
     with_reducible rfl
    rotate_left
    ·simp only [Act.put, List.setIfInBounds_toArray, List.set_cons_zero, List.set_cons_succ, i64_w, i32_w]
     rfl
    refine take_ (i := 6) (N := some 30) (v := ?_) (a' := ?_) tb5_8 rfl rfl (take_ofW HT_.out HW_.out (by kernel_rfl)) (fun _ _ _ h => h) (Or.inl ⟨by rfl, ?_⟩) hHeld ?_ ?_
    rotate_left
    ·rintro w' ⟨s0, s1, s2, s3, s4, s5⟩
     go_simp
     with_reducible rfl
    rotate_left
    ·simp only [Act.put, List.setIfInBounds_toArray, List.set_cons_zero, List.set_cons_succ, i64_w, i32_w]
     rfl
    refine take_ (i := 8) (N := some 32) (v := ?_) (a' := ?_) tb5_9 rfl rfl (take_ofW HT_.out HW_.out (by kernel_rfl)) (fun _ _ _ h => h) (Or.inl ⟨by rfl, ?_⟩) hHeld ?_ ?_
    rotate_left
    ·rintro w' ⟨s0, s1, s2, s3, s4, s5⟩
     go_simp
     with_reducible rfl
    rotate_left
    ·simp only [Act.put, List.setIfInBounds_toArray, List.set_cons_zero, List.set_cons_succ, i64_w, i32_w]
     rfl
    refine join_ (σ := Value × Nat) 1 tb5_10 (fun s_ => [(33, s_.1), (6, .pointer (some ⟨s_.2, 0, none⟩)), (34, .agg #[.int .i64 (wrap64 (a0_0 * a1_0)), s_.1, .slice none 0 0])]) (fun s_ w' => (w'.cell? ⟨gb844, 0, none⟩ = some (.int .i64 a0_0) ∧ w'.cell? ⟨gb844, 1, none⟩ = some (.slice A0_1 l0_1.length c0_1) ∧ w'.cell? ⟨gb844, 2, none⟩ = some (.slice A0_2 l0_2.length c0_2) ∧ w'.cell? ⟨gb845, 0, none⟩ = some (.int .i64 a1_0) ∧ w'.cell? ⟨gb845, 1, none⟩ = some (.slice A1_1 l1_1.length c1_1) ∧ w'.cell? ⟨gb845, 2, none⟩ = some (.slice A1_2 l1_2.length c1_2)) ∧ (Kd.R Kd.string 9 w' w.heap.size (fun _ => True) s_.1 t849) ∧ (w'.heap[gb844]? = some (.cells #[.int .i64 a0_0, .slice A0_1 l0_1.length c0_1, .slice A0_2 l0_2.length c0_2] 25 (0, 0))) ∧ (w'.heap[gb845]? = some (.cells #[.int .i64 a1_0, .slice A1_1 l1_1.length c1_1, .slice A1_2 l1_2.length c1_2] 25 (0, 0))) ∧ (w'.heap[gb846]? = some (.cells #[.int .i64 0, .slice none 0 0, .slice none 0 0] 25 (0, 0))) ∧ (w'.heap[s_.2]? = some (.cells #[.int .i64 0, .slice none 0 0, .slice none 0 0] 25 (0, 0))) ∧ (w.heap.size ≤ s_.2) ∧ (w.heap.size ≤ s_.2) ∧ (gb844 ≠ s_.2) ∧ (s_.2 ≠ gb844) ∧ (gb845 ≠ s_.2) ∧ (s_.2 ≠ gb845) ∧ (gb846 ≠ s_.2) ∧ (s_.2 ≠ gb846) ∧ (Below w.heap.size w w')) ?_ ?_
    rotate_left
    ·intro hCont
     refine two_ (i := 9) (j := 11) (Ni := some 33) (Nj := some 6) tb5_11 tb5_12 rfl rfl rfl rfl (two_of HT_.out (by kernel_rfl)) (by decide) (by decide) (fun K hK => ?_) (fun K hK => ?_)
     ·skip
      refine goes_ Try.func121 (by kernel_rfl) rfl #[.slice A0_1 l0_1.length c0_1, .slice A1_1 l1_1.length c1_1] (by rfl) rfl rfl (by (try simp only [List.map_toArray, List.map_cons, List.map_nil]); first | done | rfl | (simp only [List.length_drop, List.length_take]; rfl)) ?_
      with_reducible refine (names_Union.calls _ _ l0_1 _ _ l1_1 t849 _ ?side1 ?side2 ?side3 ?side4 A25.out).mono ?_
      (case side1 => repeat (first | exact (Kd.C_below HR0_1.out HB.out) | (with_reducible refine Kd.C_alloc ?_ _) | (with_reducible refine Kd.C_drewN ?_ _) | (with_reducible refine Kd.C_drew ?_)))
      (case side2 => exact HC0_1.out)
      (case side3 => repeat (first | exact (Kd.C_below HR1_1.out HB.out) | (with_reducible refine Kd.C_alloc ?_ _) | (with_reducible refine Kd.C_drewN ?_ _) | (with_reducible refine Kd.C_drew ?_)))
      (case side4 => exact HC1_1.out)
      rintro e w28 ⟨v850, rfl, ho0, hb⟩
      refine ⟨_, rfl, ?_⟩
      have n0_ := Aside0.mk (Kd.R_lower ho0 (below_size (by repeat (first | (with_reducible first | exact HB.out | apply below_alloc | apply pw_below_drewN | apply below_drew1 | refine below_set ?_ GE844.out | refine below_set ?_ GE845.out | refine below_set ?_ GE846.out) | exact HB.out))))
      have n1_ := Aside0.mk (blk_below (g := gb844) (o := .cells #[.int .i64 a0_0, .slice A0_1 l0_1.length c0_1, .slice A0_2 l0_2.length c0_2] 25 (0, 0)) (by (with_reducible repeat (first | refine blk_drewN ?_ _ | refine blk_drew ?_ | refine blk_alloc ?_ _)); exact BK844.out) hb)
      have n2_ := Aside0.mk (blk_below (g := gb845) (o := .cells #[.int .i64 a1_0, .slice A1_1 l1_1.length c1_1, .slice A1_2 l1_2.length c1_2] 25 (0, 0)) (by (with_reducible repeat (first | refine blk_drewN ?_ _ | refine blk_drew ?_ | refine blk_alloc ?_ _)); exact BK845.out) hb)
      have n3_ := Aside0.mk (blk_below (g := gb846) (o := .cells #[.int .i64 0, .slice none 0 0, .slice none 0 0] 25 (0, 0)) (by (with_reducible repeat (first | refine blk_drewN ?_ _ | refine blk_drew ?_ | refine blk_alloc ?_ _)); exact BK846.out) hb)
      have n4_ := Aside0.mk (below_step (by repeat (first | (with_reducible first | exact HB.out | apply below_alloc | apply pw_below_drewN | apply below_drew1 | refine below_set ?_ GE844.out | refine below_set ?_ GE845.out | refine below_set ?_ GE846.out) | exact HB.out)) hb)
      clear BK844
      clear BK845
      clear BK846
      clear HB
      have HO851 := n0_
      have BK844 := n1_
      have BK845 := n2_
      have BK846 := n3_
      have HB := n4_
      clear n0_ n1_ n2_ n3_ n4_
      (try clear hb)
      (try clear hb2)
      (try clear hk)
      (try clear hi)
      (try clear ho0)
      obtain ⟨Ao29, co29, eo29⟩ := Kd.R_slice HO851.out
      (first | subst eo29 | (injection eo29 with f1_ f2_ f3_; have f4_ := f1_.symm; have f5_ := f3_.symm; clear f1_ f2_ f3_; subst f4_; subst f5_))
      refine hK.out _ _ ⟨(blk_cell BK844.out 0).trans rfl, (blk_cell BK844.out 1).trans rfl, (blk_cell BK844.out 2).trans rfl, (blk_cell BK845.out 0).trans rfl, (blk_cell BK845.out 1).trans rfl, (blk_cell BK845.out 2).trans rfl⟩ (fun hHeld => ?_)
      clear hK K
      refine norm_ (a' := ?_) ?_ ?_
      rotate_left
      ·show Act.put _ (some 33) _ = _
       simp only [Act.put, List.setIfInBounds_toArray, List.set_cons_zero, List.set_cons_succ, i64_w, i32_w]
       rfl
      refine pure_ (i := 10) (N := some 34) (v := ?_) (a' := ?_) tb5_13 rfl rfl (any_of HT_.out (by kernel_rfl)) (fun _ _ _ h => h) (Or.inl ⟨by rfl, ?_⟩) ?_ ?_
      rotate_left
      ·intro w'
       go_simp
       with_reducible rfl
      rotate_left
      ·simp only [Act.put, List.setIfInBounds_toArray, List.set_cons_zero, List.set_cons_succ, i64_w, i32_w]
       rfl
      refine one_ (i := 11) (N := some 6) tb5_10 rfl rfl (one_of HT_.out (by kernel_rfl)) (by decide) (fun K hK => ?_)
      refine box_step ?hg (N := 6) ?hd (cs := #[.int .i64 0, .slice none 0 0, .slice none 0 0]) (t := 25) ?hr ?_; (case hd => rfl); (case hg => rfl); (case hr => first | (go_simp; done) | (go_simp; rfl))
      intro gb852 hg w30 hbox hb
      have n0_ := Aside0.mk (Kd.R_below (by (with_reducible repeat (first | apply Kd.R_alloc | apply Kd.R_drewN | apply Kd.R_drew)); exact HO851.out) hb)
      have n1_ := Aside0.mk (blk_below (g := gb844) (o := .cells #[.int .i64 a0_0, .slice A0_1 l0_1.length c0_1, .slice A0_2 l0_2.length c0_2] 25 (0, 0)) (by (with_reducible repeat (first | refine blk_drewN ?_ _ | refine blk_drew ?_ | refine blk_alloc ?_ _)); exact BK844.out) hb)
      have n2_ := Aside0.mk (blk_below (g := gb845) (o := .cells #[.int .i64 a1_0, .slice A1_1 l1_1.length c1_1, .slice A1_2 l1_2.length c1_2] 25 (0, 0)) (by (with_reducible repeat (first | refine blk_drewN ?_ _ | refine blk_drew ?_ | refine blk_alloc ?_ _)); exact BK845.out) hb)
      have n3_ := Aside0.mk (blk_below (g := gb846) (o := .cells #[.int .i64 0, .slice none 0 0, .slice none 0 0] 25 (0, 0)) (by (with_reducible repeat (first | refine blk_drewN ?_ _ | refine blk_drew ?_ | refine blk_alloc ?_ _)); exact BK846.out) hb)
      have n4_ := Aside0.mk (below_step (by repeat (first | (with_reducible first | exact HB.out | apply below_alloc | apply pw_below_drewN | apply below_drew1 | refine below_set ?_ GE844.out | refine below_set ?_ GE845.out | refine below_set ?_ GE846.out) | exact HB.out)) hb)
      have n5_ := Aside0.mk (hbox)
      have n6_ := Aside0.mk ((by rw [hg]; exact (below_size (by repeat (first | (with_reducible first | exact HB.out | apply below_alloc | apply pw_below_drewN | apply below_drew1 | refine below_set ?_ GE844.out | refine below_set ?_ GE845.out | refine below_set ?_ GE846.out) | exact HB.out))) : w.heap.size ≤ gb852))
      have n7_ := Aside0.mk ((by rw [hg]; exact (below_size (by repeat (first | (with_reducible first | exact HB.out | apply below_alloc | apply pw_below_drewN | apply below_drew1 | refine below_set ?_ GE844.out | refine below_set ?_ GE845.out | refine below_set ?_ GE846.out) | exact HB.out))) : w.heap.size ≤ gb852))
      have n8_ := Aside0.mk ((by rw [hg]; exact Nat.ne_of_lt (blk_lt (g := gb844) (o := .cells #[.int .i64 a0_0, .slice A0_1 l0_1.length c0_1, .slice A0_2 l0_2.length c0_2] 25 (0, 0)) (by (with_reducible repeat (first | refine blk_drewN ?_ _ | refine blk_drew ?_ | refine blk_alloc ?_ _)); exact BK844.out)) : gb844 ≠ gb852))
      have n9_ := Aside0.mk ((by rw [hg]; exact Nat.ne_of_gt (blk_lt (g := gb844) (o := .cells #[.int .i64 a0_0, .slice A0_1 l0_1.length c0_1, .slice A0_2 l0_2.length c0_2] 25 (0, 0)) (by (with_reducible repeat (first | refine blk_drewN ?_ _ | refine blk_drew ?_ | refine blk_alloc ?_ _)); exact BK844.out)) : gb852 ≠ gb844))
      have n10_ := Aside0.mk ((by rw [hg]; exact Nat.ne_of_lt (blk_lt (g := gb845) (o := .cells #[.int .i64 a1_0, .slice A1_1 l1_1.length c1_1, .slice A1_2 l1_2.length c1_2] 25 (0, 0)) (by (with_reducible repeat (first | refine blk_drewN ?_ _ | refine blk_drew ?_ | refine blk_alloc ?_ _)); exact BK845.out)) : gb845 ≠ gb852))
      have n11_ := Aside0.mk ((by rw [hg]; exact Nat.ne_of_gt (blk_lt (g := gb845) (o := .cells #[.int .i64 a1_0, .slice A1_1 l1_1.length c1_1, .slice A1_2 l1_2.length c1_2] 25 (0, 0)) (by (with_reducible repeat (first | refine blk_drewN ?_ _ | refine blk_drew ?_ | refine blk_alloc ?_ _)); exact BK845.out)) : gb852 ≠ gb845))
      have n12_ := Aside0.mk ((by rw [hg]; exact Nat.ne_of_lt (blk_lt (g := gb846) (o := .cells #[.int .i64 0, .slice none 0 0, .slice none 0 0] 25 (0, 0)) (by (with_reducible repeat (first | refine blk_drewN ?_ _ | refine blk_drew ?_ | refine blk_alloc ?_ _)); exact BK846.out)) : gb846 ≠ gb852))
      have n13_ := Aside0.mk ((by rw [hg]; exact Nat.ne_of_gt (blk_lt (g := gb846) (o := .cells #[.int .i64 0, .slice none 0 0, .slice none 0 0] 25 (0, 0)) (by (with_reducible repeat (first | refine blk_drewN ?_ _ | refine blk_drew ?_ | refine blk_alloc ?_ _)); exact BK846.out)) : gb852 ≠ gb846))
      clear HO851
      clear BK844
      clear BK845
      clear BK846
      clear HB
      have HO851 := n0_
      have BK844 := n1_
      have BK845 := n2_
      have BK846 := n3_
      have HB := n4_
      have BK852 := n5_
      have GW852 := n6_
      have GE852 := n7_
      have NB844_852 := n8_
      have NB852_844 := n9_
      have NB845_852 := n10_
      have NB852_845 := n11_
      have NB846_852 := n12_
      have NB852_846 := n13_
      clear n0_ n1_ n2_ n3_ n4_ n5_ n6_ n7_ n8_ n9_ n10_ n11_ n12_ n13_
      clear hb hbox hg
      refine hK.out _ _ ⟨(blk_cell BK844.out 0).trans rfl, (blk_cell BK844.out 1).trans rfl, (blk_cell BK844.out 2).trans rfl, (blk_cell BK845.out 0).trans rfl, (blk_cell BK845.out 1).trans rfl, (blk_cell BK845.out 2).trans rfl⟩ (fun hHeld => ?_)
      clear hK K
      refine norm_ (a' := ?_) ?_ ?_
      rotate_left
      ·show Act.put _ (some 6) _ = _
       simp only [Act.put, List.setIfInBounds_toArray, List.set_cons_zero, List.set_cons_succ, i64_w, i32_w]
       rfl
      exact norm_ (by simp only [putAll, Act.put, List.setIfInBounds_toArray, List.set_cons_zero, List.set_cons_succ]) (hCont (.slice Ao29 t849.length co29, gb852) _ ⟨hHeld, (by (with_reducible repeat (first | apply Kd.R_alloc | apply Kd.R_drewN | apply Kd.R_drew)); exact HO851.out), (by (with_reducible repeat (first | refine blk_drewN ?_ _ | refine blk_drew ?_ | refine blk_alloc ?_ _)); exact BK844.out), (by (with_reducible repeat (first | refine blk_drewN ?_ _ | refine blk_drew ?_ | refine blk_alloc ?_ _)); exact BK845.out), (by (with_reducible repeat (first | refine blk_drewN ?_ _ | refine blk_drew ?_ | refine blk_alloc ?_ _)); exact BK846.out), (by (with_reducible repeat (first | refine blk_drewN ?_ _ | refine blk_drew ?_ | refine blk_alloc ?_ _)); exact BK852.out), GW852.out, GE852.out, NB844_852.out, NB852_844.out, NB845_852.out, NB852_845.out, NB846_852.out, NB852_846.out, (by repeat (first | (with_reducible first | exact HB.out | apply below_alloc | apply pw_below_drewN | apply below_drew1 | refine below_set ?_ GE844.out | refine below_set ?_ GE845.out | refine below_set ?_ GE846.out | refine below_set ?_ GE852.out) | exact HB.out))⟩)
     ·skip
      refine box_step ?hg (N := 6) ?hd (cs := #[.int .i64 0, .slice none 0 0, .slice none 0 0]) (t := 25) ?hr ?_; (case hd => rfl); (case hg => rfl); (case hr => first | (go_simp; done) | (go_simp; rfl))
      intro gb852 hg w28 hbox hb
      have n0_ := Aside0.mk (blk_below (g := gb844) (o := .cells #[.int .i64 a0_0, .slice A0_1 l0_1.length c0_1, .slice A0_2 l0_2.length c0_2] 25 (0, 0)) (by (with_reducible repeat (first | refine blk_drewN ?_ _ | refine blk_drew ?_ | refine blk_alloc ?_ _)); exact BK844.out) hb)
      have n1_ := Aside0.mk (blk_below (g := gb845) (o := .cells #[.int .i64 a1_0, .slice A1_1 l1_1.length c1_1, .slice A1_2 l1_2.length c1_2] 25 (0, 0)) (by (with_reducible repeat (first | refine blk_drewN ?_ _ | refine blk_drew ?_ | refine blk_alloc ?_ _)); exact BK845.out) hb)
      have n2_ := Aside0.mk (blk_below (g := gb846) (o := .cells #[.int .i64 0, .slice none 0 0, .slice none 0 0] 25 (0, 0)) (by (with_reducible repeat (first | refine blk_drewN ?_ _ | refine blk_drew ?_ | refine blk_alloc ?_ _)); exact BK846.out) hb)
      have n3_ := Aside0.mk (below_step (by repeat (first | (with_reducible first | exact HB.out | apply below_alloc | apply pw_below_drewN | apply below_drew1 | refine below_set ?_ GE844.out | refine below_set ?_ GE845.out | refine below_set ?_ GE846.out) | exact HB.out)) hb)
      have n4_ := Aside0.mk (hbox)
      have n5_ := Aside0.mk ((by rw [hg]; exact (below_size (by repeat (first | (with_reducible first | exact HB.out | apply below_alloc | apply pw_below_drewN | apply below_drew1 | refine below_set ?_ GE844.out | refine below_set ?_ GE845.out | refine below_set ?_ GE846.out) | exact HB.out))) : w.heap.size ≤ gb852))
      have n6_ := Aside0.mk ((by rw [hg]; exact (below_size (by repeat (first | (with_reducible first | exact HB.out | apply below_alloc | apply pw_below_drewN | apply below_drew1 | refine below_set ?_ GE844.out | refine below_set ?_ GE845.out | refine below_set ?_ GE846.out) | exact HB.out))) : w.heap.size ≤ gb852))
      have n7_ := Aside0.mk ((by rw [hg]; exact Nat.ne_of_lt (blk_lt (g := gb844) (o := .cells #[.int .i64 a0_0, .slice A0_1 l0_1.length c0_1, .slice A0_2 l0_2.length c0_2] 25 (0, 0)) (by (with_reducible repeat (first | refine blk_drewN ?_ _ | refine blk_drew ?_ | refine blk_alloc ?_ _)); exact BK844.out)) : gb844 ≠ gb852))
      have n8_ := Aside0.mk ((by rw [hg]; exact Nat.ne_of_gt (blk_lt (g := gb844) (o := .cells #[.int .i64 a0_0, .slice A0_1 l0_1.length c0_1, .slice A0_2 l0_2.length c0_2] 25 (0, 0)) (by (with_reducible repeat (first | refine blk_drewN ?_ _ | refine blk_drew ?_ | refine blk_alloc ?_ _)); exact BK844.out)) : gb852 ≠ gb844))
      have n9_ := Aside0.mk ((by rw [hg]; exact Nat.ne_of_lt (blk_lt (g := gb845) (o := .cells #[.int .i64 a1_0, .slice A1_1 l1_1.length c1_1, .slice A1_2 l1_2.length c1_2] 25 (0, 0)) (by (with_reducible repeat (first | refine blk_drewN ?_ _ | refine blk_drew ?_ | refine blk_alloc ?_ _)); exact BK845.out)) : gb845 ≠ gb852))
      have n10_ := Aside0.mk ((by rw [hg]; exact Nat.ne_of_gt (blk_lt (g := gb845) (o := .cells #[.int .i64 a1_0, .slice A1_1 l1_1.length c1_1, .slice A1_2 l1_2.length c1_2] 25 (0, 0)) (by (with_reducible repeat (first | refine blk_drewN ?_ _ | refine blk_drew ?_ | refine blk_alloc ?_ _)); exact BK845.out)) : gb852 ≠ gb845))
      have n11_ := Aside0.mk ((by rw [hg]; exact Nat.ne_of_lt (blk_lt (g := gb846) (o := .cells #[.int .i64 0, .slice none 0 0, .slice none 0 0] 25 (0, 0)) (by (with_reducible repeat (first | refine blk_drewN ?_ _ | refine blk_drew ?_ | refine blk_alloc ?_ _)); exact BK846.out)) : gb846 ≠ gb852))
      have n12_ := Aside0.mk ((by rw [hg]; exact Nat.ne_of_gt (blk_lt (g := gb846) (o := .cells #[.int .i64 0, .slice none 0 0, .slice none 0 0] 25 (0, 0)) (by (with_reducible repeat (first | refine blk_drewN ?_ _ | refine blk_drew ?_ | refine blk_alloc ?_ _)); exact BK846.out)) : gb852 ≠ gb846))
      clear BK844
      clear BK845
      clear BK846
      clear HB
      have BK844 := n0_
      have BK845 := n1_
      have BK846 := n2_
      have HB := n3_
      have BK852 := n4_
      have GW852 := n5_
      have GE852 := n6_
      have NB844_852 := n7_
      have NB852_844 := n8_
      have NB845_852 := n9_
      have NB852_845 := n10_
      have NB846_852 := n11_
      have NB852_846 := n12_
      clear n0_ n1_ n2_ n3_ n4_ n5_ n6_ n7_ n8_ n9_ n10_ n11_ n12_
      clear hb hbox hg
      refine hK.out _ _ ⟨(blk_cell BK844.out 0).trans rfl, (blk_cell BK844.out 1).trans rfl, (blk_cell BK844.out 2).trans rfl, (blk_cell BK845.out 0).trans rfl, (blk_cell BK845.out 1).trans rfl, (blk_cell BK845.out 2).trans rfl⟩ (fun hHeld => ?_)
      clear hK K
      refine norm_ (a' := ?_) ?_ ?_
      rotate_left
      ·show Act.put _ (some 6) _ = _
       simp only [Act.put, List.setIfInBounds_toArray, List.set_cons_zero, List.set_cons_succ, i64_w, i32_w]
       rfl
      refine one_ (i := 9) (N := some 33) tb5_14 rfl rfl (one_of HT_.out (by kernel_rfl)) (by decide) (fun K hK => ?_)
      refine goes_ Try.func121 (by kernel_rfl) rfl #[.slice A0_1 l0_1.length c0_1, .slice A1_1 l1_1.length c1_1] (by rfl) rfl rfl (by (try simp only [List.map_toArray, List.map_cons, List.map_nil]); first | done | rfl | (simp only [List.length_drop, List.length_take]; rfl)) ?_
      with_reducible refine (names_Union.calls _ _ l0_1 _ _ l1_1 t849 _ ?side1 ?side2 ?side3 ?side4 A25.out).mono ?_
      (case side1 => repeat (first | exact (Kd.C_below HR0_1.out HB.out) | (with_reducible refine Kd.C_alloc ?_ _) | (with_reducible refine Kd.C_drewN ?_ _) | (with_reducible refine Kd.C_drew ?_)))
      (case side2 => exact HC0_1.out)
      (case side3 => repeat (first | exact (Kd.C_below HR1_1.out HB.out) | (with_reducible refine Kd.C_alloc ?_ _) | (with_reducible refine Kd.C_drewN ?_ _) | (with_reducible refine Kd.C_drew ?_)))
      (case side4 => exact HC1_1.out)
      rintro e w29 ⟨v850, rfl, ho0, hb⟩
      refine ⟨_, rfl, ?_⟩
      have n0_ := Aside0.mk (Kd.R_lower ho0 (below_size (by repeat (first | (with_reducible first | exact HB.out | apply below_alloc | apply pw_below_drewN | apply below_drew1 | refine below_set ?_ GE844.out | refine below_set ?_ GE845.out | refine below_set ?_ GE846.out | refine below_set ?_ GE852.out) | exact HB.out))))
      have n1_ := Aside0.mk (blk_below (g := gb844) (o := .cells #[.int .i64 a0_0, .slice A0_1 l0_1.length c0_1, .slice A0_2 l0_2.length c0_2] 25 (0, 0)) (by (with_reducible repeat (first | refine blk_drewN ?_ _ | refine blk_drew ?_ | refine blk_alloc ?_ _)); exact BK844.out) hb)
      have n2_ := Aside0.mk (blk_below (g := gb845) (o := .cells #[.int .i64 a1_0, .slice A1_1 l1_1.length c1_1, .slice A1_2 l1_2.length c1_2] 25 (0, 0)) (by (with_reducible repeat (first | refine blk_drewN ?_ _ | refine blk_drew ?_ | refine blk_alloc ?_ _)); exact BK845.out) hb)
      have n3_ := Aside0.mk (blk_below (g := gb846) (o := .cells #[.int .i64 0, .slice none 0 0, .slice none 0 0] 25 (0, 0)) (by (with_reducible repeat (first | refine blk_drewN ?_ _ | refine blk_drew ?_ | refine blk_alloc ?_ _)); exact BK846.out) hb)
      have n4_ := Aside0.mk (blk_below (g := gb852) (o := .cells #[.int .i64 0, .slice none 0 0, .slice none 0 0] 25 (0, 0)) (by (with_reducible repeat (first | refine blk_drewN ?_ _ | refine blk_drew ?_ | refine blk_alloc ?_ _)); exact BK852.out) hb)
      have n5_ := Aside0.mk (below_step (by repeat (first | (with_reducible first | exact HB.out | apply below_alloc | apply pw_below_drewN | apply below_drew1 | refine below_set ?_ GE844.out | refine below_set ?_ GE845.out | refine below_set ?_ GE846.out | refine below_set ?_ GE852.out) | exact HB.out)) hb)
      clear BK844
      clear BK845
      clear BK846
      clear BK852
      clear HB
      have HO851 := n0_
      have BK844 := n1_
      have BK845 := n2_
      have BK846 := n3_
      have BK852 := n4_
      have HB := n5_
      clear n0_ n1_ n2_ n3_ n4_ n5_
      (try clear hb)
      (try clear hb2)
      (try clear hk)
      (try clear hi)
      (try clear ho0)
      obtain ⟨Ao30, co30, eo30⟩ := Kd.R_slice HO851.out
      (first | subst eo30 | (injection eo30 with f1_ f2_ f3_; have f4_ := f1_.symm; have f5_ := f3_.symm; clear f1_ f2_ f3_; subst f4_; subst f5_))
      refine hK.out _ _ ⟨(blk_cell BK844.out 0).trans rfl, (blk_cell BK844.out 1).trans rfl, (blk_cell BK844.out 2).trans rfl, (blk_cell BK845.out 0).trans rfl, (blk_cell BK845.out 1).trans rfl, (blk_cell BK845.out 2).trans rfl⟩ (fun hHeld => ?_)
      clear hK K
      refine norm_ (a' := ?_) ?_ ?_
      rotate_left
      ·show Act.put _ (some 33) _ = _
       simp only [Act.put, List.setIfInBounds_toArray, List.set_cons_zero, List.set_cons_succ, i64_w, i32_w]
       rfl
      refine pure_ (i := 10) (N := some 34) (v := ?_) (a' := ?_) tb5_10 rfl rfl (any_of HT_.out (by kernel_rfl)) (fun _ _ _ h => h) (Or.inl ⟨by rfl, ?_⟩) ?_ ?_
      rotate_left
      ·intro w'
       go_simp
       with_reducible rfl
      rotate_left
      ·simp only [Act.put, List.setIfInBounds_toArray, List.set_cons_zero, List.set_cons_succ, i64_w, i32_w]
       rfl
      exact norm_ (by simp only [putAll, Act.put, List.setIfInBounds_toArray, List.set_cons_zero, List.set_cons_succ]) (hCont (.slice Ao30 t849.length co30, gb852) _ ⟨hHeld, (by (with_reducible repeat (first | apply Kd.R_alloc | apply Kd.R_drewN | apply Kd.R_drew)); exact HO851.out), (by (with_reducible repeat (first | refine blk_drewN ?_ _ | refine blk_drew ?_ | refine blk_alloc ?_ _)); exact BK844.out), (by (with_reducible repeat (first | refine blk_drewN ?_ _ | refine blk_drew ?_ | refine blk_alloc ?_ _)); exact BK845.out), (by (with_reducible repeat (first | refine blk_drewN ?_ _ | refine blk_drew ?_ | refine blk_alloc ?_ _)); exact BK846.out), (by (with_reducible repeat (first | refine blk_drewN ?_ _ | refine blk_drew ?_ | refine blk_alloc ?_ _)); exact BK852.out), GW852.out, GE852.out, NB844_852.out, NB852_844.out, NB845_852.out, NB852_845.out, NB846_852.out, NB852_846.out, (by repeat (first | (with_reducible first | exact HB.out | apply below_alloc | apply pw_below_drewN | apply below_drew1 | refine below_set ?_ GE844.out | refine below_set ?_ GE845.out | refine below_set ?_ GE846.out | refine below_set ?_ GE852.out) | exact HB.out))⟩)
    rintro ⟨v850, gb852⟩ w31 ⟨hS_, h0_, h1_, h2_, h3_, h4_, h5_, h6_, h7_, h8_, h9_, h10_, h11_, h12_, h13_⟩
    have n0_ : Aside0 (Kd.R Kd.string 9 w31 w.heap.size (fun _ => True) v850 t849) := ⟨h0_⟩
    have n1_ : Aside0 (w31.heap[gb844]? = some (.cells #[.int .i64 a0_0, .slice A0_1 l0_1.length c0_1, .slice A0_2 l0_2.length c0_2] 25 (0, 0))) := ⟨h1_⟩
    have n2_ : Aside0 (w31.heap[gb845]? = some (.cells #[.int .i64 a1_0, .slice A1_1 l1_1.length c1_1, .slice A1_2 l1_2.length c1_2] 25 (0, 0))) := ⟨h2_⟩
    have n3_ : Aside0 (w31.heap[gb846]? = some (.cells #[.int .i64 0, .slice none 0 0, .slice none 0 0] 25 (0, 0))) := ⟨h3_⟩
    have n4_ : Aside0 (w31.heap[gb852]? = some (.cells #[.int .i64 0, .slice none 0 0, .slice none 0 0] 25 (0, 0))) := ⟨h4_⟩
    have n5_ : Aside0 (w.heap.size ≤ gb852) := ⟨h5_⟩
    have n6_ : Aside0 (w.heap.size ≤ gb852) := ⟨h6_⟩
    have n7_ : Aside0 (gb844 ≠ gb852) := ⟨h7_⟩
    have n8_ : Aside0 (gb852 ≠ gb844) := ⟨h8_⟩
    have n9_ : Aside0 (gb845 ≠ gb852) := ⟨h9_⟩
    have n10_ : Aside0 (gb852 ≠ gb845) := ⟨h10_⟩
    have n11_ : Aside0 (gb846 ≠ gb852) := ⟨h11_⟩
    have n12_ : Aside0 (gb852 ≠ gb846) := ⟨h12_⟩
    have n13_ : Aside0 (Below w.heap.size w w31) := ⟨h13_⟩
    clear BK844
    clear BK845
    clear BK846
    clear HB
    clear h0_ h1_ h2_ h3_ h4_ h5_ h6_ h7_ h8_ h9_ h10_ h11_ h12_ h13_
    have HO851 := n0_
    have BK844 := n1_
    have BK845 := n2_
    have BK846 := n3_
    have BK852 := n4_
    have GW852 := n5_
    have GE852 := n6_
    have NB844_852 := n7_
    have NB852_844 := n8_
    have NB845_852 := n9_
    have NB852_845 := n10_
    have NB846_852 := n11_
    have NB852_846 := n12_
    have HB := n13_
    clear n0_ n1_ n2_ n3_ n4_ n5_ n6_ n7_ n8_ n9_ n10_ n11_ n12_ n13_
    have hHeld : w31.cell? ⟨gb844, 0, none⟩ = some (.int .i64 a0_0) ∧ w31.cell? ⟨gb844, 1, none⟩ = some (.slice A0_1 l0_1.length c0_1) ∧ w31.cell? ⟨gb844, 2, none⟩ = some (.slice A0_2 l0_2.length c0_2) ∧ w31.cell? ⟨gb845, 0, none⟩ = some (.int .i64 a1_0) ∧ w31.cell? ⟨gb845, 1, none⟩ = some (.slice A1_1 l1_1.length c1_1) ∧ w31.cell? ⟨gb845, 2, none⟩ = some (.slice A1_2 l1_2.length c1_2) := hS_
    obtain ⟨Ao32, co32, eo32⟩ := Kd.R_slice HO851.out
    (first | subst eo32 | (injection eo32 with f1_ f2_ f3_; have f4_ := f1_.symm; have f5_ := f3_.symm; clear f1_ f2_ f3_; subst f4_; subst f5_))
    refine norm_ (a' := ?_) ?_ ?_
    rotate_left
    ·simp only [putAll, Act.put, List.setIfInBounds_toArray, List.set_cons_zero, List.set_cons_succ]
     rfl
    refine one_ (i := 12) (N := none) tb5_15 rfl rfl (one_of HT_.out (by kernel_rfl)) (by decide) (fun K hK => ?_)
    have hs33 : w31.cell? ⟨gb852, 0, none⟩ = some (.int .i64 0) := (blk_cell BK852.out 0).trans rfl
    have hfs33 := blk_frozen BK852.out 0
    have hns33_0 := NB844_852.out
    have hns33_1 := NB845_852.out
    have hns33_2 := NB846_852.out
    have hms33_0 := NB852_844.out
    have hms33_1 := NB852_845.out
    have hms33_2 := NB852_846.out
    have hs34 : w31.cell? ⟨gb852, 1, none⟩ = some (.slice none 0 0) := (blk_cell BK852.out 1).trans rfl
    have hfs34 := blk_frozen BK852.out 1
    have hns34_0 := NB844_852.out
    have hns34_1 := NB845_852.out
    have hns34_2 := NB846_852.out
    have hms34_0 := NB852_844.out
    have hms34_1 := NB852_845.out
    have hms34_2 := NB852_846.out
    have hs35 : w31.cell? ⟨gb852, 2, none⟩ = some (.slice none 0 0) := (blk_cell BK852.out 2).trans rfl
    have hfs35 := blk_frozen BK852.out 2
    have hns35_0 := NB844_852.out
    have hns35_1 := NB845_852.out
    have hns35_2 := NB846_852.out
    have hms35_0 := NB852_844.out
    have hms35_1 := NB852_845.out
    have hms35_2 := NB852_846.out
    refine skip_ (w1 := ?_) (by rfl) rfl ?_ ?_
    rotate_left
    ·go_simp
     rfl
    refine hK.out _ _ ⟨((cell_far (p := ⟨gb852, _, none⟩) NB844_852.out _).trans (((cell_far (p := ⟨gb852, _, none⟩) NB844_852.out _).trans (((cell_far (p := ⟨gb852, _, none⟩) NB844_852.out _).trans (hHeld.1)))))), ((cell_far (p := ⟨gb852, _, none⟩) NB844_852.out _).trans (((cell_far (p := ⟨gb852, _, none⟩) NB844_852.out _).trans (((cell_far (p := ⟨gb852, _, none⟩) NB844_852.out _).trans (hHeld.2.1)))))), ((cell_far (p := ⟨gb852, _, none⟩) NB844_852.out _).trans (((cell_far (p := ⟨gb852, _, none⟩) NB844_852.out _).trans (((cell_far (p := ⟨gb852, _, none⟩) NB844_852.out _).trans (hHeld.2.2.1)))))), ((cell_far (p := ⟨gb852, _, none⟩) NB845_852.out _).trans (((cell_far (p := ⟨gb852, _, none⟩) NB845_852.out _).trans (((cell_far (p := ⟨gb852, _, none⟩) NB845_852.out _).trans (hHeld.2.2.2.1)))))), ((cell_far (p := ⟨gb852, _, none⟩) NB845_852.out _).trans (((cell_far (p := ⟨gb852, _, none⟩) NB845_852.out _).trans (((cell_far (p := ⟨gb852, _, none⟩) NB845_852.out _).trans (hHeld.2.2.2.2.1)))))), ((cell_far (p := ⟨gb852, _, none⟩) NB845_852.out _).trans (((cell_far (p := ⟨gb852, _, none⟩) NB845_852.out _).trans (((cell_far (p := ⟨gb852, _, none⟩) NB845_852.out _).trans (hHeld.2.2.2.2.2))))))⟩ (fun hHeld => ?_)
    clear hK K
    refine done_ (done_of HT_.out (by kernel_rfl)) ?_
    go_upto_region 4 with (fail)
    go_cut [43] (fun v43 wc => ∃ (kq : Nat) (x43_25 : Bool), v43 = .bool x43_25 ∧ Aside0 (product_Of.j1 kq x43_25 a0_0 l0_1 l0_2 a1_0 l1_1 l1_2 (wrap64 (a0_0 * a1_0)) t849 = some (r1, r2, r3, r4)) ∧ Aside0 (kq ≤ kj2) ∧ Aside0 (Kd.R Kd.string 9 wc w.heap.size (fun _ => True) (.slice Ao32 t849.length co32) t849) ∧ Aside0 (wc.heap[gb844]? = some (.cells #[.int .i64 a0_0, (.slice A0_1 l0_1.length c0_1), (.slice A0_2 l0_2.length c0_2)] 25 (0, 0))) ∧ Aside0 (wc.heap[gb845]? = some (.cells #[.int .i64 a1_0, (.slice A1_1 l1_1.length c1_1), (.slice A1_2 l1_2.length c1_2)] 25 (0, 0))) ∧ Aside0 (wc.heap[gb846]? = some (.cells #[.int .i64 0, (.slice none 0 0), (.slice none 0 0)] 25 (0, 0))) ∧ Aside0 (wc.heap[gb852]? = some (.cells #[.int .i64 (wrap64 (a0_0 * a1_0)), (.slice Ao32 t849.length co32), (.slice none 0 0)] 25 (0, 0))) ∧ Aside0 (Below w.heap.size w wc))
    case first =>
     have H := HC26.out
     clear HC26
     by_cases c36 : (wrap64 (a0_0 * a1_0)) > 2048
     ·rw [if_pos c36] at H
      have c36b0 : decide (2048 < (wrap64 (a0_0 * a1_0))) = true := decide_eq_true c36
      clear c36
      (first | rw [c36b0] | (simp only [i64_w, i32_w]; rw [c36b0]) | skip)
      have H' := Aside0.mk H
      clear H
      have hnb37 := NB852_844.out
      have hnc37 := NB844_852.out
      have hnb38 := NB852_845.out
      have hnc38 := NB845_852.out
      have hnb39 := NB852_846.out
      have hnc39 := NB846_852.out
      have hcz40_0 : w31.cell? ⟨gb852, 0, none⟩ = some (.int .i64 0) := (blk_cell BK852.out 0).trans rfl
      have hcz40_1 : w31.cell? ⟨gb852, 1, none⟩ = some (.slice none 0 0) := (blk_cell BK852.out 1).trans rfl
      have hcz40_2 : w31.cell? ⟨gb852, 2, none⟩ = some (.slice none 0 0) := (blk_cell BK852.out 2).trans rfl
      have hfz40_0 := blk_frozen BK852.out 0
      have hfz40_1 := blk_frozen BK852.out 1
      have hfz40_2 := blk_frozen BK852.out 2
      go_wp2
      go_meet
      case rel => exact ⟨_, (true), (by first | rfl | (simp; done) | (simp [*]; done)), H', ⟨by have := HJ2.out; first | omega | exact Nat.le_refl _⟩, ⟨by (with_reducible repeat (first | apply Kd.R_alloc | apply Kd.R_drewN | apply Kd.R_drew)); exact Kd.R_mono (Kd.R_far (p := ⟨gb852, 2, none⟩) (Kd.R_far (p := ⟨gb852, 1, none⟩) (Kd.R_far (p := ⟨gb852, 0, none⟩) (Kd.R_types HO851.out BK852.out (by decide)) (fun _ hk => hk.2) (.int .i64 (wrap64 (a0_0 * a1_0)))) (fun _ hk => hk.2) (.slice Ao32 t849.length co32)) (fun _ hk => hk.2) (.slice none 0 0)) (fun _ hk => trivial)⟩, ⟨by (with_reducible repeat (first | refine blk_drewN ?_ _ | refine blk_drew ?_ | refine blk_alloc ?_ _)); refine blk_far ?_ NB844_852.out _; (with_reducible repeat (first | refine blk_drewN ?_ _ | refine blk_drew ?_ | refine blk_alloc ?_ _)); refine blk_far ?_ NB844_852.out _; (with_reducible repeat (first | refine blk_drewN ?_ _ | refine blk_drew ?_ | refine blk_alloc ?_ _)); refine blk_far ?_ NB844_852.out _; (with_reducible repeat (first | refine blk_drewN ?_ _ | refine blk_drew ?_ | refine blk_alloc ?_ _)); exact BK844.out⟩, ⟨by (with_reducible repeat (first | refine blk_drewN ?_ _ | refine blk_drew ?_ | refine blk_alloc ?_ _)); refine blk_far ?_ NB845_852.out _; (with_reducible repeat (first | refine blk_drewN ?_ _ | refine blk_drew ?_ | refine blk_alloc ?_ _)); refine blk_far ?_ NB845_852.out _; (with_reducible repeat (first | refine blk_drewN ?_ _ | refine blk_drew ?_ | refine blk_alloc ?_ _)); refine blk_far ?_ NB845_852.out _; (with_reducible repeat (first | refine blk_drewN ?_ _ | refine blk_drew ?_ | refine blk_alloc ?_ _)); exact BK845.out⟩, ⟨by (with_reducible repeat (first | refine blk_drewN ?_ _ | refine blk_drew ?_ | refine blk_alloc ?_ _)); refine blk_far ?_ NB846_852.out _; (with_reducible repeat (first | refine blk_drewN ?_ _ | refine blk_drew ?_ | refine blk_alloc ?_ _)); refine blk_far ?_ NB846_852.out _; (with_reducible repeat (first | refine blk_drewN ?_ _ | refine blk_drew ?_ | refine blk_alloc ?_ _)); refine blk_far ?_ NB846_852.out _; (with_reducible repeat (first | refine blk_drewN ?_ _ | refine blk_drew ?_ | refine blk_alloc ?_ _)); exact BK846.out⟩, ⟨by (with_reducible repeat (first | refine blk_drewN ?_ _ | refine blk_drew ?_ | refine blk_alloc ?_ _)); refine blk_put (cs := #[.int .i64 (wrap64 (a0_0 * a1_0)), .slice Ao32 t849.length co32, .slice none 0 0]) ?_ 2 _ rfl; (with_reducible repeat (first | refine blk_drewN ?_ _ | refine blk_drew ?_ | refine blk_alloc ?_ _)); refine blk_put (cs := #[.int .i64 (wrap64 (a0_0 * a1_0)), .slice none 0 0, .slice none 0 0]) ?_ 1 _ rfl; (with_reducible repeat (first | refine blk_drewN ?_ _ | refine blk_drew ?_ | refine blk_alloc ?_ _)); refine blk_put (cs := #[.int .i64 0, .slice none 0 0, .slice none 0 0]) ?_ 0 _ rfl; (with_reducible repeat (first | refine blk_drewN ?_ _ | refine blk_drew ?_ | refine blk_alloc ?_ _)); exact BK852.out⟩, ⟨by repeat (first | (with_reducible first | exact HB.out | apply below_alloc | apply pw_below_drewN | apply below_drew1 | refine below_set ?_ GE844.out | refine below_set ?_ GE845.out | refine below_set ?_ GE846.out | refine below_set ?_ GE852.out) | exact HB.out)⟩⟩
     ·rw [if_neg c36] at H
      have c36b0 : decide (2048 < (wrap64 (a0_0 * a1_0))) = false := decide_eq_false c36
      clear c36
      (first | rw [c36b0] | (simp only [i64_w, i32_w]; rw [c36b0]) | skip)
      have H' := Aside0.mk H
      clear H
      have hnb41 := NB852_844.out
      have hnc41 := NB844_852.out
      have hnb42 := NB852_845.out
      have hnc42 := NB845_852.out
      have hnb43 := NB852_846.out
      have hnc43 := NB846_852.out
      have hcz44_0 : w31.cell? ⟨gb852, 0, none⟩ = some (.int .i64 0) := (blk_cell BK852.out 0).trans rfl
      have hcz44_1 : w31.cell? ⟨gb852, 1, none⟩ = some (.slice none 0 0) := (blk_cell BK852.out 1).trans rfl
      have hcz44_2 : w31.cell? ⟨gb852, 2, none⟩ = some (.slice none 0 0) := (blk_cell BK852.out 2).trans rfl
      have hfz44_0 := blk_frozen BK852.out 0
      have hfz44_1 := blk_frozen BK852.out 1
      have hfz44_2 := blk_frozen BK852.out 2
      go_wp2
      go_meet
      case rel => exact ⟨_, (decide ((t849.length : Int) > 64)), (by first | rfl | (simp; done) | (simp [*]; done)), H', ⟨by have := HJ2.out; first | omega | exact Nat.le_refl _⟩, ⟨by (with_reducible repeat (first | apply Kd.R_alloc | apply Kd.R_drewN | apply Kd.R_drew)); exact Kd.R_mono (Kd.R_far (p := ⟨gb852, 2, none⟩) (Kd.R_far (p := ⟨gb852, 1, none⟩) (Kd.R_far (p := ⟨gb852, 0, none⟩) (Kd.R_types HO851.out BK852.out (by decide)) (fun _ hk => hk.2) (.int .i64 (wrap64 (a0_0 * a1_0)))) (fun _ hk => hk.2) (.slice Ao32 t849.length co32)) (fun _ hk => hk.2) (.slice none 0 0)) (fun _ hk => trivial)⟩, ⟨by (with_reducible repeat (first | refine blk_drewN ?_ _ | refine blk_drew ?_ | refine blk_alloc ?_ _)); refine blk_far ?_ NB844_852.out _; (with_reducible repeat (first | refine blk_drewN ?_ _ | refine blk_drew ?_ | refine blk_alloc ?_ _)); refine blk_far ?_ NB844_852.out _; (with_reducible repeat (first | refine blk_drewN ?_ _ | refine blk_drew ?_ | refine blk_alloc ?_ _)); refine blk_far ?_ NB844_852.out _; (with_reducible repeat (first | refine blk_drewN ?_ _ | refine blk_drew ?_ | refine blk_alloc ?_ _)); exact BK844.out⟩, ⟨by (with_reducible repeat (first | refine blk_drewN ?_ _ | refine blk_drew ?_ | refine blk_alloc ?_ _)); refine blk_far ?_ NB845_852.out _; (with_reducible repeat (first | refine blk_drewN ?_ _ | refine blk_drew ?_ | refine blk_alloc ?_ _)); refine blk_far ?_ NB845_852.out _; (with_reducible repeat (first | refine blk_drewN ?_ _ | refine blk_drew ?_ | refine blk_alloc ?_ _)); refine blk_far ?_ NB845_852.out _; (with_reducible repeat (first | refine blk_drewN ?_ _ | refine blk_drew ?_ | refine blk_alloc ?_ _)); exact BK845.out⟩, ⟨by (with_reducible repeat (first | refine blk_drewN ?_ _ | refine blk_drew ?_ | refine blk_alloc ?_ _)); refine blk_far ?_ NB846_852.out _; (with_reducible repeat (first | refine blk_drewN ?_ _ | refine blk_drew ?_ | refine blk_alloc ?_ _)); refine blk_far ?_ NB846_852.out _; (with_reducible repeat (first | refine blk_drewN ?_ _ | refine blk_drew ?_ | refine blk_alloc ?_ _)); refine blk_far ?_ NB846_852.out _; (with_reducible repeat (first | refine blk_drewN ?_ _ | refine blk_drew ?_ | refine blk_alloc ?_ _)); exact BK846.out⟩, ⟨by (with_reducible repeat (first | refine blk_drewN ?_ _ | refine blk_drew ?_ | refine blk_alloc ?_ _)); refine blk_put (cs := #[.int .i64 (wrap64 (a0_0 * a1_0)), .slice Ao32 t849.length co32, .slice none 0 0]) ?_ 2 _ rfl; (with_reducible repeat (first | refine blk_drewN ?_ _ | refine blk_drew ?_ | refine blk_alloc ?_ _)); refine blk_put (cs := #[.int .i64 (wrap64 (a0_0 * a1_0)), .slice none 0 0, .slice none 0 0]) ?_ 1 _ rfl; (with_reducible repeat (first | refine blk_drewN ?_ _ | refine blk_drew ?_ | refine blk_alloc ?_ _)); refine blk_put (cs := #[.int .i64 0, .slice none 0 0, .slice none 0 0]) ?_ 0 _ rfl; (with_reducible repeat (first | refine blk_drewN ?_ _ | refine blk_drew ?_ | refine blk_alloc ?_ _)); exact BK852.out⟩, ⟨by repeat (first | (with_reducible first | exact HB.out | apply below_alloc | apply pw_below_drewN | apply below_drew1 | refine below_set ?_ GE844.out | refine below_set ?_ GE845.out | refine below_set ?_ GE846.out | refine below_set ?_ GE852.out) | exact HB.out)⟩⟩
    case rest =>
     clear HC26
     try clear c1
     try clear c2
     try clear p2
     try clear c3
     try clear c4
     try clear c6
     try clear p6
     try clear c8
     try clear c8b0
     try clear c8b1
     try clear c10
     try clear c11
     try clear c12
     try clear c14
     try clear c17
     try clear c18
     try clear c21
     try clear c22
     try clear c23
     try clear c36
     try clear c36b0
     try clear c37
     try clear c38
     try clear c39
     try clear c41
     try clear c42
     try clear c43
     try clear hcz12_0
     try clear hcz12_1
     try clear hcz12_2
     try clear hcz15_0
     try clear hcz15_1
     try clear hcz15_2
     try clear hcz19_0
     try clear hcz19_1
     try clear hcz19_2
     try clear hcz24_0
     try clear hcz24_1
     try clear hcz24_2
     try clear hcz40_0
     try clear hcz40_1
     try clear hcz40_2
     try clear hcz44_0
     try clear hcz44_1
     try clear hcz44_2
     try clear hfz12_0
     try clear hfz12_1
     try clear hfz12_2
     try clear hfz15_0
     try clear hfz15_1
     try clear hfz15_2
     try clear hfz19_0
     try clear hfz19_1
     try clear hfz19_2
     try clear hfz24_0
     try clear hfz24_1
     try clear hfz24_2
     try clear hfz40_0
     try clear hfz40_1
     try clear hfz40_2
     try clear hfz44_0
     try clear hfz44_1
     try clear hfz44_2
     try clear p2
     obtain ⟨kq, x43_25, rfl, HA, HJ25, HO_853001, BK844, BK845, BK846, BK852, HB⟩ := hcut
     cases kq with
     | zero => exact absurd HA.out (by simp [product_Of.j1])
     | succ kj25 =>
      have H := HA.out
      clear HA
      simp only [product_Of.j1] at H
      by_cases c45 : x43_25 = true
      ·subst c45
       have H1 : (some (0, ([] : List ByteArray), ([] : List (S55)), 8)) = some (r1, r2, r3, r4) := by rw [if_pos rfl] at H; exact H
       clear H
       have H := H1
       clear H1
       simp only [Option.some.injEq, Prod.mk.injEq] at H
       obtain ⟨rfl, rfl, rfl, rfl⟩ := H
       have hnb46 := NB846_844.out
       have hnc46 := NB844_846.out
       have hnb47 := NB846_845.out
       have hnc47 := NB845_846.out
       have hnb48 := NB846_852.out
       have hnc48 := NB852_846.out
       have hcz49_0 : wc.cell? ⟨gb846, 0, none⟩ = some (.int .i64 0) := (blk_cell BK846.out 0).trans rfl
       have hcz49_1 : wc.cell? ⟨gb846, 1, none⟩ = some (.slice none 0 0) := (blk_cell BK846.out 1).trans rfl
       have hcz49_2 : wc.cell? ⟨gb846, 2, none⟩ = some (.slice none 0 0) := (blk_cell BK846.out 2).trans rfl
       have hfz49_0 := blk_frozen BK846.out 0
       have hfz49_1 := blk_frozen BK846.out 1
       have hfz49_2 := blk_frozen BK846.out 2
       go_wp2
       refine bodyPost_ret (results_ct rfl _ _ gb846 25 #[.int .i64 0, .slice none 0 0, .slice none 0 0] (0, 0) _ rfl (by (with_reducible repeat (first | refine blk_drewN ?_ _ | refine blk_drew ?_ | refine blk_alloc ?_ _)); refine blk_put (cs := #[.int .i64 0, .slice none 0 0, .slice none 0 0]) ?_ 2 _ rfl; (with_reducible repeat (first | refine blk_drewN ?_ _ | refine blk_drew ?_ | refine blk_alloc ?_ _)); refine blk_put (cs := #[.int .i64 0, .slice none 0 0, .slice none 0 0]) ?_ 1 _ rfl; (with_reducible repeat (first | refine blk_drewN ?_ _ | refine blk_drew ?_ | refine blk_alloc ?_ _)); refine blk_put (cs := #[.int .i64 0, .slice none 0 0, .slice none 0 0]) ?_ 0 _ rfl; (with_reducible repeat (first | refine blk_drewN ?_ _ | refine blk_drew ?_ | refine blk_alloc ?_ _)); exact BK846.out) Try.underlying25 rfl (by kernel_rfl)) rfl ?_
       exact ⟨_, _, by first | rfl | (simp [errW_none, errW_some] <;> rfl) | (simp [*, errW_none, errW_some] <;> rfl), by first | exact Kd.R_nil _ _ _ _ _ | exact Kd.N_nil _ _ _ _ _ | exact Kd.V_nil _ _ _ _ _ | exact Kd.Q_nil _ _ _ _ _ | exact Kd.S_nil _ _ _ _ _, by first | exact Kd.R_nil _ _ _ _ _ | exact Kd.N_nil _ _ _ _ _ | exact Kd.V_nil _ _ _ _ _ | exact Kd.Q_nil _ _ _ _ _ | exact Kd.S_nil _ _ _ _ _, by repeat (first | (with_reducible first | exact HB.out | apply below_alloc | apply pw_below_drewN | apply below_drew1 | refine below_set ?_ GE844.out | refine below_set ?_ GE845.out | refine below_set ?_ GE846.out | refine below_set ?_ GE852.out) | exact HB.out)⟩
      ·replace c45 := Bool.eq_false_iff.mpr c45
       subst c45
       have H1 : (product_Of.l0 kj25 t849 (t849.length : Int) 0 a0_0 l0_1 l0_2 a1_0 l1_1 l1_2 (wrap64 (a0_0 * a1_0)) t849 ([] : List (S55))) = some (r1, r2, r3, r4) := by rw [if_neg (show ¬ (false = true) by decide)] at H; exact H
       clear H
       have H := H1
       clear H1
       have H' := Aside0.mk H
       clear H
       have hnb50 := NB852_844.out
       have hnc50 := NB844_852.out
       have hnb51 := NB852_845.out
       have hnc51 := NB845_852.out
       have hnb52 := NB852_846.out
       have hnc52 := NB846_852.out
       have hcz53_0 : wc.cell? ⟨gb852, 0, none⟩ = some (.int .i64 (wrap64 (a0_0 * a1_0))) := (blk_cell BK852.out 0).trans rfl
       have hcz53_1 : wc.cell? ⟨gb852, 1, none⟩ = some (.slice Ao32 t849.length co32) := (blk_cell BK852.out 1).trans rfl
       have hcz53_2 : wc.cell? ⟨gb852, 2, none⟩ = some (.slice none 0 0) := (blk_cell BK852.out 2).trans rfl
       have hfz53_0 := blk_frozen BK852.out 0
       have hfz53_1 := blk_frozen BK852.out 1
       have hfz53_2 := blk_frozen BK852.out 2
       go_wp2
       go_loopg [48] kj25 (fun kq v48 w' => ∃ (x48_3 : Int) (x847000_3 : Int) (x853002_3 : List (S55)) (u853002 : Value), v48 = .int .i64 x48_3 ∧ Aside0 (product_Of.l0 kq t849 (t849.length : Int) x48_3 a0_0 l0_1 l0_2 a1_0 l1_1 l1_2 (wrap64 (a0_0 * a1_0)) t849 x853002_3 = some (r1, r2, r3, r4)) ∧ Aside0 (kq ≤ kj25) ∧ Aside0 (Kd.R Kd.string 9 w' w.heap.size (fun _ => True) (.slice Ao32 t849.length co32) t849) ∧ Aside0 (Kd.R Kd.string 9 w' w.heap.size (fun _ => True) (.slice Ao32 t849.length co32) t849) ∧ Aside0 (Kd.R k55 55 w' w.heap.size (fun _ => True) u853002 x853002_3) ∧ Aside0 (w'.heap[gb844]? = some (.cells #[.int .i64 a0_0, (.slice A0_1 l0_1.length c0_1), (.slice A0_2 l0_2.length c0_2)] 25 (0, 0))) ∧ Aside0 (w'.heap[gb845]? = some (.cells #[.int .i64 a1_0, (.slice A1_1 l1_1.length c1_1), (.slice A1_2 l1_2.length c1_2)] 25 (0, 0))) ∧ Aside0 (w'.heap[gb846]? = some (.cells #[.int .i64 x847000_3, (.slice none 0 0), (.slice none 0 0)] 25 (0, 0))) ∧ Aside0 (w'.heap[gb852]? = some (.cells #[.int .i64 (wrap64 (a0_0 * a1_0)), (.slice Ao32 t849.length co32), u853002] 25 (0, 0))) ∧ Aside0 (Below w.heap.size w w'))
       case atStart => exact ⟨(0), (0), (([] : List (S55))), (.slice none 0 0), (by first | rfl | (simp; done) | (simp [*]; done)), H', ⟨Nat.le_refl _⟩, ⟨by (with_reducible repeat (first | apply Kd.R_alloc | apply Kd.R_drewN | apply Kd.R_drew)); exact HO_853001.out⟩, ⟨by (with_reducible repeat (first | apply Kd.R_alloc | apply Kd.R_drewN | apply Kd.R_drew)); exact HO_853001.out⟩, ⟨by first | exact Kd.R_nil _ _ _ _ _ | exact Kd.N_nil _ _ _ _ _ | exact Kd.V_nil _ _ _ _ _ | exact Kd.Q_nil _ _ _ _ _ | exact Kd.S_nil _ _ _ _ _⟩, ⟨by (with_reducible repeat (first | refine blk_drewN ?_ _ | refine blk_drew ?_ | refine blk_alloc ?_ _)); exact BK844.out⟩, ⟨by (with_reducible repeat (first | refine blk_drewN ?_ _ | refine blk_drew ?_ | refine blk_alloc ?_ _)); exact BK845.out⟩, ⟨by (with_reducible repeat (first | refine blk_drewN ?_ _ | refine blk_drew ?_ | refine blk_alloc ?_ _)); exact BK846.out⟩, ⟨by (with_reducible repeat (first | refine blk_drewN ?_ _ | refine blk_drew ?_ | refine blk_alloc ?_ _)); exact BK852.out⟩, ⟨by repeat (first | (with_reducible first | exact HB.out | apply below_alloc | apply pw_below_drewN | apply below_drew1 | refine below_set ?_ GE844.out | refine below_set ?_ GE845.out | refine below_set ?_ GE846.out | refine below_set ?_ GE852.out) | exact HB.out)⟩⟩
       case round =>
        clear H'
        try clear c1
        try clear c2
        try clear p2
        try clear c3
        try clear c4
        try clear c5
        try clear c6
        try clear p6
        try clear c8
        try clear c8b0
        try clear c8b1
        try clear c10
        try clear c11
        try clear c12
        try clear c14
        try clear c17
        try clear c18
        try clear c21
        try clear c22
        try clear c23
        try clear c36
        try clear c36b0
        try clear c37
        try clear c38
        try clear c39
        try clear c41
        try clear c42
        try clear c43
        try clear c45
        try clear c46
        try clear c47
        try clear c48
        try clear c50
        try clear c51
        try clear c52
        try clear hcz12_0
        try clear hcz12_1
        try clear hcz12_2
        try clear hcz15_0
        try clear hcz15_1
        try clear hcz15_2
        try clear hcz19_0
        try clear hcz19_1
        try clear hcz19_2
        try clear hcz24_0
        try clear hcz24_1
        try clear hcz24_2
        try clear hcz40_0
        try clear hcz40_1
        try clear hcz40_2
        try clear hcz44_0
        try clear hcz44_1
        try clear hcz44_2
        try clear hcz49_0
        try clear hcz49_1
        try clear hcz49_2
        try clear hcz53_0
        try clear hcz53_1
        try clear hcz53_2
        try clear hfz12_0
        try clear hfz12_1
        try clear hfz12_2
        try clear hfz15_0
        try clear hfz15_1
        try clear hfz15_2
        try clear hfz19_0
        try clear hfz19_1
        try clear hfz19_2
        try clear hfz24_0
        try clear hfz24_1
        try clear hfz24_2
        try clear hfz40_0
        try clear hfz40_1
        try clear hfz40_2
        try clear hfz44_0
        try clear hfz44_1
        try clear hfz44_2
        try clear hfz49_0
        try clear hfz49_1
        try clear hfz49_2
        try clear hfz53_0
        try clear hfz53_1
        try clear hfz53_2
        try clear p2
        try clear p6
        obtain ⟨x48_3, x847000_3, x853002_3, u853002, rfl, HA, HK3, HO_46, HO_853001, HO_853002, BK844, BK845, BK846, BK852, HB⟩ := hrel
        cases gk with
        | zero => exact absurd HA.out (by simp [product_Of.l0])
        | succ k3 =>
         have H := HA.out
         clear HA
         simp only [product_Of.l0] at H
         by_cases c54 : x48_3 < (t849.length : Int)
         ·rw [if_pos c54] at H
          have c54b0 : decide (x48_3 < (t849.length : Int)) = true := decide_eq_true c54
          clear c54
          by_cases c55 : 0 ≤ x48_3
          ·rw [if_pos c55] at H
           have c55b0 : decide (0 ≤ x48_3) = true := decide_eq_true c55
           clear c55
           by_cases c56 : x48_3 < (t849.length : Int)
           ·rw [if_pos c56] at H
            have c56b0 : decide (x48_3 < (t849.length : Int)) = true := decide_eq_true c56
            clear c56
            replace H := Option.bind_eq_some_iff.mp H
            obtain ⟨⟨t862, t865⟩, A570, H⟩ := H
            replace H : (if (wrap64 ((x853002_3.length : Int) + (wrap64 ((t862.length : Int) * (t865.length : Int))))) > 1000000 then (some (0, ([] : List ByteArray), ([] : List (S55)), 8)) else (product_Of.l1 k3 x48_3 t865 t849 (t849.length : Int) x48_3 t862 (t862.length : Int) 0 a0_0 l0_1 l0_2 a1_0 l1_1 l1_2 (wrap64 (a0_0 * a1_0)) t849 x853002_3)) = some (r1, r2, r3, r4) := H
            have A57 := Aside0.mk A570
            clear A570
            by_cases c58 : (wrap64 ((x853002_3.length : Int) + (wrap64 ((t862.length : Int) * (t865.length : Int))))) > 1000000
            ·rw [if_pos c58] at H
             have c58b0 : decide (1000000 < (wrap64 ((x853002_3.length : Int) + (wrap64 ((t862.length : Int) * (t865.length : Int)))))) = true := decide_eq_true c58
             clear c58
             simp only [Option.some.injEq, Prod.mk.injEq] at H
             obtain ⟨rfl, rfl, rfl, rfl⟩ := H
             have p861 : 0 ≤ (x48_3 : Int) := of_decide_eq_true (by first | (with_reducible assumption) | assumption)
             have q861 : x48_3 < (t849.length : Int) := of_decide_eq_true (by first | (with_reducible assumption) | assumption)
             obtain ⟨ad861, e861, hx861_0⟩ := Kd.at_string (Kd.R_reads' HO_46.out).2.2 x48_3 p861 q861
             cases e861
             replace p861 := eq_true p861
             replace q861 := eq_true q861
             have hnb59 := NB844_845.out
             have hnc59 := NB845_844.out
             have hnb60 := NB844_846.out
             have hnc60 := NB846_844.out
             have hnb61 := NB844_852.out
             have hnc61 := NB852_844.out
             have hcz62_0 : wr.cell? ⟨gb844, 0, none⟩ = some (.int .i64 a0_0) := (blk_cell BK844.out 0).trans rfl
             have hcz62_1 : wr.cell? ⟨gb844, 1, none⟩ = some (.slice A0_1 l0_1.length c0_1) := (blk_cell BK844.out 1).trans rfl
             have hcz62_2 : wr.cell? ⟨gb844, 2, none⟩ = some (.slice A0_2 l0_2.length c0_2) := (blk_cell BK844.out 2).trans rfl
             have hfz62_0 := blk_frozen BK844.out 0
             have hfz62_1 := blk_frozen BK844.out 1
             have hfz62_2 := blk_frozen BK844.out 2
             have hnb63 := NB845_846.out
             have hnc63 := NB846_845.out
             have hnb64 := NB845_852.out
             have hnc64 := NB852_845.out
             have hcz65_0 : wr.cell? ⟨gb845, 0, none⟩ = some (.int .i64 a1_0) := (blk_cell BK845.out 0).trans rfl
             have hcz65_1 : wr.cell? ⟨gb845, 1, none⟩ = some (.slice A1_1 l1_1.length c1_1) := (blk_cell BK845.out 1).trans rfl
             have hcz65_2 : wr.cell? ⟨gb845, 2, none⟩ = some (.slice A1_2 l1_2.length c1_2) := (blk_cell BK845.out 2).trans rfl
             have hfz65_0 := blk_frozen BK845.out 0
             have hfz65_1 := blk_frozen BK845.out 1
             have hfz65_2 := blk_frozen BK845.out 2
             go_wp2_with (first | ((with_reducible refine gate_callee (f := 122) rfl ?_); refine goesL_ (some 57) rfl rfl Try.func122 (by kernel_rfl) rfl #[.agg #[.int .i64 a0_0, .slice A0_1 l0_1.length c0_1, .slice A0_2 l0_2.length c0_2], .agg #[.int .i64 a1_0, .slice A1_1 l1_1.length c1_1, .slice A1_2 l1_2.length c1_2], .string (rdOf ByteArray.empty t849 x48_3)] rfl (by (try simp only [List.map_toArray, List.map_cons, List.map_nil]); first | done | rfl | (simp only [List.length_drop, List.length_take]; rfl)) ?_; (with_reducible refine (product_both.calls k3 a0_0 _ _ l0_1 _ _ l0_2 a1_0 _ _ l1_1 _ _ l1_2 (rdOf ByteArray.empty t849 x48_3) t862 t865 _ ?side1 ?side2 ?side3 ?side4 ?side5 ?side6 ?side7 ?side8 A57.out).mono ?_); (case side1 => repeat (first | exact (Kd.C_below HR0_1.out HB.out) | (with_reducible refine Kd.C_alloc ?_ _) | (with_reducible refine Kd.C_drewN ?_ _) | (with_reducible refine Kd.C_drew ?_))); (case side2 => exact HC0_1.out); (case side3 => repeat (first | exact (Kd.C_below HR0_2.out HB.out) | (with_reducible refine Kd.C_alloc ?_ _) | (with_reducible refine Kd.C_drewN ?_ _) | (with_reducible refine Kd.C_drew ?_))); (case side4 => exact HC0_2.out); (case side5 => repeat (first | exact (Kd.C_below HR1_1.out HB.out) | (with_reducible refine Kd.C_alloc ?_ _) | (with_reducible refine Kd.C_drewN ?_ _) | (with_reducible refine Kd.C_drew ?_))); (case side6 => exact HC1_1.out); (case side7 => repeat (first | exact (Kd.C_below HR1_2.out HB.out) | (with_reducible refine Kd.C_alloc ?_ _) | (with_reducible refine Kd.C_drewN ?_ _) | (with_reducible refine Kd.C_drew ?_))); (case side8 => exact HC1_2.out); rintro e w66 ⟨v863, v866, rfl, ho0, ho1, hb⟩; refine ⟨_, rfl, ?_⟩; have n0_ := Aside0.mk (Kd.R_below (by (with_reducible repeat (first | apply Kd.R_alloc | apply Kd.R_drewN | apply Kd.R_drew)); exact HO_46.out) hb); have n1_ := Aside0.mk (Kd.R_below (by (with_reducible repeat (first | apply Kd.R_alloc | apply Kd.R_drewN | apply Kd.R_drew)); exact HO_853001.out) hb); have n2_ := Aside0.mk (Kd.R_mono (Kd.R_told (Kd.R_told (Kd.R_old (by (with_reducible repeat (first | apply Kd.R_alloc | apply Kd.R_drewN | apply Kd.R_drew)); exact HO_853002.out) hb) (Kd.R_base ho0)) (Kd.R_base ho1)) (fun _ h_ => h_.1)); have n3_ := Aside0.mk (Kd.R_lower (Kd.R_new' ho0 (Kd.R_lt (by (with_reducible repeat (first | apply Kd.R_alloc | apply Kd.R_drewN | apply Kd.R_drew)); exact HO_853002.out))) (below_size (by repeat (first | (with_reducible first | exact HB.out | apply below_alloc | apply pw_below_drewN | apply below_drew1 | refine below_set ?_ GE844.out | refine below_set ?_ GE845.out | refine below_set ?_ GE846.out | refine below_set ?_ GE852.out) | exact HB.out)))); have n4_ := Aside0.mk (Kd.R_lower (Kd.R_new' ho1 (Kd.R_lt (by (with_reducible repeat (first | apply Kd.R_alloc | apply Kd.R_drewN | apply Kd.R_drew)); exact HO_853002.out))) (below_size (by repeat (first | (with_reducible first | exact HB.out | apply below_alloc | apply pw_below_drewN | apply below_drew1 | refine below_set ?_ GE844.out | refine below_set ?_ GE845.out | refine below_set ?_ GE846.out | refine below_set ?_ GE852.out) | exact HB.out)))); have n5_ := Aside0.mk (blk_below (g := gb844) (o := .cells #[.int .i64 a0_0, .slice A0_1 l0_1.length c0_1, .slice A0_2 l0_2.length c0_2] 25 (0, 0)) (by (with_reducible repeat (first | refine blk_drewN ?_ _ | refine blk_drew ?_ | refine blk_alloc ?_ _)); exact BK844.out) hb); have n6_ := Aside0.mk (blk_below (g := gb845) (o := .cells #[.int .i64 a1_0, .slice A1_1 l1_1.length c1_1, .slice A1_2 l1_2.length c1_2] 25 (0, 0)) (by (with_reducible repeat (first | refine blk_drewN ?_ _ | refine blk_drew ?_ | refine blk_alloc ?_ _)); exact BK845.out) hb); have n7_ := Aside0.mk (blk_below (g := gb846) (o := .cells #[.int .i64 x847000_3, .slice none 0 0, .slice none 0 0] 25 (0, 0)) (by (with_reducible repeat (first | refine blk_drewN ?_ _ | refine blk_drew ?_ | refine blk_alloc ?_ _)); exact BK846.out) hb); have n8_ := Aside0.mk (blk_below (g := gb852) (o := .cells #[.int .i64 (wrap64 (a0_0 * a1_0)), .slice (some ad861) t849.length co32, u853002] 25 (0, 0)) (by (with_reducible repeat (first | refine blk_drewN ?_ _ | refine blk_drew ?_ | refine blk_alloc ?_ _)); exact BK852.out) hb); have n9_ := Aside0.mk (below_step (by repeat (first | (with_reducible first | exact HB.out | apply below_alloc | apply pw_below_drewN | apply below_drew1 | refine below_set ?_ GE844.out | refine below_set ?_ GE845.out | refine below_set ?_ GE846.out | refine below_set ?_ GE852.out) | exact HB.out)) hb); clear HO_46; clear HO_853001; clear HO_853002; clear BK844; clear BK845; clear BK846; clear BK852; clear HB; have HO_46 := n0_; have HO_853001 := n1_; have HO_853002 := n2_; have HO864 := n3_; have HO867 := n4_; have BK844 := n5_; have BK845 := n6_; have BK846 := n7_; have BK852 := n8_; have HB := n9_; clear n0_ n1_ n2_ n3_ n4_ n5_ n6_ n7_ n8_ n9_; (try clear hb); (try clear hb2); (try clear hk); (try clear hi); (try clear ho0); (try clear ho1); have hnb67 := NB852_846.out; have hnc67 := NB846_852.out; have hcz68_0 : w66.cell? ⟨gb852, 0, none⟩ = some (.int .i64 (wrap64 (a0_0 * a1_0))) := (blk_cell BK852.out 0).trans rfl; have hcz68_1 : w66.cell? ⟨gb852, 1, none⟩ = some (.slice (some ad861) t849.length co32) := (blk_cell BK852.out 1).trans rfl; have hcz68_2 : w66.cell? ⟨gb852, 2, none⟩ = some (u853002) := (blk_cell BK852.out 2).trans rfl; have hfz68_0 := blk_frozen BK852.out 0; have hfz68_1 := blk_frozen BK852.out 1; have hfz68_2 := blk_frozen BK852.out 2; obtain ⟨Ao69, co69, eo69⟩ := Kd.R_slice HO_853002.out; subst eo69; obtain ⟨Ao70, co70, eo70⟩ := Kd.R_slice HO864.out; subst eo70; obtain ⟨Ao71, co71, eo71⟩ := Kd.R_slice HO867.out; subst eo71; have hcz72_0 : w66.cell? ⟨gb846, 0, none⟩ = some (.int .i64 x847000_3) := (blk_cell BK846.out 0).trans rfl; have hcz72_1 : w66.cell? ⟨gb846, 1, none⟩ = some (.slice none 0 0) := (blk_cell BK846.out 1).trans rfl; have hcz72_2 : w66.cell? ⟨gb846, 2, none⟩ = some (.slice none 0 0) := (blk_cell BK846.out 2).trans rfl; have hfz72_0 := blk_frozen BK846.out 0; have hfz72_1 := blk_frozen BK846.out 1; have hfz72_2 := blk_frozen BK846.out 2))
             refine bodyPost_ret (results_ct rfl _ _ gb846 25 #[.int .i64 0, .slice none 0 0, .slice none 0 0] (0, 0) _ rfl (by (with_reducible repeat (first | refine blk_drewN ?_ _ | refine blk_drew ?_ | refine blk_alloc ?_ _)); refine blk_put (cs := #[.int .i64 0, .slice none 0 0, .slice none 0 0]) ?_ 2 _ rfl; (with_reducible repeat (first | refine blk_drewN ?_ _ | refine blk_drew ?_ | refine blk_alloc ?_ _)); refine blk_put (cs := #[.int .i64 0, .slice none 0 0, .slice none 0 0]) ?_ 1 _ rfl; (with_reducible repeat (first | refine blk_drewN ?_ _ | refine blk_drew ?_ | refine blk_alloc ?_ _)); refine blk_put (cs := #[.int .i64 x847000_3, .slice none 0 0, .slice none 0 0]) ?_ 0 _ rfl; (with_reducible repeat (first | refine blk_drewN ?_ _ | refine blk_drew ?_ | refine blk_alloc ?_ _)); exact BK846.out) Try.underlying25 rfl (by kernel_rfl)) rfl ?_
             exact ⟨_, _, by first | rfl | (simp [errW_none, errW_some] <;> rfl) | (simp [*, errW_none, errW_some] <;> rfl), by first | exact Kd.R_nil _ _ _ _ _ | exact Kd.N_nil _ _ _ _ _ | exact Kd.V_nil _ _ _ _ _ | exact Kd.Q_nil _ _ _ _ _ | exact Kd.S_nil _ _ _ _ _, by first | exact Kd.R_nil _ _ _ _ _ | exact Kd.N_nil _ _ _ _ _ | exact Kd.V_nil _ _ _ _ _ | exact Kd.Q_nil _ _ _ _ _ | exact Kd.S_nil _ _ _ _ _, by repeat (first | (with_reducible first | exact HB.out | apply below_alloc | apply pw_below_drewN | apply below_drew1 | refine below_set ?_ GE844.out | refine below_set ?_ GE845.out | refine below_set ?_ GE846.out | refine below_set ?_ GE852.out) | exact HB.out)⟩
            ·rw [if_neg c58] at H
             have c58b0 : decide (1000000 < (wrap64 ((x853002_3.length : Int) + (wrap64 ((t862.length : Int) * (t865.length : Int)))))) = false := decide_eq_false c58
             clear c58
             have H' := Aside0.mk H
             clear H
             have p861 : 0 ≤ (x48_3 : Int) := of_decide_eq_true (by first | (with_reducible assumption) | assumption)
             have q861 : x48_3 < (t849.length : Int) := of_decide_eq_true (by first | (with_reducible assumption) | assumption)
             obtain ⟨ad861, e861, hx861_0⟩ := Kd.at_string (Kd.R_reads' HO_46.out).2.2 x48_3 p861 q861
             cases e861
             replace p861 := eq_true p861
             replace q861 := eq_true q861
             have hnb73 := NB844_845.out
             have hnc73 := NB845_844.out
             have hnb74 := NB844_846.out
             have hnc74 := NB846_844.out
             have hnb75 := NB844_852.out
             have hnc75 := NB852_844.out
             have hcz76_0 : wr.cell? ⟨gb844, 0, none⟩ = some (.int .i64 a0_0) := (blk_cell BK844.out 0).trans rfl
             have hcz76_1 : wr.cell? ⟨gb844, 1, none⟩ = some (.slice A0_1 l0_1.length c0_1) := (blk_cell BK844.out 1).trans rfl
             have hcz76_2 : wr.cell? ⟨gb844, 2, none⟩ = some (.slice A0_2 l0_2.length c0_2) := (blk_cell BK844.out 2).trans rfl
             have hfz76_0 := blk_frozen BK844.out 0
             have hfz76_1 := blk_frozen BK844.out 1
             have hfz76_2 := blk_frozen BK844.out 2
             have hnb77 := NB845_846.out
             have hnc77 := NB846_845.out
             have hnb78 := NB845_852.out
             have hnc78 := NB852_845.out
             have hcz79_0 : wr.cell? ⟨gb845, 0, none⟩ = some (.int .i64 a1_0) := (blk_cell BK845.out 0).trans rfl
             have hcz79_1 : wr.cell? ⟨gb845, 1, none⟩ = some (.slice A1_1 l1_1.length c1_1) := (blk_cell BK845.out 1).trans rfl
             have hcz79_2 : wr.cell? ⟨gb845, 2, none⟩ = some (.slice A1_2 l1_2.length c1_2) := (blk_cell BK845.out 2).trans rfl
             have hfz79_0 := blk_frozen BK845.out 0
             have hfz79_1 := blk_frozen BK845.out 1
             have hfz79_2 := blk_frozen BK845.out 2
             go_wp2_with (first | ((with_reducible refine gate_callee (f := 122) rfl ?_); refine goesL_ (some 57) rfl rfl Try.func122 (by kernel_rfl) rfl #[.agg #[.int .i64 a0_0, .slice A0_1 l0_1.length c0_1, .slice A0_2 l0_2.length c0_2], .agg #[.int .i64 a1_0, .slice A1_1 l1_1.length c1_1, .slice A1_2 l1_2.length c1_2], .string (rdOf ByteArray.empty t849 x48_3)] rfl (by (try simp only [List.map_toArray, List.map_cons, List.map_nil]); first | done | rfl | (simp only [List.length_drop, List.length_take]; rfl)) ?_; (with_reducible refine (product_both.calls k3 a0_0 _ _ l0_1 _ _ l0_2 a1_0 _ _ l1_1 _ _ l1_2 (rdOf ByteArray.empty t849 x48_3) t862 t865 _ ?side1 ?side2 ?side3 ?side4 ?side5 ?side6 ?side7 ?side8 A57.out).mono ?_); (case side1 => repeat (first | exact (Kd.C_below HR0_1.out HB.out) | (with_reducible refine Kd.C_alloc ?_ _) | (with_reducible refine Kd.C_drewN ?_ _) | (with_reducible refine Kd.C_drew ?_))); (case side2 => exact HC0_1.out); (case side3 => repeat (first | exact (Kd.C_below HR0_2.out HB.out) | (with_reducible refine Kd.C_alloc ?_ _) | (with_reducible refine Kd.C_drewN ?_ _) | (with_reducible refine Kd.C_drew ?_))); (case side4 => exact HC0_2.out); (case side5 => repeat (first | exact (Kd.C_below HR1_1.out HB.out) | (with_reducible refine Kd.C_alloc ?_ _) | (with_reducible refine Kd.C_drewN ?_ _) | (with_reducible refine Kd.C_drew ?_))); (case side6 => exact HC1_1.out); (case side7 => repeat (first | exact (Kd.C_below HR1_2.out HB.out) | (with_reducible refine Kd.C_alloc ?_ _) | (with_reducible refine Kd.C_drewN ?_ _) | (with_reducible refine Kd.C_drew ?_))); (case side8 => exact HC1_2.out); rintro e w80 ⟨v863, v866, rfl, ho0, ho1, hb⟩; refine ⟨_, rfl, ?_⟩; have n0_ := Aside0.mk (Kd.R_below (by (with_reducible repeat (first | apply Kd.R_alloc | apply Kd.R_drewN | apply Kd.R_drew)); exact HO_46.out) hb); have n1_ := Aside0.mk (Kd.R_below (by (with_reducible repeat (first | apply Kd.R_alloc | apply Kd.R_drewN | apply Kd.R_drew)); exact HO_853001.out) hb); have n2_ := Aside0.mk (Kd.R_mono (Kd.R_told (Kd.R_told (Kd.R_old (by (with_reducible repeat (first | apply Kd.R_alloc | apply Kd.R_drewN | apply Kd.R_drew)); exact HO_853002.out) hb) (Kd.R_base ho0)) (Kd.R_base ho1)) (fun _ h_ => h_.1)); have n3_ := Aside0.mk (Kd.R_lower (Kd.R_new' ho0 (Kd.R_lt (by (with_reducible repeat (first | apply Kd.R_alloc | apply Kd.R_drewN | apply Kd.R_drew)); exact HO_853002.out))) (below_size (by repeat (first | (with_reducible first | exact HB.out | apply below_alloc | apply pw_below_drewN | apply below_drew1 | refine below_set ?_ GE844.out | refine below_set ?_ GE845.out | refine below_set ?_ GE846.out | refine below_set ?_ GE852.out) | exact HB.out)))); have n4_ := Aside0.mk (Kd.R_lower (Kd.R_new' ho1 (Kd.R_lt (by (with_reducible repeat (first | apply Kd.R_alloc | apply Kd.R_drewN | apply Kd.R_drew)); exact HO_853002.out))) (below_size (by repeat (first | (with_reducible first | exact HB.out | apply below_alloc | apply pw_below_drewN | apply below_drew1 | refine below_set ?_ GE844.out | refine below_set ?_ GE845.out | refine below_set ?_ GE846.out | refine below_set ?_ GE852.out) | exact HB.out)))); have n5_ := Aside0.mk (blk_below (g := gb844) (o := .cells #[.int .i64 a0_0, .slice A0_1 l0_1.length c0_1, .slice A0_2 l0_2.length c0_2] 25 (0, 0)) (by (with_reducible repeat (first | refine blk_drewN ?_ _ | refine blk_drew ?_ | refine blk_alloc ?_ _)); exact BK844.out) hb); have n6_ := Aside0.mk (blk_below (g := gb845) (o := .cells #[.int .i64 a1_0, .slice A1_1 l1_1.length c1_1, .slice A1_2 l1_2.length c1_2] 25 (0, 0)) (by (with_reducible repeat (first | refine blk_drewN ?_ _ | refine blk_drew ?_ | refine blk_alloc ?_ _)); exact BK845.out) hb); have n7_ := Aside0.mk (blk_below (g := gb846) (o := .cells #[.int .i64 x847000_3, .slice none 0 0, .slice none 0 0] 25 (0, 0)) (by (with_reducible repeat (first | refine blk_drewN ?_ _ | refine blk_drew ?_ | refine blk_alloc ?_ _)); exact BK846.out) hb); have n8_ := Aside0.mk (blk_below (g := gb852) (o := .cells #[.int .i64 (wrap64 (a0_0 * a1_0)), .slice (some ad861) t849.length co32, u853002] 25 (0, 0)) (by (with_reducible repeat (first | refine blk_drewN ?_ _ | refine blk_drew ?_ | refine blk_alloc ?_ _)); exact BK852.out) hb); have n9_ := Aside0.mk (below_step (by repeat (first | (with_reducible first | exact HB.out | apply below_alloc | apply pw_below_drewN | apply below_drew1 | refine below_set ?_ GE844.out | refine below_set ?_ GE845.out | refine below_set ?_ GE846.out | refine below_set ?_ GE852.out) | exact HB.out)) hb); clear HO_46; clear HO_853001; clear HO_853002; clear BK844; clear BK845; clear BK846; clear BK852; clear HB; have HO_46 := n0_; have HO_853001 := n1_; have HO_853002 := n2_; have HO864 := n3_; have HO867 := n4_; have BK844 := n5_; have BK845 := n6_; have BK846 := n7_; have BK852 := n8_; have HB := n9_; clear n0_ n1_ n2_ n3_ n4_ n5_ n6_ n7_ n8_ n9_; (try clear hb); (try clear hb2); (try clear hk); (try clear hi); (try clear ho0); (try clear ho1); have hnb81 := NB852_846.out; have hnc81 := NB846_852.out; have hcz82_0 : w80.cell? ⟨gb852, 0, none⟩ = some (.int .i64 (wrap64 (a0_0 * a1_0))) := (blk_cell BK852.out 0).trans rfl; have hcz82_1 : w80.cell? ⟨gb852, 1, none⟩ = some (.slice (some ad861) t849.length co32) := (blk_cell BK852.out 1).trans rfl; have hcz82_2 : w80.cell? ⟨gb852, 2, none⟩ = some (u853002) := (blk_cell BK852.out 2).trans rfl; have hfz82_0 := blk_frozen BK852.out 0; have hfz82_1 := blk_frozen BK852.out 1; have hfz82_2 := blk_frozen BK852.out 2; obtain ⟨Ao83, co83, eo83⟩ := Kd.R_slice HO_853002.out; subst eo83; obtain ⟨Ao84, co84, eo84⟩ := Kd.R_slice HO864.out; subst eo84; obtain ⟨Ao85, co85, eo85⟩ := Kd.R_slice HO867.out; subst eo85))
             go_loopg [73] k3 (fun kq v73 w' => ∃ (x73_4 : Int) (x853002_4 : List (S55)) (u853002 : Value), v73 = .int .i64 x73_4 ∧ Aside0 (product_Of.l1 kq x48_3 t865 t849 (t849.length : Int) x48_3 t862 (t862.length : Int) x73_4 a0_0 l0_1 l0_2 a1_0 l1_1 l1_2 (wrap64 (a0_0 * a1_0)) t849 x853002_4 = some (r1, r2, r3, r4)) ∧ Aside0 (kq ≤ k3) ∧ Aside0 (Kd.R k55 55 w' w.heap.size (fun k_ => some k_ ≠ ((.slice Ao84 t862.length co84) : Value).ownBlock ∧ some k_ ≠ (u853002 : Value).ownBlock) (.slice Ao85 t865.length co85) t865) ∧ Aside0 (Kd.R Kd.string 9 w' w.heap.size (fun _ => True) (.slice (some ad861) t849.length co32) t849) ∧ Aside0 (Kd.R k55 55 w' w.heap.size (fun k_ => some k_ ≠ ((.slice Ao85 t865.length co85) : Value).ownBlock ∧ some k_ ≠ (u853002 : Value).ownBlock) (.slice Ao84 t862.length co84) t862) ∧ Aside0 (Kd.R Kd.string 9 w' w.heap.size (fun _ => True) (.slice (some ad861) t849.length co32) t849) ∧ Aside0 (Kd.R k55 55 w' w.heap.size (fun k_ => some k_ ≠ ((.slice Ao85 t865.length co85) : Value).ownBlock ∧ some k_ ≠ ((.slice Ao84 t862.length co84) : Value).ownBlock) u853002 x853002_4) ∧ Aside0 (w'.heap[gb844]? = some (.cells #[.int .i64 a0_0, (.slice A0_1 l0_1.length c0_1), (.slice A0_2 l0_2.length c0_2)] 25 (0, 0))) ∧ Aside0 (w'.heap[gb845]? = some (.cells #[.int .i64 a1_0, (.slice A1_1 l1_1.length c1_1), (.slice A1_2 l1_2.length c1_2)] 25 (0, 0))) ∧ Aside0 (w'.heap[gb846]? = some (.cells #[.int .i64 x847000_3, (.slice none 0 0), (.slice none 0 0)] 25 (0, 0))) ∧ Aside0 (w'.heap[gb852]? = some (.cells #[.int .i64 (wrap64 (a0_0 * a1_0)), (.slice (some ad861) t849.length co32), u853002] 25 (0, 0))) ∧ Aside0 (Below w.heap.size w w'))
             case atStart => exact ⟨(0), (x853002_3), (.slice Ao83 x853002_3.length co83), (by first | rfl | (simp; done) | (simp [*]; done)), H', ⟨Nat.le_refl _⟩, ⟨by (with_reducible repeat (first | apply Kd.R_alloc | apply Kd.R_drewN | apply Kd.R_drew)); exact HO867.out⟩, ⟨by (with_reducible repeat (first | apply Kd.R_alloc | apply Kd.R_drewN | apply Kd.R_drew)); exact HO_46.out⟩, ⟨by (with_reducible repeat (first | apply Kd.R_alloc | apply Kd.R_drewN | apply Kd.R_drew)); exact HO864.out⟩, ⟨by (with_reducible repeat (first | apply Kd.R_alloc | apply Kd.R_drewN | apply Kd.R_drew)); exact HO_853001.out⟩, ⟨by (with_reducible repeat (first | apply Kd.R_alloc | apply Kd.R_drewN | apply Kd.R_drew)); exact Kd.R_mono HO_853002.out (fun _ hk => ⟨hk.2, hk.1.2⟩)⟩, ⟨by (with_reducible repeat (first | refine blk_drewN ?_ _ | refine blk_drew ?_ | refine blk_alloc ?_ _)); exact BK844.out⟩, ⟨by (with_reducible repeat (first | refine blk_drewN ?_ _ | refine blk_drew ?_ | refine blk_alloc ?_ _)); exact BK845.out⟩, ⟨by (with_reducible repeat (first | refine blk_drewN ?_ _ | refine blk_drew ?_ | refine blk_alloc ?_ _)); exact BK846.out⟩, ⟨by (with_reducible repeat (first | refine blk_drewN ?_ _ | refine blk_drew ?_ | refine blk_alloc ?_ _)); exact BK852.out⟩, ⟨by repeat (first | (with_reducible first | exact HB.out | apply below_alloc | apply pw_below_drewN | apply below_drew1 | refine below_set ?_ GE844.out | refine below_set ?_ GE845.out | refine below_set ?_ GE846.out | refine below_set ?_ GE852.out) | exact HB.out)⟩⟩
             case round =>
              clear H'
              try clear c1
              try clear c2
              try clear p2
              try clear c3
              try clear c4
              try clear c5
              try clear c6
              try clear p6
              try clear c7
              try clear c8
              try clear c8b0
              try clear c8b1
              try clear p8
              try clear q8
              try clear hx8
              try clear c10
              try clear c11
              try clear c12
              try clear c14
              try clear c17
              try clear c18
              try clear c21
              try clear c22
              try clear c23
              try clear c36
              try clear c36b0
              try clear c37
              try clear c38
              try clear c39
              try clear c41
              try clear c42
              try clear c43
              try clear c45
              try clear c46
              try clear c47
              try clear c48
              try clear c50
              try clear c51
              try clear c52
              try clear c54
              try clear c54b0
              try clear c55
              try clear c55b0
              try clear c56
              try clear c56b0
              try clear c58
              try clear c58b0
              try clear c59
              try clear c60
              try clear c61
              try clear c63
              try clear c64
              try clear p64
              try clear c67
              try clear c73
              try clear c74
              try clear c75
              try clear c77
              try clear c78
              try clear c81
              try clear hcz12_0
              try clear hcz12_1
              try clear hcz12_2
              try clear hcz15_0
              try clear hcz15_1
              try clear hcz15_2
              try clear hcz19_0
              try clear hcz19_1
              try clear hcz19_2
              try clear hcz24_0
              try clear hcz24_1
              try clear hcz24_2
              try clear hcz40_0
              try clear hcz40_1
              try clear hcz40_2
              try clear hcz44_0
              try clear hcz44_1
              try clear hcz44_2
              try clear hcz49_0
              try clear hcz49_1
              try clear hcz49_2
              try clear hcz53_0
              try clear hcz53_1
              try clear hcz53_2
              try clear hcz62_0
              try clear hcz62_1
              try clear hcz62_2
              try clear hcz65_0
              try clear hcz65_1
              try clear hcz65_2
              try clear hcz68_0
              try clear hcz68_1
              try clear hcz68_2
              try clear hcz72_0
              try clear hcz72_1
              try clear hcz72_2
              try clear hcz76_0
              try clear hcz76_1
              try clear hcz76_2
              try clear hcz79_0
              try clear hcz79_1
              try clear hcz79_2
              try clear hcz82_0
              try clear hcz82_1
              try clear hcz82_2
              try clear hfz12_0
              try clear hfz12_1
              try clear hfz12_2
              try clear hfz15_0
              try clear hfz15_1
              try clear hfz15_2
              try clear hfz19_0
              try clear hfz19_1
              try clear hfz19_2
              try clear hfz24_0
              try clear hfz24_1
              try clear hfz24_2
              try clear hfz40_0
              try clear hfz40_1
              try clear hfz40_2
              try clear hfz44_0
              try clear hfz44_1
              try clear hfz44_2
              try clear hfz49_0
              try clear hfz49_1
              try clear hfz49_2
              try clear hfz53_0
              try clear hfz53_1
              try clear hfz53_2
              try clear hfz62_0
              try clear hfz62_1
              try clear hfz62_2
              try clear hfz65_0
              try clear hfz65_1
              try clear hfz65_2
              try clear hfz68_0
              try clear hfz68_1
              try clear hfz68_2
              try clear hfz72_0
              try clear hfz72_1
              try clear hfz72_2
              try clear hfz76_0
              try clear hfz76_1
              try clear hfz76_2
              try clear hfz79_0
              try clear hfz79_1
              try clear hfz79_2
              try clear hfz82_0
              try clear hfz82_1
              try clear hfz82_2
              try clear hx861_0
              try clear p2
              try clear p6
              try clear p861
              try clear q861
              obtain ⟨x73_4, x853002_4, u853002, rfl, HA, HK4, HO_10, HO_46, HO_71, HO_853001, HO_853002, BK844, BK845, BK846, BK852, HB⟩ := hrel
              cases gk with
              | zero => exact absurd HA.out (by simp [product_Of.l1])
              | succ k4 =>
               have H := HA.out
               clear HA
               simp only [product_Of.l1] at H
               by_cases c86 : x73_4 < (t862.length : Int)
               ·rw [if_pos c86] at H
                have c86b0 : decide (x73_4 < (t862.length : Int)) = true := decide_eq_true c86
                clear c86
                by_cases c87 : 0 ≤ x73_4
                ·rw [if_pos c87] at H
                 have c87b0 : decide (0 ≤ x73_4) = true := decide_eq_true c87
                 clear c87
                 by_cases c88 : x73_4 < (t862.length : Int)
                 ·rw [if_pos c88] at H
                  have c88b0 : decide (x73_4 < (t862.length : Int)) = true := decide_eq_true c88
                  clear c88
                  have H' := Aside0.mk H
                  clear H
                  have p868 : 0 ≤ (x73_4 : Int) := of_decide_eq_true (by first | (with_reducible assumption) | assumption)
                  have q868 : x73_4 < (t862.length : Int) := of_decide_eq_true (by first | (with_reducible assumption) | assumption)
                  obtain ⟨ad868, e868, hx868_0, hx868_1, hx868_2⟩ := at_T55 (Kd.R_reads' HO_71.out).2.2 x73_4 p868 q868
                  cases e868
                  replace p868 := eq_true p868
                  replace q868 := eq_true q868
                  go_wp2_with (first | ((with_reducible refine gate_dst (N := 12) rfl ?_); (try (refine gate_guard (by rfl) ?_; dsimp only)); refine box_event ?hg (N := 12) ?hd (cs := #[.int .i64 0, .int .i64 0, .int .i64 0]) (t := 55) ?hr ?_; (case hd => rfl); (case hg => rfl); (case hr => first | (go_simp; done) | (go_simp; rfl)); intro gb869 hg w89 hbox hb; have n0_ := Aside0.mk (Kd.R_below (Kd.R_elderB (by (with_reducible repeat (first | apply Kd.R_alloc | apply Kd.R_drewN | apply Kd.R_drew)); exact HO_10.out) gb869 (Nat.le_of_eq hg.symm)) hb); have n1_ := Aside0.mk (Kd.R_below (by (with_reducible repeat (first | apply Kd.R_alloc | apply Kd.R_drewN | apply Kd.R_drew)); exact HO_46.out) hb); have n2_ := Aside0.mk (Kd.R_below (Kd.R_elderB (by (with_reducible repeat (first | apply Kd.R_alloc | apply Kd.R_drewN | apply Kd.R_drew)); exact HO_71.out) gb869 (Nat.le_of_eq hg.symm)) hb); have n3_ := Aside0.mk (Kd.R_below (by (with_reducible repeat (first | apply Kd.R_alloc | apply Kd.R_drewN | apply Kd.R_drew)); exact HO_853001.out) hb); have n4_ := Aside0.mk (Kd.R_below (Kd.R_elderB (by (with_reducible repeat (first | apply Kd.R_alloc | apply Kd.R_drewN | apply Kd.R_drew)); exact HO_853002.out) gb869 (Nat.le_of_eq hg.symm)) hb); have n5_ := Aside0.mk (blk_below (g := gb844) (o := .cells #[.int .i64 a0_0, .slice A0_1 l0_1.length c0_1, .slice A0_2 l0_2.length c0_2] 25 (0, 0)) (by (with_reducible repeat (first | refine blk_drewN ?_ _ | refine blk_drew ?_ | refine blk_alloc ?_ _)); exact BK844.out) hb); have n6_ := Aside0.mk (blk_below (g := gb845) (o := .cells #[.int .i64 a1_0, .slice A1_1 l1_1.length c1_1, .slice A1_2 l1_2.length c1_2] 25 (0, 0)) (by (with_reducible repeat (first | refine blk_drewN ?_ _ | refine blk_drew ?_ | refine blk_alloc ?_ _)); exact BK845.out) hb); have n7_ := Aside0.mk (blk_below (g := gb846) (o := .cells #[.int .i64 x847000_3, .slice none 0 0, .slice none 0 0] 25 (0, 0)) (by (with_reducible repeat (first | refine blk_drewN ?_ _ | refine blk_drew ?_ | refine blk_alloc ?_ _)); exact BK846.out) hb); have n8_ := Aside0.mk (blk_below (g := gb852) (o := .cells #[.int .i64 (wrap64 (a0_0 * a1_0)), .slice (some ad861) t849.length co32, u853002] 25 (0, 0)) (by (with_reducible repeat (first | refine blk_drewN ?_ _ | refine blk_drew ?_ | refine blk_alloc ?_ _)); exact BK852.out) hb); have n9_ := Aside0.mk (below_step (by repeat (first | (with_reducible first | exact HB.out | apply below_alloc | apply pw_below_drewN | apply below_drew1 | refine below_set ?_ GE844.out | refine below_set ?_ GE845.out | refine below_set ?_ GE846.out | refine below_set ?_ GE852.out) | exact HB.out)) hb); have n10_ := Aside0.mk (hbox); have n11_ := Aside0.mk ((by rw [hg]; exact (below_size (by repeat (first | (with_reducible first | exact HB.out | apply below_alloc | apply pw_below_drewN | apply below_drew1 | refine below_set ?_ GE844.out | refine below_set ?_ GE845.out | refine below_set ?_ GE846.out | refine below_set ?_ GE852.out) | exact HB.out))) : w.heap.size ≤ gb869)); have n12_ := Aside0.mk ((by rw [hg]; exact (below_size (by repeat (first | (with_reducible first | exact HB.out | apply below_alloc | apply pw_below_drewN | apply below_drew1 | refine below_set ?_ GE844.out | refine below_set ?_ GE845.out | refine below_set ?_ GE846.out | refine below_set ?_ GE852.out) | exact HB.out))) : w.heap.size ≤ gb869)); have n13_ := Aside0.mk ((by rw [hg]; exact Nat.ne_of_lt (blk_lt (g := gb844) (o := .cells #[.int .i64 a0_0, .slice A0_1 l0_1.length c0_1, .slice A0_2 l0_2.length c0_2] 25 (0, 0)) (by (with_reducible repeat (first | refine blk_drewN ?_ _ | refine blk_drew ?_ | refine blk_alloc ?_ _)); exact BK844.out)) : gb844 ≠ gb869)); have n14_ := Aside0.mk ((by rw [hg]; exact Nat.ne_of_gt (blk_lt (g := gb844) (o := .cells #[.int .i64 a0_0, .slice A0_1 l0_1.length c0_1, .slice A0_2 l0_2.length c0_2] 25 (0, 0)) (by (with_reducible repeat (first | refine blk_drewN ?_ _ | refine blk_drew ?_ | refine blk_alloc ?_ _)); exact BK844.out)) : gb869 ≠ gb844)); have n15_ := Aside0.mk ((by rw [hg]; exact Nat.ne_of_lt (blk_lt (g := gb845) (o := .cells #[.int .i64 a1_0, .slice A1_1 l1_1.length c1_1, .slice A1_2 l1_2.length c1_2] 25 (0, 0)) (by (with_reducible repeat (first | refine blk_drewN ?_ _ | refine blk_drew ?_ | refine blk_alloc ?_ _)); exact BK845.out)) : gb845 ≠ gb869)); have n16_ := Aside0.mk ((by rw [hg]; exact Nat.ne_of_gt (blk_lt (g := gb845) (o := .cells #[.int .i64 a1_0, .slice A1_1 l1_1.length c1_1, .slice A1_2 l1_2.length c1_2] 25 (0, 0)) (by (with_reducible repeat (first | refine blk_drewN ?_ _ | refine blk_drew ?_ | refine blk_alloc ?_ _)); exact BK845.out)) : gb869 ≠ gb845)); have n17_ := Aside0.mk ((by rw [hg]; exact Nat.ne_of_lt (blk_lt (g := gb846) (o := .cells #[.int .i64 x847000_3, .slice none 0 0, .slice none 0 0] 25 (0, 0)) (by (with_reducible repeat (first | refine blk_drewN ?_ _ | refine blk_drew ?_ | refine blk_alloc ?_ _)); exact BK846.out)) : gb846 ≠ gb869)); have n18_ := Aside0.mk ((by rw [hg]; exact Nat.ne_of_gt (blk_lt (g := gb846) (o := .cells #[.int .i64 x847000_3, .slice none 0 0, .slice none 0 0] 25 (0, 0)) (by (with_reducible repeat (first | refine blk_drewN ?_ _ | refine blk_drew ?_ | refine blk_alloc ?_ _)); exact BK846.out)) : gb869 ≠ gb846)); have n19_ := Aside0.mk ((by rw [hg]; exact Nat.ne_of_lt (blk_lt (g := gb852) (o := .cells #[.int .i64 (wrap64 (a0_0 * a1_0)), .slice (some ad861) t849.length co32, u853002] 25 (0, 0)) (by (with_reducible repeat (first | refine blk_drewN ?_ _ | refine blk_drew ?_ | refine blk_alloc ?_ _)); exact BK852.out)) : gb852 ≠ gb869)); have n20_ := Aside0.mk ((by rw [hg]; exact Nat.ne_of_gt (blk_lt (g := gb852) (o := .cells #[.int .i64 (wrap64 (a0_0 * a1_0)), .slice (some ad861) t849.length co32, u853002] 25 (0, 0)) (by (with_reducible repeat (first | refine blk_drewN ?_ _ | refine blk_drew ?_ | refine blk_alloc ?_ _)); exact BK852.out)) : gb869 ≠ gb852)); clear HO_10; clear HO_46; clear HO_71; clear HO_853001; clear HO_853002; clear BK844; clear BK845; clear BK846; clear BK852; clear HB; have HO_10 := n0_; have HO_46 := n1_; have HO_71 := n2_; have HO_853001 := n3_; have HO_853002 := n4_; have BK844 := n5_; have BK845 := n6_; have BK846 := n7_; have BK852 := n8_; have HB := n9_; have BK869 := n10_; have GW869 := n11_; have GE869 := n12_; have NB844_869 := n13_; have NB869_844 := n14_; have NB845_869 := n15_; have NB869_845 := n16_; have NB846_869 := n17_; have NB869_846 := n18_; have NB852_869 := n19_; have NB869_852 := n20_; clear n0_ n1_ n2_ n3_ n4_ n5_ n6_ n7_ n8_ n9_ n10_ n11_ n12_ n13_ n14_ n15_ n16_ n17_ n18_ n19_ n20_; clear hb hbox hg; have hnb90 := NB869_844.out; have hnc90 := NB844_869.out; have hnb91 := NB869_845.out; have hnc91 := NB845_869.out; have hnb92 := NB869_846.out; have hnc92 := NB846_869.out; have hnb93 := NB869_852.out; have hnc93 := NB852_869.out; have hcz94_0 : w89.cell? ⟨gb869, 0, none⟩ = some (.int .i64 0) := (blk_cell BK869.out 0).trans rfl; have hcz94_1 : w89.cell? ⟨gb869, 1, none⟩ = some (.int .i64 0) := (blk_cell BK869.out 1).trans rfl; have hcz94_2 : w89.cell? ⟨gb869, 2, none⟩ = some (.int .i64 0) := (blk_cell BK869.out 2).trans rfl; have hfz94_0 := blk_frozen BK869.out 0; have hfz94_1 := blk_frozen BK869.out 1; have hfz94_2 := blk_frozen BK869.out 2))
                  go_loopg [79] k4 (fun kq v79 w' => ∃ (x79_5 : Int) (x853002_5 : List (S55)) (u853002 : Value), v79 = .int .i64 x79_5 ∧ Aside0 (product_Of.l2 kq x48_3 t865 t849 (t849.length : Int) x48_3 t862 (t862.length : Int) x73_4 t865 (t865.length : Int) x79_5 a0_0 l0_1 l0_2 a1_0 l1_1 l1_2 (wrap64 (a0_0 * a1_0)) t849 x853002_5 ((rd_T55 t862 x73_4).f0) ((rd_T55 t862 x73_4).f1) ((rd_T55 t862 x73_4).f2) = some (r1, r2, r3, r4)) ∧ Aside0 (kq ≤ k4) ∧ Aside0 (Kd.R k55 55 w' w.heap.size (fun k_ => some k_ ≠ ((.slice (some ad868) t862.length co84) : Value).ownBlock ∧ some k_ ≠ (u853002 : Value).ownBlock ∧ k_ ≠ gb869) (.slice Ao85 t865.length co85) t865) ∧ Aside0 (Kd.R Kd.string 9 w' w.heap.size (fun _ => True) (.slice (some ad861) t849.length co32) t849) ∧ Aside0 (Kd.R k55 55 w' w.heap.size (fun k_ => some k_ ≠ ((.slice Ao85 t865.length co85) : Value).ownBlock ∧ some k_ ≠ ((.slice Ao85 t865.length co85) : Value).ownBlock ∧ some k_ ≠ (u853002 : Value).ownBlock ∧ k_ ≠ gb869) (.slice (some ad868) t862.length co84) t862) ∧ Aside0 (Kd.R k55 55 w' w.heap.size (fun k_ => some k_ ≠ ((.slice (some ad868) t862.length co84) : Value).ownBlock ∧ some k_ ≠ (u853002 : Value).ownBlock ∧ k_ ≠ gb869) (.slice Ao85 t865.length co85) t865) ∧ Aside0 (Kd.R Kd.string 9 w' w.heap.size (fun _ => True) (.slice (some ad861) t849.length co32) t849) ∧ Aside0 (Kd.R k55 55 w' w.heap.size (fun k_ => some k_ ≠ ((.slice Ao85 t865.length co85) : Value).ownBlock ∧ some k_ ≠ ((.slice (some ad868) t862.length co84) : Value).ownBlock ∧ some k_ ≠ ((.slice Ao85 t865.length co85) : Value).ownBlock ∧ k_ ≠ gb869) u853002 x853002_5) ∧ Aside0 (w'.heap[gb844]? = some (.cells #[.int .i64 a0_0, (.slice A0_1 l0_1.length c0_1), (.slice A0_2 l0_2.length c0_2)] 25 (0, 0))) ∧ Aside0 (w'.heap[gb845]? = some (.cells #[.int .i64 a1_0, (.slice A1_1 l1_1.length c1_1), (.slice A1_2 l1_2.length c1_2)] 25 (0, 0))) ∧ Aside0 (w'.heap[gb846]? = some (.cells #[.int .i64 x847000_3, (.slice none 0 0), (.slice none 0 0)] 25 (0, 0))) ∧ Aside0 (w'.heap[gb852]? = some (.cells #[.int .i64 (wrap64 (a0_0 * a1_0)), (.slice (some ad861) t849.length co32), u853002] 25 (0, 0))) ∧ Aside0 (w'.heap[gb869]? = some (.cells #[.int .i64 ((rd_T55 t862 x73_4).f0), .int .i64 ((rd_T55 t862 x73_4).f1), .int .i64 ((rd_T55 t862 x73_4).f2)] 55 (0, 0))) ∧ Aside0 (Below w.heap.size w w'))
                  case atStart => exact ⟨(0), (x853002_4), (u853002), (by first | rfl | (simp; done) | (simp [*]; done)), H', ⟨Nat.le_refl _⟩, ⟨by (with_reducible repeat (first | apply Kd.R_alloc | apply Kd.R_drewN | apply Kd.R_drew)); exact Kd.R_mono (Kd.R_far (p := ⟨gb869, 2, none⟩) (Kd.R_far (p := ⟨gb869, 1, none⟩) (Kd.R_far (p := ⟨gb869, 0, none⟩) (Kd.R_mono HO_10.out (fun k_ hk => (⟨hk, hk.2⟩ : _ ∧ k_ ≠ gb869))) (fun _ hk => hk.2) (.int .i64 ((rd_T55 t862 x73_4).f0))) (fun _ hk => hk.2) (.int .i64 ((rd_T55 t862 x73_4).f1))) (fun _ hk => hk.2) (.int .i64 ((rd_T55 t862 x73_4).f2))) (fun _ hk => ⟨hk.1.1.1, ⟨hk.1.1.2, hk.1.2⟩⟩)⟩, ⟨by (with_reducible repeat (first | apply Kd.R_alloc | apply Kd.R_drewN | apply Kd.R_drew)); exact Kd.R_mono (Kd.R_far (p := ⟨gb869, 2, none⟩) (Kd.R_far (p := ⟨gb869, 1, none⟩) (Kd.R_far (p := ⟨gb869, 0, none⟩) (Kd.R_types HO_46.out BK869.out (by decide)) (fun _ hk => hk.2) (.int .i64 ((rd_T55 t862 x73_4).f0))) (fun _ hk => hk.2) (.int .i64 ((rd_T55 t862 x73_4).f1))) (fun _ hk => hk.2) (.int .i64 ((rd_T55 t862 x73_4).f2))) (fun _ hk => trivial)⟩, ⟨by (with_reducible repeat (first | apply Kd.R_alloc | apply Kd.R_drewN | apply Kd.R_drew)); exact Kd.R_mono (Kd.R_far (p := ⟨gb869, 2, none⟩) (Kd.R_far (p := ⟨gb869, 1, none⟩) (Kd.R_far (p := ⟨gb869, 0, none⟩) (Kd.R_mono HO_71.out (fun k_ hk => (⟨hk, hk.2⟩ : _ ∧ k_ ≠ gb869))) (fun _ hk => hk.2) (.int .i64 ((rd_T55 t862 x73_4).f0))) (fun _ hk => hk.2) (.int .i64 ((rd_T55 t862 x73_4).f1))) (fun _ hk => hk.2) (.int .i64 ((rd_T55 t862 x73_4).f2))) (fun _ hk => ⟨hk.1.1.1, ⟨hk.1.1.1, ⟨hk.1.1.2, hk.1.2⟩⟩⟩)⟩, ⟨by (with_reducible repeat (first | apply Kd.R_alloc | apply Kd.R_drewN | apply Kd.R_drew)); exact Kd.R_mono (Kd.R_far (p := ⟨gb869, 2, none⟩) (Kd.R_far (p := ⟨gb869, 1, none⟩) (Kd.R_far (p := ⟨gb869, 0, none⟩) (Kd.R_mono HO_10.out (fun k_ hk => (⟨hk, hk.2⟩ : _ ∧ k_ ≠ gb869))) (fun _ hk => hk.2) (.int .i64 ((rd_T55 t862 x73_4).f0))) (fun _ hk => hk.2) (.int .i64 ((rd_T55 t862 x73_4).f1))) (fun _ hk => hk.2) (.int .i64 ((rd_T55 t862 x73_4).f2))) (fun _ hk => ⟨hk.1.1.1, ⟨hk.1.1.2, hk.1.2⟩⟩)⟩, ⟨by (with_reducible repeat (first | apply Kd.R_alloc | apply Kd.R_drewN | apply Kd.R_drew)); exact Kd.R_mono (Kd.R_far (p := ⟨gb869, 2, none⟩) (Kd.R_far (p := ⟨gb869, 1, none⟩) (Kd.R_far (p := ⟨gb869, 0, none⟩) (Kd.R_types HO_853001.out BK869.out (by decide)) (fun _ hk => hk.2) (.int .i64 ((rd_T55 t862 x73_4).f0))) (fun _ hk => hk.2) (.int .i64 ((rd_T55 t862 x73_4).f1))) (fun _ hk => hk.2) (.int .i64 ((rd_T55 t862 x73_4).f2))) (fun _ hk => trivial)⟩, ⟨by (with_reducible repeat (first | apply Kd.R_alloc | apply Kd.R_drewN | apply Kd.R_drew)); exact Kd.R_mono (Kd.R_far (p := ⟨gb869, 2, none⟩) (Kd.R_far (p := ⟨gb869, 1, none⟩) (Kd.R_far (p := ⟨gb869, 0, none⟩) (Kd.R_mono HO_853002.out (fun k_ hk => (⟨hk, hk.2⟩ : _ ∧ k_ ≠ gb869))) (fun _ hk => hk.2) (.int .i64 ((rd_T55 t862 x73_4).f0))) (fun _ hk => hk.2) (.int .i64 ((rd_T55 t862 x73_4).f1))) (fun _ hk => hk.2) (.int .i64 ((rd_T55 t862 x73_4).f2))) (fun _ hk => ⟨hk.1.1.1, ⟨hk.1.1.2, ⟨hk.1.1.1, hk.1.2⟩⟩⟩)⟩, ⟨by (with_reducible repeat (first | refine blk_drewN ?_ _ | refine blk_drew ?_ | refine blk_alloc ?_ _)); refine blk_far ?_ NB844_869.out _; (with_reducible repeat (first | refine blk_drewN ?_ _ | refine blk_drew ?_ | refine blk_alloc ?_ _)); refine blk_far ?_ NB844_869.out _; (with_reducible repeat (first | refine blk_drewN ?_ _ | refine blk_drew ?_ | refine blk_alloc ?_ _)); refine blk_far ?_ NB844_869.out _; (with_reducible repeat (first | refine blk_drewN ?_ _ | refine blk_drew ?_ | refine blk_alloc ?_ _)); exact BK844.out⟩, ⟨by (with_reducible repeat (first | refine blk_drewN ?_ _ | refine blk_drew ?_ | refine blk_alloc ?_ _)); refine blk_far ?_ NB845_869.out _; (with_reducible repeat (first | refine blk_drewN ?_ _ | refine blk_drew ?_ | refine blk_alloc ?_ _)); refine blk_far ?_ NB845_869.out _; (with_reducible repeat (first | refine blk_drewN ?_ _ | refine blk_drew ?_ | refine blk_alloc ?_ _)); refine blk_far ?_ NB845_869.out _; (with_reducible repeat (first | refine blk_drewN ?_ _ | refine blk_drew ?_ | refine blk_alloc ?_ _)); exact BK845.out⟩, ⟨by (with_reducible repeat (first | refine blk_drewN ?_ _ | refine blk_drew ?_ | refine blk_alloc ?_ _)); refine blk_far ?_ NB846_869.out _; (with_reducible repeat (first | refine blk_drewN ?_ _ | refine blk_drew ?_ | refine blk_alloc ?_ _)); refine blk_far ?_ NB846_869.out _; (with_reducible repeat (first | refine blk_drewN ?_ _ | refine blk_drew ?_ | refine blk_alloc ?_ _)); refine blk_far ?_ NB846_869.out _; (with_reducible repeat (first | refine blk_drewN ?_ _ | refine blk_drew ?_ | refine blk_alloc ?_ _)); exact BK846.out⟩, ⟨by (with_reducible repeat (first | refine blk_drewN ?_ _ | refine blk_drew ?_ | refine blk_alloc ?_ _)); refine blk_far ?_ NB852_869.out _; (with_reducible repeat (first | refine blk_drewN ?_ _ | refine blk_drew ?_ | refine blk_alloc ?_ _)); refine blk_far ?_ NB852_869.out _; (with_reducible repeat (first | refine blk_drewN ?_ _ | refine blk_drew ?_ | refine blk_alloc ?_ _)); refine blk_far ?_ NB852_869.out _; (with_reducible repeat (first | refine blk_drewN ?_ _ | refine blk_drew ?_ | refine blk_alloc ?_ _)); exact BK852.out⟩, ⟨by (with_reducible repeat (first | refine blk_drewN ?_ _ | refine blk_drew ?_ | refine blk_alloc ?_ _)); refine blk_put (cs := #[.int .i64 ((rd_T55 t862 x73_4).f0), .int .i64 ((rd_T55 t862 x73_4).f1), .int .i64 0]) ?_ 2 _ rfl; (with_reducible repeat (first | refine blk_drewN ?_ _ | refine blk_drew ?_ | refine blk_alloc ?_ _)); refine blk_put (cs := #[.int .i64 ((rd_T55 t862 x73_4).f0), .int .i64 0, .int .i64 0]) ?_ 1 _ rfl; (with_reducible repeat (first | refine blk_drewN ?_ _ | refine blk_drew ?_ | refine blk_alloc ?_ _)); refine blk_put (cs := #[.int .i64 0, .int .i64 0, .int .i64 0]) ?_ 0 _ rfl; (with_reducible repeat (first | refine blk_drewN ?_ _ | refine blk_drew ?_ | refine blk_alloc ?_ _)); exact BK869.out⟩, ⟨by repeat (first | (with_reducible first | exact HB.out | apply below_alloc | apply pw_below_drewN | apply below_drew1 | refine below_set ?_ GE844.out | refine below_set ?_ GE845.out | refine below_set ?_ GE846.out | refine below_set ?_ GE852.out | refine below_set ?_ GE869.out) | exact HB.out)⟩⟩
                  case round =>
                   clear H'
                   try clear c1
                   try clear c2
                   try clear p2
                   try clear c3
                   try clear c4
                   try clear c5
                   try clear c6
                   try clear p6
                   try clear c7
                   try clear c8
                   try clear c8b0
                   try clear c8b1
                   try clear p8
                   try clear q8
                   try clear hx8
                   try clear c9
                   try clear c10
                   try clear c11
                   try clear c12
                   try clear c14
                   try clear c17
                   try clear c18
                   try clear c21
                   try clear c22
                   try clear c23
                   try clear c36
                   try clear c36b0
                   try clear c37
                   try clear c38
                   try clear c39
                   try clear c41
                   try clear c42
                   try clear c43
                   try clear c45
                   try clear c46
                   try clear c47
                   try clear c48
                   try clear c50
                   try clear c51
                   try clear c52
                   try clear c54
                   try clear c54b0
                   try clear c55
                   try clear c55b0
                   try clear c56
                   try clear c56b0
                   try clear c58
                   try clear c58b0
                   try clear c59
                   try clear c60
                   try clear c61
                   try clear c63
                   try clear c64
                   try clear p64
                   try clear c67
                   try clear c73
                   try clear c74
                   try clear c75
                   try clear c77
                   try clear c78
                   try clear c81
                   try clear c86
                   try clear c86b0
                   try clear p86
                   try clear q86
                   try clear hx86
                   try clear c87
                   try clear c87b0
                   try clear c88
                   try clear c88b0
                   try clear c90
                   try clear c91
                   try clear c92
                   try clear c93
                   try clear hcz12_0
                   try clear hcz12_1
                   try clear hcz12_2
                   try clear hcz15_0
                   try clear hcz15_1
                   try clear hcz15_2
                   try clear hcz19_0
                   try clear hcz19_1
                   try clear hcz19_2
                   try clear hcz24_0
                   try clear hcz24_1
                   try clear hcz24_2
                   try clear hcz40_0
                   try clear hcz40_1
                   try clear hcz40_2
                   try clear hcz44_0
                   try clear hcz44_1
                   try clear hcz44_2
                   try clear hcz49_0
                   try clear hcz49_1
                   try clear hcz49_2
                   try clear hcz53_0
                   try clear hcz53_1
                   try clear hcz53_2
                   try clear hcz62_0
                   try clear hcz62_1
                   try clear hcz62_2
                   try clear hcz65_0
                   try clear hcz65_1
                   try clear hcz65_2
                   try clear hcz68_0
                   try clear hcz68_1
                   try clear hcz68_2
                   try clear hcz72_0
                   try clear hcz72_1
                   try clear hcz72_2
                   try clear hcz76_0
                   try clear hcz76_1
                   try clear hcz76_2
                   try clear hcz79_0
                   try clear hcz79_1
                   try clear hcz79_2
                   try clear hcz82_0
                   try clear hcz82_1
                   try clear hcz82_2
                   try clear hcz94_0
                   try clear hcz94_1
                   try clear hcz94_2
                   try clear hfz12_0
                   try clear hfz12_1
                   try clear hfz12_2
                   try clear hfz15_0
                   try clear hfz15_1
                   try clear hfz15_2
                   try clear hfz19_0
                   try clear hfz19_1
                   try clear hfz19_2
                   try clear hfz24_0
                   try clear hfz24_1
                   try clear hfz24_2
                   try clear hfz40_0
                   try clear hfz40_1
                   try clear hfz40_2
                   try clear hfz44_0
                   try clear hfz44_1
                   try clear hfz44_2
                   try clear hfz49_0
                   try clear hfz49_1
                   try clear hfz49_2
                   try clear hfz53_0
                   try clear hfz53_1
                   try clear hfz53_2
                   try clear hfz62_0
                   try clear hfz62_1
                   try clear hfz62_2
                   try clear hfz65_0
                   try clear hfz65_1
                   try clear hfz65_2
                   try clear hfz68_0
                   try clear hfz68_1
                   try clear hfz68_2
                   try clear hfz72_0
                   try clear hfz72_1
                   try clear hfz72_2
                   try clear hfz76_0
                   try clear hfz76_1
                   try clear hfz76_2
                   try clear hfz79_0
                   try clear hfz79_1
                   try clear hfz79_2
                   try clear hfz82_0
                   try clear hfz82_1
                   try clear hfz82_2
                   try clear hfz94_0
                   try clear hfz94_1
                   try clear hfz94_2
                   try clear hx861_0
                   try clear hx868_0
                   try clear hx868_1
                   try clear hx868_2
                   try clear p2
                   try clear p6
                   try clear p64
                   try clear p8
                   try clear p861
                   try clear p868
                   try clear q8
                   try clear q861
                   try clear q868
                   obtain ⟨x79_5, x853002_5, u853002, rfl, HA, HK5, HO_10, HO_46, HO_71, HO_77, HO_853001, HO_853002, BK844, BK845, BK846, BK852, BK869, HB⟩ := hrel
                   cases gk with
                   | zero => exact absurd HA.out (by simp [product_Of.l2])
                   | succ k5 =>
                    have H := HA.out
                    clear HA
                    simp only [product_Of.l2] at H
                    by_cases c95 : x79_5 < (t865.length : Int)
                    ·rw [if_pos c95] at H
                     have c95b0 : decide (x79_5 < (t865.length : Int)) = true := decide_eq_true c95
                     clear c95
                     by_cases c96 : 0 ≤ x79_5
                     ·rw [if_pos c96] at H
                      have c96b0 : decide (0 ≤ x79_5) = true := decide_eq_true c96
                      clear c96
                      by_cases c97 : x79_5 < (t865.length : Int)
                      ·rw [if_pos c97] at H
                       have c97b0 : decide (x79_5 < (t865.length : Int)) = true := decide_eq_true c97
                       clear c97
                       by_cases c98 : x853002_5.length < 5864062014805
                       ·rw [if_pos c98] at H
                        have LMc98 := Aside0.mk c98
                        clear c98
                        obtain ⟨y872, hy872⟩ : ∃ y_ : List (S55), y_ = (x853002_5 ++ [(⟨wrap64 ((wrap64 (((rd_T55 t862 x73_4).f0) * a1_0)) + ((rd_T55 t865 x79_5).f0)), x48_3, wrap64 ((wrap64 (((rd_T55 t862 x73_4).f2) * a1_0)) + ((rd_T55 t865 x79_5).f2))⟩ : S55)]) := ⟨_, rfl⟩
                        replace H : (product_Of.l2 k5 x48_3 t865 t849 (t849.length : Int) x48_3 t862 (t862.length : Int) x73_4 t865 (t865.length : Int) (wrap64 (x79_5 + 1)) a0_0 l0_1 l0_2 a1_0 l1_1 l1_2 (wrap64 (a0_0 * a1_0)) t849 y872 ((rd_T55 t862 x73_4).f0) ((rd_T55 t862 x73_4).f1) ((rd_T55 t862 x73_4).f2)) = some (r1, r2, r3, r4) := by first | (rw [hy872]; with_reducible exact H) | (have H2_ := (Option.bind_some _ _).symm.trans H; rw [hy872]; with_reducible exact H2_) | (have H2_ := (Option.bind_some _ _).symm.trans H; with_reducible exact H2_) | with_reducible exact H | (rw [hy872]; exact H) | exact H
                        have Ny872 := Aside0.mk hy872
                        clear hy872
                        have H' := Aside0.mk H
                        clear H
                        have p870 : 0 ≤ (x79_5 : Int) := of_decide_eq_true (by first | (with_reducible assumption) | assumption)
                        have q870 : x79_5 < (t865.length : Int) := of_decide_eq_true (by first | (with_reducible assumption) | assumption)
                        obtain ⟨ad870, e870, hx870_0, hx870_1, hx870_2⟩ := at_T55 (Kd.R_reads' HO_77.out).2.2 x79_5 p870 q870
                        cases e870
                        replace p870 := eq_true p870
                        replace q870 := eq_true q870
                        go_wp2_with (first | ((with_reducible refine gate_dst (N := 14) rfl ?_); (try (refine gate_guard (by rfl) ?_; dsimp only)); refine box_event ?hg (N := 14) ?hd (cs := #[.int .i64 0, .int .i64 0, .int .i64 0]) (t := 55) ?hr ?_; (case hd => rfl); (case hg => rfl); (case hr => first | (go_simp; done) | (go_simp; rfl)); intro gb871 hg w99 hbox hb; have n0_ := Aside0.mk (Kd.R_below (Kd.R_elderB (by (with_reducible repeat (first | apply Kd.R_alloc | apply Kd.R_drewN | apply Kd.R_drew)); exact HO_10.out) gb871 (Nat.le_of_eq hg.symm)) hb); have n1_ := Aside0.mk (Kd.R_below (by (with_reducible repeat (first | apply Kd.R_alloc | apply Kd.R_drewN | apply Kd.R_drew)); exact HO_46.out) hb); have n2_ := Aside0.mk (Kd.R_below (Kd.R_elderB (by (with_reducible repeat (first | apply Kd.R_alloc | apply Kd.R_drewN | apply Kd.R_drew)); exact HO_71.out) gb871 (Nat.le_of_eq hg.symm)) hb); have n3_ := Aside0.mk (Kd.R_below (Kd.R_elderB (by (with_reducible repeat (first | apply Kd.R_alloc | apply Kd.R_drewN | apply Kd.R_drew)); exact HO_77.out) gb871 (Nat.le_of_eq hg.symm)) hb); have n4_ := Aside0.mk (Kd.R_below (by (with_reducible repeat (first | apply Kd.R_alloc | apply Kd.R_drewN | apply Kd.R_drew)); exact HO_853001.out) hb); have n5_ := Aside0.mk (Kd.R_below (Kd.R_elderB (by (with_reducible repeat (first | apply Kd.R_alloc | apply Kd.R_drewN | apply Kd.R_drew)); exact HO_853002.out) gb871 (Nat.le_of_eq hg.symm)) hb); have n6_ := Aside0.mk (blk_below (g := gb844) (o := .cells #[.int .i64 a0_0, .slice A0_1 l0_1.length c0_1, .slice A0_2 l0_2.length c0_2] 25 (0, 0)) (by (with_reducible repeat (first | refine blk_drewN ?_ _ | refine blk_drew ?_ | refine blk_alloc ?_ _)); exact BK844.out) hb); have n7_ := Aside0.mk (blk_below (g := gb845) (o := .cells #[.int .i64 a1_0, .slice A1_1 l1_1.length c1_1, .slice A1_2 l1_2.length c1_2] 25 (0, 0)) (by (with_reducible repeat (first | refine blk_drewN ?_ _ | refine blk_drew ?_ | refine blk_alloc ?_ _)); exact BK845.out) hb); have n8_ := Aside0.mk (blk_below (g := gb846) (o := .cells #[.int .i64 x847000_3, .slice none 0 0, .slice none 0 0] 25 (0, 0)) (by (with_reducible repeat (first | refine blk_drewN ?_ _ | refine blk_drew ?_ | refine blk_alloc ?_ _)); exact BK846.out) hb); have n9_ := Aside0.mk (blk_below (g := gb852) (o := .cells #[.int .i64 (wrap64 (a0_0 * a1_0)), .slice (some ad861) t849.length co32, u853002] 25 (0, 0)) (by (with_reducible repeat (first | refine blk_drewN ?_ _ | refine blk_drew ?_ | refine blk_alloc ?_ _)); exact BK852.out) hb); have n10_ := Aside0.mk (blk_below (g := gb869) (o := .cells #[.int .i64 ((rd_T55 t862 x73_4).f0), .int .i64 ((rd_T55 t862 x73_4).f1), .int .i64 ((rd_T55 t862 x73_4).f2)] 55 (0, 0)) (by (with_reducible repeat (first | refine blk_drewN ?_ _ | refine blk_drew ?_ | refine blk_alloc ?_ _)); exact BK869.out) hb); have n11_ := Aside0.mk (below_step (by repeat (first | (with_reducible first | exact HB.out | apply below_alloc | apply pw_below_drewN | apply below_drew1 | refine below_set ?_ GE844.out | refine below_set ?_ GE845.out | refine below_set ?_ GE846.out | refine below_set ?_ GE852.out | refine below_set ?_ GE869.out) | exact HB.out)) hb); have n12_ := Aside0.mk (hbox); have n13_ := Aside0.mk ((by rw [hg]; exact (below_size (by repeat (first | (with_reducible first | exact HB.out | apply below_alloc | apply pw_below_drewN | apply below_drew1 | refine below_set ?_ GE844.out | refine below_set ?_ GE845.out | refine below_set ?_ GE846.out | refine below_set ?_ GE852.out | refine below_set ?_ GE869.out) | exact HB.out))) : w.heap.size ≤ gb871)); have n14_ := Aside0.mk ((by rw [hg]; exact (below_size (by repeat (first | (with_reducible first | exact HB.out | apply below_alloc | apply pw_below_drewN | apply below_drew1 | refine below_set ?_ GE844.out | refine below_set ?_ GE845.out | refine below_set ?_ GE846.out | refine below_set ?_ GE852.out | refine below_set ?_ GE869.out) | exact HB.out))) : w.heap.size ≤ gb871)); have n15_ := Aside0.mk ((by rw [hg]; exact Nat.ne_of_lt (blk_lt (g := gb844) (o := .cells #[.int .i64 a0_0, .slice A0_1 l0_1.length c0_1, .slice A0_2 l0_2.length c0_2] 25 (0, 0)) (by (with_reducible repeat (first | refine blk_drewN ?_ _ | refine blk_drew ?_ | refine blk_alloc ?_ _)); exact BK844.out)) : gb844 ≠ gb871)); have n16_ := Aside0.mk ((by rw [hg]; exact Nat.ne_of_gt (blk_lt (g := gb844) (o := .cells #[.int .i64 a0_0, .slice A0_1 l0_1.length c0_1, .slice A0_2 l0_2.length c0_2] 25 (0, 0)) (by (with_reducible repeat (first | refine blk_drewN ?_ _ | refine blk_drew ?_ | refine blk_alloc ?_ _)); exact BK844.out)) : gb871 ≠ gb844)); have n17_ := Aside0.mk ((by rw [hg]; exact Nat.ne_of_lt (blk_lt (g := gb845) (o := .cells #[.int .i64 a1_0, .slice A1_1 l1_1.length c1_1, .slice A1_2 l1_2.length c1_2] 25 (0, 0)) (by (with_reducible repeat (first | refine blk_drewN ?_ _ | refine blk_drew ?_ | refine blk_alloc ?_ _)); exact BK845.out)) : gb845 ≠ gb871)); have n18_ := Aside0.mk ((by rw [hg]; exact Nat.ne_of_gt (blk_lt (g := gb845) (o := .cells #[.int .i64 a1_0, .slice A1_1 l1_1.length c1_1, .slice A1_2 l1_2.length c1_2] 25 (0, 0)) (by (with_reducible repeat (first | refine blk_drewN ?_ _ | refine blk_drew ?_ | refine blk_alloc ?_ _)); exact BK845.out)) : gb871 ≠ gb845)); have n19_ := Aside0.mk ((by rw [hg]; exact Nat.ne_of_lt (blk_lt (g := gb846) (o := .cells #[.int .i64 x847000_3, .slice none 0 0, .slice none 0 0] 25 (0, 0)) (by (with_reducible repeat (first | refine blk_drewN ?_ _ | refine blk_drew ?_ | refine blk_alloc ?_ _)); exact BK846.out)) : gb846 ≠ gb871)); have n20_ := Aside0.mk ((by rw [hg]; exact Nat.ne_of_gt (blk_lt (g := gb846) (o := .cells #[.int .i64 x847000_3, .slice none 0 0, .slice none 0 0] 25 (0, 0)) (by (with_reducible repeat (first | refine blk_drewN ?_ _ | refine blk_drew ?_ | refine blk_alloc ?_ _)); exact BK846.out)) : gb871 ≠ gb846)); have n21_ := Aside0.mk ((by rw [hg]; exact Nat.ne_of_lt (blk_lt (g := gb852) (o := .cells #[.int .i64 (wrap64 (a0_0 * a1_0)), .slice (some ad861) t849.length co32, u853002] 25 (0, 0)) (by (with_reducible repeat (first | refine blk_drewN ?_ _ | refine blk_drew ?_ | refine blk_alloc ?_ _)); exact BK852.out)) : gb852 ≠ gb871)); have n22_ := Aside0.mk ((by rw [hg]; exact Nat.ne_of_gt (blk_lt (g := gb852) (o := .cells #[.int .i64 (wrap64 (a0_0 * a1_0)), .slice (some ad861) t849.length co32, u853002] 25 (0, 0)) (by (with_reducible repeat (first | refine blk_drewN ?_ _ | refine blk_drew ?_ | refine blk_alloc ?_ _)); exact BK852.out)) : gb871 ≠ gb852)); have n23_ := Aside0.mk ((by rw [hg]; exact Nat.ne_of_lt (blk_lt (g := gb869) (o := .cells #[.int .i64 ((rd_T55 t862 x73_4).f0), .int .i64 ((rd_T55 t862 x73_4).f1), .int .i64 ((rd_T55 t862 x73_4).f2)] 55 (0, 0)) (by (with_reducible repeat (first | refine blk_drewN ?_ _ | refine blk_drew ?_ | refine blk_alloc ?_ _)); exact BK869.out)) : gb869 ≠ gb871)); have n24_ := Aside0.mk ((by rw [hg]; exact Nat.ne_of_gt (blk_lt (g := gb869) (o := .cells #[.int .i64 ((rd_T55 t862 x73_4).f0), .int .i64 ((rd_T55 t862 x73_4).f1), .int .i64 ((rd_T55 t862 x73_4).f2)] 55 (0, 0)) (by (with_reducible repeat (first | refine blk_drewN ?_ _ | refine blk_drew ?_ | refine blk_alloc ?_ _)); exact BK869.out)) : gb871 ≠ gb869)); clear HO_10; clear HO_46; clear HO_71; clear HO_77; clear HO_853001; clear HO_853002; clear BK844; clear BK845; clear BK846; clear BK852; clear BK869; clear HB; have HO_10 := n0_; have HO_46 := n1_; have HO_71 := n2_; have HO_77 := n3_; have HO_853001 := n4_; have HO_853002 := n5_; have BK844 := n6_; have BK845 := n7_; have BK846 := n8_; have BK852 := n9_; have BK869 := n10_; have HB := n11_; have BK871 := n12_; have GW871 := n13_; have GE871 := n14_; have NB844_871 := n15_; have NB871_844 := n16_; have NB845_871 := n17_; have NB871_845 := n18_; have NB846_871 := n19_; have NB871_846 := n20_; have NB852_871 := n21_; have NB871_852 := n22_; have NB869_871 := n23_; have NB871_869 := n24_; clear n0_ n1_ n2_ n3_ n4_ n5_ n6_ n7_ n8_ n9_ n10_ n11_ n12_ n13_ n14_ n15_ n16_ n17_ n18_ n19_ n20_ n21_ n22_ n23_ n24_; clear hb hbox hg; have hnb100 := NB871_844.out; have hnc100 := NB844_871.out; have hnb101 := NB871_845.out; have hnc101 := NB845_871.out; have hnb102 := NB871_846.out; have hnc102 := NB846_871.out; have hnb103 := NB871_852.out; have hnc103 := NB852_871.out; have hnb104 := NB871_869.out; have hnc104 := NB869_871.out; have hcz105_0 : w99.cell? ⟨gb871, 0, none⟩ = some (.int .i64 0) := (blk_cell BK871.out 0).trans rfl; have hcz105_1 : w99.cell? ⟨gb871, 1, none⟩ = some (.int .i64 0) := (blk_cell BK871.out 1).trans rfl; have hcz105_2 : w99.cell? ⟨gb871, 2, none⟩ = some (.int .i64 0) := (blk_cell BK871.out 2).trans rfl; have hfz105_0 := blk_frozen BK871.out 0; have hfz105_1 := blk_frozen BK871.out 1; have hfz105_2 := blk_frozen BK871.out 2; have hnb106 := NB852_844.out; have hnc106 := NB844_852.out; have hnb107 := NB852_845.out; have hnc107 := NB845_852.out; have hnb108 := NB852_846.out; have hnc108 := NB846_852.out; have hnb109 := NB852_869.out; have hnc109 := NB869_852.out; have hcz110_0 : w99.cell? ⟨gb852, 0, none⟩ = some (.int .i64 (wrap64 (a0_0 * a1_0))) := (blk_cell BK852.out 0).trans rfl; have hcz110_1 : w99.cell? ⟨gb852, 1, none⟩ = some (.slice (some ad861) t849.length co32) := (blk_cell BK852.out 1).trans rfl; have hcz110_2 : w99.cell? ⟨gb852, 2, none⟩ = some (u853002) := (blk_cell BK852.out 2).trans rfl; have hfz110_0 := blk_frozen BK852.out 0; have hfz110_1 := blk_frozen BK852.out 1; have hfz110_2 := blk_frozen BK852.out 2; have hnb111 := NB869_844.out; have hnc111 := NB844_869.out; have hnb112 := NB869_845.out; have hnc112 := NB845_869.out; have hnb113 := NB869_846.out; have hnc113 := NB846_869.out; have hcz114_0 : w99.cell? ⟨gb869, 0, none⟩ = some (.int .i64 ((rd_T55 t862 x73_4).f0)) := (blk_cell BK869.out 0).trans rfl; have hcz114_1 : w99.cell? ⟨gb869, 1, none⟩ = some (.int .i64 ((rd_T55 t862 x73_4).f1)) := (blk_cell BK869.out 1).trans rfl; have hcz114_2 : w99.cell? ⟨gb869, 2, none⟩ = some (.int .i64 ((rd_T55 t862 x73_4).f2)) := (blk_cell BK869.out 2).trans rfl; have hfz114_0 := blk_frozen BK869.out 0; have hfz114_1 := blk_frozen BK869.out 1; have hfz114_2 := blk_frozen BK869.out 2; have hnb115 := NB845_844.out; have hnc115 := NB844_845.out; have hnb116 := NB845_846.out; have hnc116 := NB846_845.out; have hcz117_0 : w99.cell? ⟨gb845, 0, none⟩ = some (.int .i64 a1_0) := (blk_cell BK845.out 0).trans rfl; have hcz117_1 : w99.cell? ⟨gb845, 1, none⟩ = some (.slice A1_1 l1_1.length c1_1) := (blk_cell BK845.out 1).trans rfl; have hcz117_2 : w99.cell? ⟨gb845, 2, none⟩ = some (.slice A1_2 l1_2.length c1_2) := (blk_cell BK845.out 2).trans rfl; have hfz117_0 := blk_frozen BK845.out 0; have hfz117_1 := blk_frozen BK845.out 1; have hfz117_2 := blk_frozen BK845.out 2) | ((with_reducible refine gate_builtin (b := .append) (xs := #[.tmp 84, .tmp 103]) rfl ?_); (try (refine gate_guard (by rfl) ?_; dsimp only)); at_builtin; refine Kd.R_append k55 (w0 := w) w.heap.size rfl (.tmp 84) (.tmp 103) 23 55 (.agg #[(.int .i64 0), (.int .i64 0), (.int .i64 0)]) 24 rfl Try.underlying23 info55 rfl (by decide) (by omega) u853002 x853002_5 (⟨wrap64 ((wrap64 (((rd_T55 t862 x73_4).f0) * a1_0)) + ((rd_T55 t865 x79_5).f0)), x48_3, wrap64 ((wrap64 (((rd_T55 t862 x73_4).f2) * a1_0)) + ((rd_T55 t865 x79_5).f2))⟩ : S55) [.int .i64 (wrap64 ((wrap64 (((rd_T55 t862 x73_4).f0) * a1_0)) + ((rd_T55 t865 x79_5).f0))), .int .i64 x48_3, .int .i64 (wrap64 ((wrap64 (((rd_T55 t862 x73_4).f2) * a1_0)) + ((rd_T55 t865 x79_5).f2)))] (fun k_ => some k_ ≠ (.slice (some ad870) t865.length co85 : Value).ownBlock ∧ some k_ ≠ (.slice (some ad868) t862.length co84 : Value).ownBlock ∧ some k_ ≠ (.slice (some ad870) t865.length co85 : Value).ownBlock ∧ k_ ≠ gb869 ∧ k_ ≠ gb871) (fun _ => False) rfl (by first | (go_simp; done) | (go_simp; rfl)) ?aP (fun _ hk => hk.elim) ?aF ?aO ?aB ?aS ?aL ?_; (case aP => exact k55_mkM _ _ _ (⟨wrap64 ((wrap64 (((rd_T55 t862 x73_4).f0) * a1_0)) + ((rd_T55 t865 x79_5).f0)), x48_3, wrap64 ((wrap64 (((rd_T55 t862 x73_4).f2) * a1_0)) + ((rd_T55 t865 x79_5).f2))⟩ : S55)); (case aB => exact (by repeat (first | (with_reducible first | exact HB.out | apply below_alloc | apply pw_below_drewN | apply below_drew1 | refine below_set ?_ GE844.out | refine below_set ?_ GE845.out | refine below_set ?_ GE846.out | refine below_set ?_ GE852.out | refine below_set ?_ GE869.out | refine below_set ?_ GE871.out) | exact HB.out))); (case aF => exact (fun k_ hk => ⟨Kd.fresh' (Kd.R_lt (by (with_reducible repeat (first | apply Kd.R_alloc | apply Kd.R_drewN | apply Kd.R_drew)); exact (Kd.R_mono (Kd.R_far (p := ⟨gb871, 2, none⟩) (Kd.R_far (p := ⟨gb871, 1, none⟩) (Kd.R_far (p := ⟨gb871, 0, none⟩) (Kd.R_mono HO_10.out (fun k_ hk => (⟨hk, hk.2⟩ : _ ∧ k_ ≠ gb871))) (fun _ hk => hk.2) (.int .i64 ((rd_T55 t865 x79_5).f0))) (fun _ hk => hk.2) (.int .i64 ((rd_T55 t865 x79_5).f1))) (fun _ hk => hk.2) (.int .i64 ((rd_T55 t865 x79_5).f2))) (fun _ h_ => h_.1)))) k_ hk, Kd.fresh' (Kd.R_lt (by (with_reducible repeat (first | apply Kd.R_alloc | apply Kd.R_drewN | apply Kd.R_drew)); exact (Kd.R_mono (Kd.R_far (p := ⟨gb871, 2, none⟩) (Kd.R_far (p := ⟨gb871, 1, none⟩) (Kd.R_far (p := ⟨gb871, 0, none⟩) (Kd.R_mono HO_71.out (fun k_ hk => (⟨hk, hk.2⟩ : _ ∧ k_ ≠ gb871))) (fun _ hk => hk.2) (.int .i64 ((rd_T55 t865 x79_5).f0))) (fun _ hk => hk.2) (.int .i64 ((rd_T55 t865 x79_5).f1))) (fun _ hk => hk.2) (.int .i64 ((rd_T55 t865 x79_5).f2))) (fun _ h_ => h_.1)))) k_ hk, Kd.fresh' (Kd.R_lt (by (with_reducible repeat (first | apply Kd.R_alloc | apply Kd.R_drewN | apply Kd.R_drew)); exact (Kd.R_mono (Kd.R_far (p := ⟨gb871, 2, none⟩) (Kd.R_far (p := ⟨gb871, 1, none⟩) (Kd.R_far (p := ⟨gb871, 0, none⟩) (Kd.R_mono HO_77.out (fun k_ hk => (⟨hk, hk.2⟩ : _ ∧ k_ ≠ gb871))) (fun _ hk => hk.2) (.int .i64 ((rd_T55 t865 x79_5).f0))) (fun _ hk => hk.2) (.int .i64 ((rd_T55 t865 x79_5).f1))) (fun _ hk => hk.2) (.int .i64 ((rd_T55 t865 x79_5).f2))) (fun _ h_ => h_.1)))) k_ hk, Kd.freshB (g := gb869) (o := .cells #[.int .i64 ((rd_T55 t862 x73_4).f0), .int .i64 ((rd_T55 t862 x73_4).f1), .int .i64 ((rd_T55 t862 x73_4).f2)] 55 (0, 0)) (by (with_reducible repeat (first | refine blk_drewN ?_ _ | refine blk_drew ?_ | refine blk_alloc ?_ _)); refine blk_far ?_ NB869_871.out _; (with_reducible repeat (first | refine blk_drewN ?_ _ | refine blk_drew ?_ | refine blk_alloc ?_ _)); refine blk_far ?_ NB869_871.out _; (with_reducible repeat (first | refine blk_drewN ?_ _ | refine blk_drew ?_ | refine blk_alloc ?_ _)); refine blk_far ?_ NB869_871.out _; (with_reducible repeat (first | refine blk_drewN ?_ _ | refine blk_drew ?_ | refine blk_alloc ?_ _)); exact BK869.out) k_ hk, Kd.freshB (g := gb871) (o := .cells #[.int .i64 ((rd_T55 t865 x79_5).f0), .int .i64 ((rd_T55 t865 x79_5).f1), .int .i64 ((rd_T55 t865 x79_5).f2)] 55 (0, 0)) (by (with_reducible repeat (first | refine blk_drewN ?_ _ | refine blk_drew ?_ | refine blk_alloc ?_ _)); refine blk_put (cs := #[.int .i64 ((rd_T55 t865 x79_5).f0), .int .i64 ((rd_T55 t865 x79_5).f1), .int .i64 0]) ?_ 2 _ rfl; (with_reducible repeat (first | refine blk_drewN ?_ _ | refine blk_drew ?_ | refine blk_alloc ?_ _)); refine blk_put (cs := #[.int .i64 ((rd_T55 t865 x79_5).f0), .int .i64 0, .int .i64 0]) ?_ 1 _ rfl; (with_reducible repeat (first | refine blk_drewN ?_ _ | refine blk_drew ?_ | refine blk_alloc ?_ _)); refine blk_put (cs := #[.int .i64 0, .int .i64 0, .int .i64 0]) ?_ 0 _ rfl; (with_reducible repeat (first | refine blk_drewN ?_ _ | refine blk_drew ?_ | refine blk_alloc ?_ _)); exact BK871.out) k_ hk⟩)); (case aO => exact (by (with_reducible repeat (first | apply Kd.R_alloc | apply Kd.R_drewN | apply Kd.R_drew)); exact Kd.R_mono (Kd.R_far (p := ⟨gb871, 2, none⟩) (Kd.R_far (p := ⟨gb871, 1, none⟩) (Kd.R_far (p := ⟨gb871, 0, none⟩) (Kd.R_mono HO_853002.out (fun k_ hk => (⟨hk, hk.2⟩ : _ ∧ k_ ≠ gb871))) (fun _ hk => hk.2) (.int .i64 ((rd_T55 t865 x79_5).f0))) (fun _ hk => hk.2) (.int .i64 ((rd_T55 t865 x79_5).f1))) (fun _ hk => hk.2) (.int .i64 ((rd_T55 t865 x79_5).f2))) (fun _ hk => ⟨hk.1.1.1, ⟨hk.1.1.2.1, ⟨hk.1.1.2.2.1, ⟨hk.1.1.2.2.2, hk.1.2⟩⟩⟩⟩))); (case aS => exact (below_size (by repeat (first | (with_reducible first | exact HB.out | apply below_alloc | apply pw_below_drewN | apply below_drew1 | refine below_set ?_ GE844.out | refine below_set ?_ GE845.out | refine below_set ?_ GE846.out | refine below_set ?_ GE852.out | refine below_set ?_ GE869.out | refine below_set ?_ GE871.out) | exact HB.out)))); (case aL => have := LMc98.out; omega); intro v873 w118 ho hb hg hat; rw [← Ny872.out] at ho; have n0_ := Aside0.mk (Kd.R_after (ok := (fun k_ => some k_ ≠ (.slice (some ad868) t862.length co84 : Value).ownBlock ∧ k_ ≠ gb869 ∧ k_ ≠ gb871)) (by (with_reducible repeat (first | apply Kd.R_alloc | apply Kd.R_drewN | apply Kd.R_drew)); exact Kd.R_mono (Kd.R_far (p := ⟨gb871, 2, none⟩) (Kd.R_far (p := ⟨gb871, 1, none⟩) (Kd.R_far (p := ⟨gb871, 0, none⟩) (Kd.R_mono HO_10.out (fun k_ hk => (⟨hk, hk.2⟩ : _ ∧ k_ ≠ gb871))) (fun _ hk => hk.2) (.int .i64 ((rd_T55 t865 x79_5).f0))) (fun _ hk => hk.2) (.int .i64 ((rd_T55 t865 x79_5).f1))) (fun _ hk => hk.2) (.int .i64 ((rd_T55 t865 x79_5).f2))) (fun _ hk => ⟨⟨hk.1.1.1, ⟨hk.1.1.2.2, hk.1.2⟩⟩, hk.1.1.2.1⟩)) hg hat); have n1_ := Aside0.mk (Kd.R_over' (by (with_reducible repeat (first | apply Kd.R_alloc | apply Kd.R_drewN | apply Kd.R_drew)); exact (Kd.R_mono (Kd.R_far (p := ⟨gb871, 2, none⟩) (Kd.R_far (p := ⟨gb871, 1, none⟩) (Kd.R_far (p := ⟨gb871, 0, none⟩) (Kd.R_types HO_46.out BK871.out (by decide)) (fun _ hk => hk.2) (.int .i64 ((rd_T55 t865 x79_5).f0))) (fun _ hk => hk.2) (.int .i64 ((rd_T55 t865 x79_5).f1))) (fun _ hk => hk.2) (.int .i64 ((rd_T55 t865 x79_5).f2))) (fun _ h_ => h_.1))) (Kd.R_typed (by (with_reducible repeat (first | apply Kd.R_alloc | apply Kd.R_drewN | apply Kd.R_drew)); exact (Kd.R_mono (Kd.R_far (p := ⟨gb871, 2, none⟩) (Kd.R_far (p := ⟨gb871, 1, none⟩) (Kd.R_far (p := ⟨gb871, 0, none⟩) (Kd.R_mono HO_853002.out (fun k_ hk => (⟨hk, hk.2⟩ : _ ∧ k_ ≠ gb871))) (fun _ hk => hk.2) (.int .i64 ((rd_T55 t865 x79_5).f0))) (fun _ hk => hk.2) (.int .i64 ((rd_T55 t865 x79_5).f1))) (fun _ hk => hk.2) (.int .i64 ((rd_T55 t865 x79_5).f2))) (fun _ h_ => h_.1)))) (by decide) hg); have n2_ := Aside0.mk (Kd.R_after (ok := (fun k_ => some k_ ≠ (.slice (some ad870) t865.length co85 : Value).ownBlock ∧ some k_ ≠ (.slice (some ad870) t865.length co85 : Value).ownBlock ∧ k_ ≠ gb869 ∧ k_ ≠ gb871)) (by (with_reducible repeat (first | apply Kd.R_alloc | apply Kd.R_drewN | apply Kd.R_drew)); exact Kd.R_mono (Kd.R_far (p := ⟨gb871, 2, none⟩) (Kd.R_far (p := ⟨gb871, 1, none⟩) (Kd.R_far (p := ⟨gb871, 0, none⟩) (Kd.R_mono HO_71.out (fun k_ hk => (⟨hk, hk.2⟩ : _ ∧ k_ ≠ gb871))) (fun _ hk => hk.2) (.int .i64 ((rd_T55 t865 x79_5).f0))) (fun _ hk => hk.2) (.int .i64 ((rd_T55 t865 x79_5).f1))) (fun _ hk => hk.2) (.int .i64 ((rd_T55 t865 x79_5).f2))) (fun _ hk => ⟨⟨hk.1.1.1, ⟨hk.1.1.2.1, ⟨hk.1.1.2.2.2, hk.1.2⟩⟩⟩, hk.1.1.2.2.1⟩)) hg hat); have n3_ := Aside0.mk (Kd.R_after (ok := (fun k_ => some k_ ≠ (.slice (some ad868) t862.length co84 : Value).ownBlock ∧ k_ ≠ gb869 ∧ k_ ≠ gb871)) (by (with_reducible repeat (first | apply Kd.R_alloc | apply Kd.R_drewN | apply Kd.R_drew)); exact Kd.R_mono (Kd.R_far (p := ⟨gb871, 2, none⟩) (Kd.R_far (p := ⟨gb871, 1, none⟩) (Kd.R_far (p := ⟨gb871, 0, none⟩) (Kd.R_mono HO_77.out (fun k_ hk => (⟨hk, hk.2⟩ : _ ∧ k_ ≠ gb871))) (fun _ hk => hk.2) (.int .i64 ((rd_T55 t865 x79_5).f0))) (fun _ hk => hk.2) (.int .i64 ((rd_T55 t865 x79_5).f1))) (fun _ hk => hk.2) (.int .i64 ((rd_T55 t865 x79_5).f2))) (fun _ hk => ⟨⟨hk.1.1.1, ⟨hk.1.1.2.2, hk.1.2⟩⟩, hk.1.1.2.1⟩)) hg hat); have n4_ := Aside0.mk (Kd.R_over' (by (with_reducible repeat (first | apply Kd.R_alloc | apply Kd.R_drewN | apply Kd.R_drew)); exact (Kd.R_mono (Kd.R_far (p := ⟨gb871, 2, none⟩) (Kd.R_far (p := ⟨gb871, 1, none⟩) (Kd.R_far (p := ⟨gb871, 0, none⟩) (Kd.R_types HO_853001.out BK871.out (by decide)) (fun _ hk => hk.2) (.int .i64 ((rd_T55 t865 x79_5).f0))) (fun _ hk => hk.2) (.int .i64 ((rd_T55 t865 x79_5).f1))) (fun _ hk => hk.2) (.int .i64 ((rd_T55 t865 x79_5).f2))) (fun _ h_ => h_.1))) (Kd.R_typed (by (with_reducible repeat (first | apply Kd.R_alloc | apply Kd.R_drewN | apply Kd.R_drew)); exact (Kd.R_mono (Kd.R_far (p := ⟨gb871, 2, none⟩) (Kd.R_far (p := ⟨gb871, 1, none⟩) (Kd.R_far (p := ⟨gb871, 0, none⟩) (Kd.R_mono HO_853002.out (fun k_ hk => (⟨hk, hk.2⟩ : _ ∧ k_ ≠ gb871))) (fun _ hk => hk.2) (.int .i64 ((rd_T55 t865 x79_5).f0))) (fun _ hk => hk.2) (.int .i64 ((rd_T55 t865 x79_5).f1))) (fun _ hk => hk.2) (.int .i64 ((rd_T55 t865 x79_5).f2))) (fun _ h_ => h_.1)))) (by decide) hg); have n5_ := Aside0.mk (blk_grown (g := gb844) (o := .cells #[.int .i64 a0_0, .slice A0_1 l0_1.length c0_1, .slice A0_2 l0_2.length c0_2] 25 (0, 0)) (by (with_reducible repeat (first | refine blk_drewN ?_ _ | refine blk_drew ?_ | refine blk_alloc ?_ _)); refine blk_far ?_ NB844_871.out _; (with_reducible repeat (first | refine blk_drewN ?_ _ | refine blk_drew ?_ | refine blk_alloc ?_ _)); refine blk_far ?_ NB844_871.out _; (with_reducible repeat (first | refine blk_drewN ?_ _ | refine blk_drew ?_ | refine blk_alloc ?_ _)); refine blk_far ?_ NB844_871.out _; (with_reducible repeat (first | refine blk_drewN ?_ _ | refine blk_drew ?_ | refine blk_alloc ?_ _)); exact BK844.out) hg (Kd.R_ne HO_853002.out BK844.out (by decide))); have n6_ := Aside0.mk (blk_grown (g := gb845) (o := .cells #[.int .i64 a1_0, .slice A1_1 l1_1.length c1_1, .slice A1_2 l1_2.length c1_2] 25 (0, 0)) (by (with_reducible repeat (first | refine blk_drewN ?_ _ | refine blk_drew ?_ | refine blk_alloc ?_ _)); refine blk_far ?_ NB845_871.out _; (with_reducible repeat (first | refine blk_drewN ?_ _ | refine blk_drew ?_ | refine blk_alloc ?_ _)); refine blk_far ?_ NB845_871.out _; (with_reducible repeat (first | refine blk_drewN ?_ _ | refine blk_drew ?_ | refine blk_alloc ?_ _)); refine blk_far ?_ NB845_871.out _; (with_reducible repeat (first | refine blk_drewN ?_ _ | refine blk_drew ?_ | refine blk_alloc ?_ _)); exact BK845.out) hg (Kd.R_ne HO_853002.out BK845.out (by decide))); have n7_ := Aside0.mk (blk_grown (g := gb846) (o := .cells #[.int .i64 x847000_3, .slice none 0 0, .slice none 0 0] 25 (0, 0)) (by (with_reducible repeat (first | refine blk_drewN ?_ _ | refine blk_drew ?_ | refine blk_alloc ?_ _)); refine blk_far ?_ NB846_871.out _; (with_reducible repeat (first | refine blk_drewN ?_ _ | refine blk_drew ?_ | refine blk_alloc ?_ _)); refine blk_far ?_ NB846_871.out _; (with_reducible repeat (first | refine blk_drewN ?_ _ | refine blk_drew ?_ | refine blk_alloc ?_ _)); refine blk_far ?_ NB846_871.out _; (with_reducible repeat (first | refine blk_drewN ?_ _ | refine blk_drew ?_ | refine blk_alloc ?_ _)); exact BK846.out) hg (Kd.R_ne HO_853002.out BK846.out (by decide))); have n8_ := Aside0.mk (blk_grown (g := gb852) (o := .cells #[.int .i64 (wrap64 (a0_0 * a1_0)), .slice (some ad861) t849.length co32, u853002] 25 (0, 0)) (by (with_reducible repeat (first | refine blk_drewN ?_ _ | refine blk_drew ?_ | refine blk_alloc ?_ _)); refine blk_far ?_ NB852_871.out _; (with_reducible repeat (first | refine blk_drewN ?_ _ | refine blk_drew ?_ | refine blk_alloc ?_ _)); refine blk_far ?_ NB852_871.out _; (with_reducible repeat (first | refine blk_drewN ?_ _ | refine blk_drew ?_ | refine blk_alloc ?_ _)); refine blk_far ?_ NB852_871.out _; (with_reducible repeat (first | refine blk_drewN ?_ _ | refine blk_drew ?_ | refine blk_alloc ?_ _)); exact BK852.out) hg (Kd.R_ne HO_853002.out BK852.out (by decide))); have n9_ := Aside0.mk (blk_grown (g := gb869) (o := .cells #[.int .i64 ((rd_T55 t862 x73_4).f0), .int .i64 ((rd_T55 t862 x73_4).f1), .int .i64 ((rd_T55 t862 x73_4).f2)] 55 (0, 0)) (by (with_reducible repeat (first | refine blk_drewN ?_ _ | refine blk_drew ?_ | refine blk_alloc ?_ _)); refine blk_far ?_ NB869_871.out _; (with_reducible repeat (first | refine blk_drewN ?_ _ | refine blk_drew ?_ | refine blk_alloc ?_ _)); refine blk_far ?_ NB869_871.out _; (with_reducible repeat (first | refine blk_drewN ?_ _ | refine blk_drew ?_ | refine blk_alloc ?_ _)); refine blk_far ?_ NB869_871.out _; (with_reducible repeat (first | refine blk_drewN ?_ _ | refine blk_drew ?_ | refine blk_alloc ?_ _)); exact BK869.out) hg (Kd.R_away HO_853002.out (fun _ hk => hk.1.2.2.2))); have n10_ := Aside0.mk (blk_grown (g := gb871) (o := .cells #[.int .i64 ((rd_T55 t865 x79_5).f0), .int .i64 ((rd_T55 t865 x79_5).f1), .int .i64 ((rd_T55 t865 x79_5).f2)] 55 (0, 0)) (by (with_reducible repeat (first | refine blk_drewN ?_ _ | refine blk_drew ?_ | refine blk_alloc ?_ _)); refine blk_put (cs := #[.int .i64 ((rd_T55 t865 x79_5).f0), .int .i64 ((rd_T55 t865 x79_5).f1), .int .i64 0]) ?_ 2 _ rfl; (with_reducible repeat (first | refine blk_drewN ?_ _ | refine blk_drew ?_ | refine blk_alloc ?_ _)); refine blk_put (cs := #[.int .i64 ((rd_T55 t865 x79_5).f0), .int .i64 0, .int .i64 0]) ?_ 1 _ rfl; (with_reducible repeat (first | refine blk_drewN ?_ _ | refine blk_drew ?_ | refine blk_alloc ?_ _)); refine blk_put (cs := #[.int .i64 0, .int .i64 0, .int .i64 0]) ?_ 0 _ rfl; (with_reducible repeat (first | refine blk_drewN ?_ _ | refine blk_drew ?_ | refine blk_alloc ?_ _)); exact BK871.out) hg (Kd.R_away HO_853002.out (fun _ hk => hk.2))); have n11_ := Aside0.mk (hb); have n12_ := Aside0.mk (ho); clear HO_10; clear HO_46; clear HO_71; clear HO_77; clear HO_853001; clear BK844; clear BK845; clear BK846; clear BK852; clear BK869; clear BK871; clear HB; clear HO_853002; have HO_10 := n0_; have HO_46 := n1_; have HO_71 := n2_; have HO_77 := n3_; have HO_853001 := n4_; have BK844 := n5_; have BK845 := n6_; have BK846 := n7_; have BK852 := n8_; have BK869 := n9_; have BK871 := n10_; have HB := n11_; have HO874 := n12_; clear n0_ n1_ n2_ n3_ n4_ n5_ n6_ n7_ n8_ n9_ n10_ n11_ n12_; clear ho hb hg hat; obtain ⟨Ao119, co119, eo119⟩ := Kd.R_slice HO874.out; subst eo119; have hcz120_0 : w118.cell? ⟨gb852, 0, none⟩ = some (.int .i64 (wrap64 (a0_0 * a1_0))) := (blk_cell BK852.out 0).trans rfl; have hcz120_1 : w118.cell? ⟨gb852, 1, none⟩ = some (.slice (some ad861) t849.length co32) := (blk_cell BK852.out 1).trans rfl; have hcz120_2 : w118.cell? ⟨gb852, 2, none⟩ = some (u853002) := (blk_cell BK852.out 2).trans rfl; have hfz120_0 := blk_frozen BK852.out 0; have hfz120_1 := blk_frozen BK852.out 1; have hfz120_2 := blk_frozen BK852.out 2))
                        go_roundg k5
                        case measure => have := HJ2.out; have := HJ25.out; have := HK3.out; have := HK4.out; have := HK5.out; omega
                        case rel => exact ⟨(wrap64 (x79_5 + 1)), (y872), (.slice Ao119 y872.length co119), (by first | rfl | (simp; done) | (simp [*]; done)), H', ⟨by have := HJ2.out; have := HJ25.out; have := HK3.out; have := HK4.out; have := HK5.out; omega⟩, ⟨by (with_reducible repeat (first | apply Kd.R_alloc | apply Kd.R_drewN | apply Kd.R_drew)); exact Kd.R_mono (Kd.R_far (p := ⟨gb852, 2, none⟩) (Kd.R_types HO_10.out BK852.out (by decide)) (fun _ hk => hk.2) (.slice Ao119 y872.length co119)) (fun _ hk => ⟨hk.1.1.1, ⟨hk.1.2, hk.1.1.2.1⟩⟩)⟩, ⟨by (with_reducible repeat (first | apply Kd.R_alloc | apply Kd.R_drewN | apply Kd.R_drew)); exact Kd.R_mono (Kd.R_far (p := ⟨gb852, 2, none⟩) (Kd.R_types HO_46.out BK852.out (by decide)) (fun _ hk => hk.2) (.slice Ao119 y872.length co119)) (fun _ hk => trivial)⟩, ⟨by (with_reducible repeat (first | apply Kd.R_alloc | apply Kd.R_drewN | apply Kd.R_drew)); exact Kd.R_mono (Kd.R_far (p := ⟨gb852, 2, none⟩) (Kd.R_types HO_71.out BK852.out (by decide)) (fun _ hk => hk.2) (.slice Ao119 y872.length co119)) (fun _ hk => ⟨hk.1.1.1, ⟨hk.1.1.2.1, ⟨hk.1.2, hk.1.1.2.2.1⟩⟩⟩)⟩, ⟨by (with_reducible repeat (first | apply Kd.R_alloc | apply Kd.R_drewN | apply Kd.R_drew)); exact Kd.R_mono (Kd.R_far (p := ⟨gb852, 2, none⟩) (Kd.R_types HO_77.out BK852.out (by decide)) (fun _ hk => hk.2) (.slice Ao119 y872.length co119)) (fun _ hk => ⟨hk.1.1.1, ⟨hk.1.2, hk.1.1.2.1⟩⟩)⟩, ⟨by (with_reducible repeat (first | apply Kd.R_alloc | apply Kd.R_drewN | apply Kd.R_drew)); exact Kd.R_mono (Kd.R_far (p := ⟨gb852, 2, none⟩) (Kd.R_types HO_853001.out BK852.out (by decide)) (fun _ hk => hk.2) (.slice Ao119 y872.length co119)) (fun _ hk => trivial)⟩, ⟨by (with_reducible repeat (first | apply Kd.R_alloc | apply Kd.R_drewN | apply Kd.R_drew)); exact Kd.R_mono (Kd.R_far (p := ⟨gb852, 2, none⟩) (Kd.R_types HO874.out BK852.out (by decide)) (fun _ hk => hk.2) (.slice Ao119 y872.length co119)) (fun _ hk => ⟨hk.1.1, ⟨hk.1.2.1, ⟨hk.1.2.2.1, hk.1.2.2.2.1⟩⟩⟩)⟩, ⟨by (with_reducible repeat (first | refine blk_drewN ?_ _ | refine blk_drew ?_ | refine blk_alloc ?_ _)); refine blk_far ?_ NB844_852.out _; (with_reducible repeat (first | refine blk_drewN ?_ _ | refine blk_drew ?_ | refine blk_alloc ?_ _)); exact BK844.out⟩, ⟨by (with_reducible repeat (first | refine blk_drewN ?_ _ | refine blk_drew ?_ | refine blk_alloc ?_ _)); refine blk_far ?_ NB845_852.out _; (with_reducible repeat (first | refine blk_drewN ?_ _ | refine blk_drew ?_ | refine blk_alloc ?_ _)); exact BK845.out⟩, ⟨by (with_reducible repeat (first | refine blk_drewN ?_ _ | refine blk_drew ?_ | refine blk_alloc ?_ _)); refine blk_far ?_ NB846_852.out _; (with_reducible repeat (first | refine blk_drewN ?_ _ | refine blk_drew ?_ | refine blk_alloc ?_ _)); exact BK846.out⟩, ⟨by (with_reducible repeat (first | refine blk_drewN ?_ _ | refine blk_drew ?_ | refine blk_alloc ?_ _)); refine blk_put (cs := #[.int .i64 (wrap64 (a0_0 * a1_0)), .slice (some ad861) t849.length co32, u853002]) ?_ 2 _ rfl; (with_reducible repeat (first | refine blk_drewN ?_ _ | refine blk_drew ?_ | refine blk_alloc ?_ _)); exact BK852.out⟩, ⟨by (with_reducible repeat (first | refine blk_drewN ?_ _ | refine blk_drew ?_ | refine blk_alloc ?_ _)); refine blk_far ?_ NB869_852.out _; (with_reducible repeat (first | refine blk_drewN ?_ _ | refine blk_drew ?_ | refine blk_alloc ?_ _)); exact BK869.out⟩, ⟨by repeat (first | (with_reducible first | exact HB.out | apply below_alloc | apply pw_below_drewN | apply below_drew1 | refine below_set ?_ GE844.out | refine below_set ?_ GE845.out | refine below_set ?_ GE846.out | refine below_set ?_ GE852.out | refine below_set ?_ GE869.out | refine below_set ?_ GE871.out) | exact HB.out)⟩⟩
                       ·rw [if_neg c98] at H
                        exact absurd H (by simp)
                      ·rw [if_neg c97] at H
                       exact absurd H (by simp)
                     ·rw [if_neg c96] at H
                      exact absurd H (by simp)
                    ·rw [if_neg c95] at H
                     have c95b0 : decide (x79_5 < (t865.length : Int)) = false := decide_eq_false c95
                     clear c95
                     have H' := Aside0.mk H
                     clear H
                     go_wp2
                     go_roundg k5
                     case measure => have := HJ2.out; have := HJ25.out; have := HK3.out; have := HK4.out; have := HK5.out; omega
                     case rel => exact ⟨(wrap64 (x73_4 + 1)), (x853002_5), (u853002), (by first | rfl | (simp; done) | (simp [*]; done)), H', ⟨by have := HJ2.out; have := HJ25.out; have := HK3.out; have := HK4.out; have := HK5.out; omega⟩, ⟨by (with_reducible repeat (first | apply Kd.R_alloc | apply Kd.R_drewN | apply Kd.R_drew)); exact Kd.R_mono HO_10.out (fun _ hk => ⟨hk.1, hk.2.1⟩)⟩, ⟨by (with_reducible repeat (first | apply Kd.R_alloc | apply Kd.R_drewN | apply Kd.R_drew)); exact HO_46.out⟩, ⟨by (with_reducible repeat (first | apply Kd.R_alloc | apply Kd.R_drewN | apply Kd.R_drew)); exact Kd.R_mono HO_71.out (fun _ hk => ⟨hk.1, hk.2.2.1⟩)⟩, ⟨by (with_reducible repeat (first | apply Kd.R_alloc | apply Kd.R_drewN | apply Kd.R_drew)); exact HO_853001.out⟩, ⟨by (with_reducible repeat (first | apply Kd.R_alloc | apply Kd.R_drewN | apply Kd.R_drew)); exact Kd.R_mono HO_853002.out (fun _ hk => ⟨hk.1, hk.2.1⟩)⟩, ⟨by (with_reducible repeat (first | refine blk_drewN ?_ _ | refine blk_drew ?_ | refine blk_alloc ?_ _)); exact BK844.out⟩, ⟨by (with_reducible repeat (first | refine blk_drewN ?_ _ | refine blk_drew ?_ | refine blk_alloc ?_ _)); exact BK845.out⟩, ⟨by (with_reducible repeat (first | refine blk_drewN ?_ _ | refine blk_drew ?_ | refine blk_alloc ?_ _)); exact BK846.out⟩, ⟨by (with_reducible repeat (first | refine blk_drewN ?_ _ | refine blk_drew ?_ | refine blk_alloc ?_ _)); exact BK852.out⟩, ⟨by repeat (first | (with_reducible first | exact HB.out | apply below_alloc | apply pw_below_drewN | apply below_drew1 | refine below_set ?_ GE844.out | refine below_set ?_ GE845.out | refine below_set ?_ GE846.out | refine below_set ?_ GE852.out | refine below_set ?_ GE869.out) | exact HB.out)⟩⟩
                 ·rw [if_neg c88] at H
                  exact absurd H (by simp)
                ·rw [if_neg c87] at H
                 exact absurd H (by simp)
               ·rw [if_neg c86] at H
                have c86b0 : decide (x73_4 < (t862.length : Int)) = false := decide_eq_false c86
                clear c86
                have H' := Aside0.mk H
                clear H
                go_wp2
                go_roundg k4
                case measure => have := HJ2.out; have := HJ25.out; have := HK3.out; have := HK4.out; omega
                case rel => exact ⟨(wrap64 (x48_3 + 1)), (x847000_3), (x853002_4), (u853002), (by first | rfl | (simp; done) | (simp [*]; done)), H', ⟨by have := HJ2.out; have := HJ25.out; have := HK3.out; have := HK4.out; omega⟩, ⟨by (with_reducible repeat (first | apply Kd.R_alloc | apply Kd.R_drewN | apply Kd.R_drew)); exact HO_46.out⟩, ⟨by (with_reducible repeat (first | apply Kd.R_alloc | apply Kd.R_drewN | apply Kd.R_drew)); exact HO_853001.out⟩, ⟨by (with_reducible repeat (first | apply Kd.R_alloc | apply Kd.R_drewN | apply Kd.R_drew)); exact Kd.R_mono HO_853002.out (fun _ hk => trivial)⟩, ⟨by (with_reducible repeat (first | refine blk_drewN ?_ _ | refine blk_drew ?_ | refine blk_alloc ?_ _)); exact BK844.out⟩, ⟨by (with_reducible repeat (first | refine blk_drewN ?_ _ | refine blk_drew ?_ | refine blk_alloc ?_ _)); exact BK845.out⟩, ⟨by (with_reducible repeat (first | refine blk_drewN ?_ _ | refine blk_drew ?_ | refine blk_alloc ?_ _)); exact BK846.out⟩, ⟨by (with_reducible repeat (first | refine blk_drewN ?_ _ | refine blk_drew ?_ | refine blk_alloc ?_ _)); exact BK852.out⟩, ⟨by repeat (first | (with_reducible first | exact HB.out | apply below_alloc | apply pw_below_drewN | apply below_drew1 | refine below_set ?_ GE844.out | refine below_set ?_ GE845.out | refine below_set ?_ GE846.out | refine below_set ?_ GE852.out) | exact HB.out)⟩⟩
           ·rw [if_neg c56] at H
            exact absurd H (by simp)
          ·rw [if_neg c55] at H
           exact absurd H (by simp)
         ·rw [if_neg c54] at H
          have c54b0 : decide (x48_3 < (t849.length : Int)) = false := decide_eq_false c54
          clear c54
          replace H := Option.bind_eq_some_iff.mp H
          obtain ⟨⟨t853, t854, t857, t860⟩, A1210, H⟩ := H
          replace H : (some (t853, t854, t857, t860)) = some (r1, r2, r3, r4) := H
          have A121 := Aside0.mk A1210
          clear A1210
          simp only [Option.some.injEq, Prod.mk.injEq] at H
          obtain ⟨rfl, rfl, rfl, rfl⟩ := H
          have hnb122 := NB852_844.out
          have hnc122 := NB844_852.out
          have hnb123 := NB852_845.out
          have hnc123 := NB845_852.out
          have hnb124 := NB852_846.out
          have hnc124 := NB846_852.out
          have hcz125_0 : wr.cell? ⟨gb852, 0, none⟩ = some (.int .i64 (wrap64 (a0_0 * a1_0))) := (blk_cell BK852.out 0).trans rfl
          have hcz125_1 : wr.cell? ⟨gb852, 1, none⟩ = some (.slice Ao32 t849.length co32) := (blk_cell BK852.out 1).trans rfl
          have hcz125_2 : wr.cell? ⟨gb852, 2, none⟩ = some (u853002) := (blk_cell BK852.out 2).trans rfl
          have hfz125_0 := blk_frozen BK852.out 0
          have hfz125_1 := blk_frozen BK852.out 1
          have hfz125_2 := blk_frozen BK852.out 2
          obtain ⟨Ao126, co126, eo126⟩ := Kd.R_slice HO_853002.out
          subst eo126
          go_wp2_with (first | ((with_reducible refine gate_callee (f := 65) rfl ?_); refine goesL_ (some 110) rfl rfl Try.func65 (by kernel_rfl) rfl #[.agg #[.int .i64 (wrap64 (a0_0 * a1_0)), .slice Ao32 t849.length co32, .slice Ao126 x853002_3.length co126]] rfl (by (try simp only [List.map_toArray, List.map_cons, List.map_nil]); first | done | rfl | (simp only [List.length_drop, List.length_take]; rfl)) ?_; (with_reducible refine (lts_Sort.calls k3 (wrap64 (a0_0 * a1_0)) _ _ t849 _ _ x853002_3 t853 t854 t857 t860 _ ?side1 ?side2 ?side3 ?side4 A121.out).mono ?_); (case side1 => repeat (first | exact (Kd.R_reads' HO_853001.out).2.2 | (with_reducible refine Kd.C_alloc ?_ _) | (with_reducible refine Kd.C_drewN ?_ _) | (with_reducible refine Kd.C_drew ?_))); (case side2 => exact (Kd.R_reads' HO_853001.out).2.1); (case side3 => repeat (first | exact (Kd.R_reads' HO_853002.out).2.2 | (with_reducible refine Kd.C_alloc ?_ _) | (with_reducible refine Kd.C_drewN ?_ _) | (with_reducible refine Kd.C_drew ?_))); (case side4 => exact (Kd.R_reads' HO_853002.out).2.1); rintro e w127 ⟨v855, v858, rfl, ho0, ho1, hb⟩; refine ⟨_, rfl, ?_⟩; have n0_ := Aside0.mk (Kd.R_elder' (by (with_reducible repeat (first | apply Kd.R_alloc | apply Kd.R_drewN | apply Kd.R_drew)); exact HO_46.out) (Kd.R_base ho0) hb); have n1_ := Aside0.mk (Kd.R_elder' (by (with_reducible repeat (first | apply Kd.R_alloc | apply Kd.R_drewN | apply Kd.R_drew)); exact HO_853001.out) (Kd.R_base ho0) hb); have n2_ := Aside0.mk (Kd.R_elder' (by (with_reducible repeat (first | apply Kd.R_alloc | apply Kd.R_drewN | apply Kd.R_drew)); exact HO_853002.out) (Kd.R_base ho1) hb); have n3_ := Aside0.mk (Kd.R_lower (Kd.R_new' (Kd.R_new' ho0 (Kd.R_lt (by (with_reducible repeat (first | apply Kd.R_alloc | apply Kd.R_drewN | apply Kd.R_drew)); exact HO_46.out))) (Kd.R_lt (by (with_reducible repeat (first | apply Kd.R_alloc | apply Kd.R_drewN | apply Kd.R_drew)); exact HO_853001.out))) (below_size (by repeat (first | (with_reducible first | exact HB.out | apply below_alloc | apply pw_below_drewN | apply below_drew1 | refine below_set ?_ GE844.out | refine below_set ?_ GE845.out | refine below_set ?_ GE846.out | refine below_set ?_ GE852.out) | exact HB.out)))); have n4_ := Aside0.mk (Kd.R_lower (Kd.R_new' ho1 (Kd.R_lt (by (with_reducible repeat (first | apply Kd.R_alloc | apply Kd.R_drewN | apply Kd.R_drew)); exact HO_853002.out))) (below_size (by repeat (first | (with_reducible first | exact HB.out | apply below_alloc | apply pw_below_drewN | apply below_drew1 | refine below_set ?_ GE844.out | refine below_set ?_ GE845.out | refine below_set ?_ GE846.out | refine below_set ?_ GE852.out) | exact HB.out)))); have n5_ := Aside0.mk (blk_below (g := gb844) (o := .cells #[.int .i64 a0_0, .slice A0_1 l0_1.length c0_1, .slice A0_2 l0_2.length c0_2] 25 (0, 0)) (by (with_reducible repeat (first | refine blk_drewN ?_ _ | refine blk_drew ?_ | refine blk_alloc ?_ _)); exact BK844.out) hb); have n6_ := Aside0.mk (blk_below (g := gb845) (o := .cells #[.int .i64 a1_0, .slice A1_1 l1_1.length c1_1, .slice A1_2 l1_2.length c1_2] 25 (0, 0)) (by (with_reducible repeat (first | refine blk_drewN ?_ _ | refine blk_drew ?_ | refine blk_alloc ?_ _)); exact BK845.out) hb); have n7_ := Aside0.mk (blk_below (g := gb846) (o := .cells #[.int .i64 x847000_3, .slice none 0 0, .slice none 0 0] 25 (0, 0)) (by (with_reducible repeat (first | refine blk_drewN ?_ _ | refine blk_drew ?_ | refine blk_alloc ?_ _)); exact BK846.out) hb); have n8_ := Aside0.mk (blk_below (g := gb852) (o := .cells #[.int .i64 (wrap64 (a0_0 * a1_0)), .slice Ao32 t849.length co32, .slice Ao126 x853002_3.length co126] 25 (0, 0)) (by (with_reducible repeat (first | refine blk_drewN ?_ _ | refine blk_drew ?_ | refine blk_alloc ?_ _)); exact BK852.out) hb); have n9_ := Aside0.mk (below_step (by repeat (first | (with_reducible first | exact HB.out | apply below_alloc | apply pw_below_drewN | apply below_drew1 | refine below_set ?_ GE844.out | refine below_set ?_ GE845.out | refine below_set ?_ GE846.out | refine below_set ?_ GE852.out) | exact HB.out)) hb); clear HO_46; clear HO_853001; clear HO_853002; clear BK844; clear BK845; clear BK846; clear BK852; clear HB; have HO_46 := n0_; have HO_853001 := n1_; have HO_853002 := n2_; have HO856 := n3_; have HO859 := n4_; have BK844 := n5_; have BK845 := n6_; have BK846 := n7_; have BK852 := n8_; have HB := n9_; clear n0_ n1_ n2_ n3_ n4_ n5_ n6_ n7_ n8_ n9_; (try clear hb); (try clear hb2); (try clear hk); (try clear hi); (try clear ho0); (try clear ho1); have hnb128 := NB846_844.out; have hnc128 := NB844_846.out; have hnb129 := NB846_845.out; have hnc129 := NB845_846.out; have hcz130_0 : w127.cell? ⟨gb846, 0, none⟩ = some (.int .i64 x847000_3) := (blk_cell BK846.out 0).trans rfl; have hcz130_1 : w127.cell? ⟨gb846, 1, none⟩ = some (.slice none 0 0) := (blk_cell BK846.out 1).trans rfl; have hcz130_2 : w127.cell? ⟨gb846, 2, none⟩ = some (.slice none 0 0) := (blk_cell BK846.out 2).trans rfl; have hfz130_0 := blk_frozen BK846.out 0; have hfz130_1 := blk_frozen BK846.out 1; have hfz130_2 := blk_frozen BK846.out 2; obtain ⟨Ao131, co131, eo131⟩ := Kd.R_slice HO856.out; subst eo131; obtain ⟨Ao132, co132, eo132⟩ := Kd.R_slice HO859.out; subst eo132))
          refine bodyPost_ret (results_ct rfl _ _ gb846 25 #[.int .i64 t853, .slice Ao131 t854.length co131, .slice Ao132 t857.length co132] (0, 0) _ rfl (by (with_reducible repeat (first | refine blk_drewN ?_ _ | refine blk_drew ?_ | refine blk_alloc ?_ _)); refine blk_put (cs := #[.int .i64 t853, .slice Ao131 t854.length co131, .slice none 0 0]) ?_ 2 _ rfl; (with_reducible repeat (first | refine blk_drewN ?_ _ | refine blk_drew ?_ | refine blk_alloc ?_ _)); refine blk_put (cs := #[.int .i64 t853, .slice none 0 0, .slice none 0 0]) ?_ 1 _ rfl; (with_reducible repeat (first | refine blk_drewN ?_ _ | refine blk_drew ?_ | refine blk_alloc ?_ _)); refine blk_put (cs := #[.int .i64 x847000_3, .slice none 0 0, .slice none 0 0]) ?_ 0 _ rfl; (with_reducible repeat (first | refine blk_drewN ?_ _ | refine blk_drew ?_ | refine blk_alloc ?_ _)); exact BK846.out) Try.underlying25 rfl (by kernel_rfl)) rfl ?_
          exact ⟨_, _, by first | rfl | (simp [errW_none, errW_some] <;> rfl) | (simp [*, errW_none, errW_some] <;> rfl), by (with_reducible repeat (first | apply Kd.R_alloc | apply Kd.R_drewN | apply Kd.R_drew)); exact Kd.R_mono (Kd.R_far (p := ⟨gb846, 2, none⟩) (Kd.R_far (p := ⟨gb846, 1, none⟩) (Kd.R_far (p := ⟨gb846, 0, none⟩) (Kd.R_types HO856.out BK846.out (by decide)) (fun _ hk => hk.2) (.int .i64 t853)) (fun _ hk => hk.2) (.slice Ao131 t854.length co131)) (fun _ hk => hk.2) (.slice Ao132 t857.length co132)) (fun _ hk => trivial), by (with_reducible repeat (first | apply Kd.R_alloc | apply Kd.R_drewN | apply Kd.R_drew)); exact Kd.R_mono (Kd.R_far (p := ⟨gb846, 2, none⟩) (Kd.R_far (p := ⟨gb846, 1, none⟩) (Kd.R_far (p := ⟨gb846, 0, none⟩) (Kd.R_types HO859.out BK846.out (by decide)) (fun _ hk => hk.2) (.int .i64 t853)) (fun _ hk => hk.2) (.slice Ao131 t854.length co131)) (fun _ hk => hk.2) (.slice Ao132 t857.length co132)) (fun _ hk => trivial), by repeat (first | (with_reducible first | exact HB.out | apply below_alloc | apply pw_below_drewN | apply below_drew1 | refine below_set ?_ GE844.out | refine below_set ?_ GE845.out | refine below_set ?_ GE846.out | refine below_set ?_ GE852.out) | exact HB.out)⟩
end Go.Proofs.Ytcjbghmhdefdiaa.S
