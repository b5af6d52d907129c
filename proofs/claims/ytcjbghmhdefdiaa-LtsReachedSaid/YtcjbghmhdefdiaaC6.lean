/- Part 6 of a proof that a law of the program answers true for every input. -/
import Derived.ProofKit
import Derived.OpenShut
import Derived.SliceStrings
import Derived.Below
import Derived.SizedLaws
import Derived.Test.YtcjbghmhdefdiaaRows
import Derived.WalkKit
import Derived.ShutString
import Derived.ChangeOld
import Derived.Test.YtcjbghmhdefdiaaC2
import Derived.Test.YtcjbghmhdefdiaaC3
import Derived.Test.YtcjbghmhdefdiaaC4
import Derived.Test.YtcjbghmhdefdiaaC5
set_option linter.unusedSimpArgs false
set_option linter.unusedVariables false
namespace Go.Proofs.Ytcjbghmhdefdiaa.S
open Go.RowKit Go.Proofs.YtcjbghmhdefdiaaW.PrintWords Go.Proofs.YtcjbghmhdefdiaaW.PrintLast Go.Proofs.YtcjbghmhdefdiaaW.PrintMore
attribute [local go_sem] vG vE vS vT vk vg vD vF
set_option linter.unusedVariables false
set_option linter.unusedSimpArgs false
mutual
def qg.j0 : Nat → Int → List Int → Bool → Int → List ByteArray → List (S55) → Option (Bool)
 | 0, _, _, _, _, _, _ => none
 | k + 1, x1, x5, x31, x1146000, x1146001, x1146002 => if x31 = true then (if (x5.length : Int) = 0 then ((qJ.f k).bind fun t1152 => (some t1152)) else (some false)) else ((qo.f k x1146000 x1146001 x1146002 x1).bind fun t1153 => (qg.l0 k x5 t1153 0 0 x1146000 x1146001 x1146002))
def qg.l0 : Nat → List Int → List Bool → Int → Int → Int → List ByteArray → List (S55) → Option (Bool)
 | 0, _, _, _, _, _, _, _ => none
 | k + 1, x5, x6, x7, x8, x1146000, x1146001, x1146002 => if x8 < (x6.length : Int) then (if 0 ≤ x8 then (if rdOf false x6 x8 = true then (if x7 ≥ (x5.length : Int) then (some false) else (if 0 ≤ x7 then (if x7 < (x5.length : Int) then (if (rd x5 x7) = x8 then (qg.l0 k x5 x6 (wrap64 (x7 + 1)) (wrap64 (x8 + 1)) x1146000 x1146001 x1146002) else (some false)) else (none)) else (none))) else (qg.l0 k x5 x6 x7 (wrap64 (x8 + 1)) x1146000 x1146001 x1146002)) else (none)) else (qg.l1 k x5 x6 x7 0 x1146000 x1146001 x1146002)
def qg.l1 : Nat → List Int → List Bool → Int → Int → Int → List ByteArray → List (S55) → Option (Bool)
 | 0, _, _, _, _, _, _, _ => none
 | k + 1, x5, x6, x7, x9, x1146000, x1146001, x1146002 => if x9 < (x5.length : Int) then (if 0 ≤ x9 then ((qz.f k x1146000 x1146001 x1146002 (rd x5 x9)).bind fun t1160 => (qg.l2 k x5 x6 x7 x9 t1160 0 x1146000 x1146001 x1146002)) else (none)) else (if x7 = (x5.length : Int) then ((qJ.f k).bind fun t1158 => (some t1158)) else (some false))
def qg.l2 : Nat → List Int → List Bool → Int → Int → List Int → Int → Int → List ByteArray → List (S55) → Option (Bool)
 | 0, _, _, _, _, _, _, _, _, _ => none
 | k + 1, x5, x6, x7, x9, x10, x11, x1146000, x1146001, x1146002 => if x11 < (x10.length : Int) then (if 0 ≤ x11 then (if (rd x10 x11) < 0 then (some false) else (if (rd x10 x11) ≥ (x6.length : Int) then (some false) else (if 0 ≤ (rd x10 x11) then (if (rd x10 x11) < (x6.length : Int) then (if (rdOf false x6 (rd x10 x11) = true) then (qg.l2 k x5 x6 x7 x9 x10 (wrap64 (x11 + 1)) x1146000 x1146001 x1146002) else (some false)) else (none)) else (none)))) else (none)) else (qg.l1 k x5 x6 x7 (wrap64 (x9 + 1)) x1146000 x1146001 x1146002)
end
def qg.f (k : Nat) (a0_0 : Int) (l0_1 : List ByteArray) (l0_2 : List (S55)) (a1 : Int) : Option (Bool) := (qC.f k a0_0 l0_1 l0_2).bind fun t1146 => (if t1146 = true then ((qz.f k a0_0 l0_1 l0_2 a1).bind fun t1148 => ((q8.f a0_0 l0_1 l0_2).bind fun t1151 => (if t1151 = true then (if a1 < 0 then (qg.j0 k a1 t1148 true a0_0 l0_1 l0_2) else (qg.j0 k a1 t1148 (decide (a1 ≥ a0_0)) a0_0 l0_1 l0_2)) else (qg.j0 k a1 t1148 true a0_0 l0_1 l0_2)))) else ((qJ.f k).bind fun t1147 => (some t1147)))
theorem qg.vQ : ∀ k, (∀ y0 y1 y2 y3 y4 y5, LeO (qg.j0 k y0 y1 y2 y3 y4 y5) (qg.j0 (k + 1) y0 y1 y2 y3 y4 y5)) ∧ (∀ y0 y1 y2 y3 y4 y5 y6, LeO (qg.l0 k y0 y1 y2 y3 y4 y5 y6) (qg.l0 (k + 1) y0 y1 y2 y3 y4 y5 y6)) ∧ (∀ y0 y1 y2 y3 y4 y5 y6, LeO (qg.l1 k y0 y1 y2 y3 y4 y5 y6) (qg.l1 (k + 1) y0 y1 y2 y3 y4 y5 y6)) ∧ (∀ y0 y1 y2 y3 y4 y5 y6 y7 y8, LeO (qg.l2 k y0 y1 y2 y3 y4 y5 y6 y7 y8) (qg.l2 (k + 1) y0 y1 y2 y3 y4 y5 y6 y7 y8))
 | 0 => ⟨fun _ _ _ _ _ _ r h => by simp [qg.j0] at h, fun _ _ _ _ _ _ _ r h => by simp [qg.l0] at h, fun _ _ _ _ _ _ _ r h => by simp [qg.l1] at h, fun _ _ _ _ _ _ _ _ _ r h => by simp [qg.l2] at h⟩
 | k + 1 => by
  obtain ⟨ih0, ih1, ih2, ih3⟩ := qg.vQ k
  refine ⟨?_, ?_, ?_, ?_⟩
  ·intro y0 y1 y2 y3 y4 y5
   unfold qg.j0
   repeat' first
   | (with_reducible exact ih0 _ _ _ _ _ _)
   | (with_reducible exact ih1 _ _ _ _ _ _ _)
   | (with_reducible exact ih2 _ _ _ _ _ _ _)
   | (with_reducible exact ih3 _ _ _ _ _ _ _ _ _)
   | (with_reducible exact qz.mono _ _ _ _ _)
   | (with_reducible exact qJ.mono _)
   | (with_reducible exact qC.mono _ _ _ _)
   | (with_reducible exact qo.mono _ _ _ _ _)
   | (with_reducible exact LeO.refl _)
   | (with_reducible exact LeO.none _)
   | (with_reducible refine LeO.ite ?_ ?_)
   | (with_reducible refine LeO.bind ?_ (fun _ => ?_))
   | exact ih0 _ _ _ _ _ _
   | exact ih1 _ _ _ _ _ _ _
   | exact ih2 _ _ _ _ _ _ _
   | exact ih3 _ _ _ _ _ _ _ _ _
   | exact qz.mono _ _ _ _ _
   | exact qJ.mono _
   | exact qC.mono _ _ _ _
   | exact qo.mono _ _ _ _ _
   | exact LeO.none _
   | refine LeO.ite ?_ ?_
   | refine LeO.bind ?_ (fun _ => ?_)
  ·intro y0 y1 y2 y3 y4 y5 y6
   unfold qg.l0
   repeat' first
   | (with_reducible exact ih0 _ _ _ _ _ _)
   | (with_reducible exact ih1 _ _ _ _ _ _ _)
   | (with_reducible exact ih2 _ _ _ _ _ _ _)
   | (with_reducible exact ih3 _ _ _ _ _ _ _ _ _)
   | (with_reducible exact qz.mono _ _ _ _ _)
   | (with_reducible exact qJ.mono _)
   | (with_reducible exact qC.mono _ _ _ _)
   | (with_reducible exact qo.mono _ _ _ _ _)
   | (with_reducible exact LeO.refl _)
   | (with_reducible exact LeO.none _)
   | (with_reducible refine LeO.ite ?_ ?_)
   | (with_reducible refine LeO.bind ?_ (fun _ => ?_))
   | exact ih0 _ _ _ _ _ _
   | exact ih1 _ _ _ _ _ _ _
   | exact ih2 _ _ _ _ _ _ _
   | exact ih3 _ _ _ _ _ _ _ _ _
   | exact qz.mono _ _ _ _ _
   | exact qJ.mono _
   | exact qC.mono _ _ _ _
   | exact qo.mono _ _ _ _ _
   | exact LeO.none _
   | refine LeO.ite ?_ ?_
   | refine LeO.bind ?_ (fun _ => ?_)
  ·intro y0 y1 y2 y3 y4 y5 y6
   unfold qg.l1
   repeat' first
   | (with_reducible exact ih0 _ _ _ _ _ _)
   | (with_reducible exact ih1 _ _ _ _ _ _ _)
   | (with_reducible exact ih2 _ _ _ _ _ _ _)
   | (with_reducible exact ih3 _ _ _ _ _ _ _ _ _)
   | (with_reducible exact qz.mono _ _ _ _ _)
   | (with_reducible exact qJ.mono _)
   | (with_reducible exact qC.mono _ _ _ _)
   | (with_reducible exact qo.mono _ _ _ _ _)
   | (with_reducible exact LeO.refl _)
   | (with_reducible exact LeO.none _)
   | (with_reducible refine LeO.ite ?_ ?_)
   | (with_reducible refine LeO.bind ?_ (fun _ => ?_))
   | exact ih0 _ _ _ _ _ _
   | exact ih1 _ _ _ _ _ _ _
   | exact ih2 _ _ _ _ _ _ _
   | exact ih3 _ _ _ _ _ _ _ _ _
   | exact qz.mono _ _ _ _ _
   | exact qJ.mono _
   | exact qC.mono _ _ _ _
   | exact qo.mono _ _ _ _ _
   | exact LeO.none _
   | refine LeO.ite ?_ ?_
   | refine LeO.bind ?_ (fun _ => ?_)
  ·intro y0 y1 y2 y3 y4 y5 y6 y7 y8
   unfold qg.l2
   repeat' first
   | (with_reducible exact ih0 _ _ _ _ _ _)
   | (with_reducible exact ih1 _ _ _ _ _ _ _)
   | (with_reducible exact ih2 _ _ _ _ _ _ _)
   | (with_reducible exact ih3 _ _ _ _ _ _ _ _ _)
   | (with_reducible exact qz.mono _ _ _ _ _)
   | (with_reducible exact qJ.mono _)
   | (with_reducible exact qC.mono _ _ _ _)
   | (with_reducible exact qo.mono _ _ _ _ _)
   | (with_reducible exact LeO.refl _)
   | (with_reducible exact LeO.none _)
   | (with_reducible refine LeO.ite ?_ ?_)
   | (with_reducible refine LeO.bind ?_ (fun _ => ?_))
   | exact ih0 _ _ _ _ _ _
   | exact ih1 _ _ _ _ _ _ _
   | exact ih2 _ _ _ _ _ _ _
   | exact ih3 _ _ _ _ _ _ _ _ _
   | exact qz.mono _ _ _ _ _
   | exact qJ.mono _
   | exact qC.mono _ _ _ _
   | exact qo.mono _ _ _ _ _
   | exact LeO.none _
   | refine LeO.ite ?_ ?_
   | refine LeO.bind ?_ (fun _ => ?_)
set_option maxHeartbeats 8000000 in
set_option maxRecDepth 100000 in
theorem qg.calls (k : Nat) (a0_0 : Int) (A0_1 : Option Addr) (c0_1 : Nat) (l0_1 : List ByteArray) (A0_2 : Option Addr) (c0_2 : Nat) (l0_2 : List (S55)) (a1 : Int) (r : Bool) (w : World) (hr0_1 : Kd.C Kd.string w A0_1 l0_1.length l0_1) (hc0_1 : l0_1.length ≤ c0_1) (hr0_2 : Kd.C k55 w A0_2 l0_2.length l0_2) (hc0_2 : l0_2.length ≤ c0_2) (h : qg.f k a0_0 l0_1 l0_2 a1 = some r) :
  Calls Try.prog 15 #[.agg #[.int .i64 a0_0, .slice A0_1 l0_1.length c0_1, .slice A0_2 l0_2.length c0_2], .int .i64 a1] w fun e w' => e = .returned (.bool r) ∧ Below w.heap.size w w' := by
 have hu25 := Try.underlying25
 have HR0_1 := qb.mk hr0_1
 have HC0_1 := qb.mk hc0_1
 clear hr0_1 hc0_1
 have HR0_2 := qb.mk hr0_2
 have HC0_2 := qb.mk hc0_2
 clear hr0_2 hc0_2
 have HB := qb.mk (Below.refl w.heap.size w)
 have H : ((qC.f k a0_0 l0_1 l0_2).bind fun t1146 => (if t1146 = true then ((qz.f k a0_0 l0_1 l0_2 a1).bind fun t1148 => ((q8.f a0_0 l0_1 l0_2).bind fun t1151 => (if t1151 = true then (if a1 < 0 then (qg.j0 k a1 t1148 true a0_0 l0_1 l0_2) else (qg.j0 k a1 t1148 (decide (a1 ≥ a0_0)) a0_0 l0_1 l0_2)) else (qg.j0 k a1 t1148 true a0_0 l0_1 l0_2)))) else ((qJ.f k).bind fun t1147 => (some t1147)))) = some r := h
 clear h
 replace H := Option.bind_eq_some_iff.mp H
 obtain ⟨t1146, A30, H⟩ := H
 replace H : (if t1146 = true then ((qz.f k a0_0 l0_1 l0_2 a1).bind fun t1148 => ((q8.f a0_0 l0_1 l0_2).bind fun t1151 => (if t1151 = true then (if a1 < 0 then (qg.j0 k a1 t1148 true a0_0 l0_1 l0_2) else (qg.j0 k a1 t1148 (decide (a1 ≥ a0_0)) a0_0 l0_1 l0_2)) else (qg.j0 k a1 t1148 true a0_0 l0_1 l0_2)))) else ((qJ.f k).bind fun t1147 => (some t1147))) = some r := H
 have A3 := qb.mk A30
 clear A30
 by_cases c4 : t1146 = true
 ·subst c4
  have H1 : ((qz.f k a0_0 l0_1 l0_2 a1).bind fun t1148 => ((q8.f a0_0 l0_1 l0_2).bind fun t1151 => (if t1151 = true then (if a1 < 0 then (qg.j0 k a1 t1148 true a0_0 l0_1 l0_2) else (qg.j0 k a1 t1148 (decide (a1 ≥ a0_0)) a0_0 l0_1 l0_2)) else (qg.j0 k a1 t1148 true a0_0 l0_1 l0_2)))) = some r := by rw [if_pos rfl] at H; exact H
  clear H
  have H := H1
  clear H1
  replace H := Option.bind_eq_some_iff.mp H
  obtain ⟨t1148, A50, H⟩ := H
  replace H : ((q8.f a0_0 l0_1 l0_2).bind fun t1151 => (if t1151 = true then (if a1 < 0 then (qg.j0 k a1 t1148 true a0_0 l0_1 l0_2) else (qg.j0 k a1 t1148 (decide (a1 ≥ a0_0)) a0_0 l0_1 l0_2)) else (qg.j0 k a1 t1148 true a0_0 l0_1 l0_2))) = some r := H
  have A5 := qb.mk A50
  clear A50
  have HC6 := qb.mk H
  clear H
  go_enter Try.func15, Try.ntmps15
  go_upto_region 4 with (first | ((with_reducible refine qU (N := 2) rfl ?_); (try (refine zz (by rfl) ?_; dsimp only)); refine qV ?hg (N := 2) ?hd (cs := #[.int .i64 a0_0, .slice A0_1 l0_1.length c0_1, .slice A0_2 l0_2.length c0_2]) (t := 25) ?hr ?_; (case hd => rfl); (case hg => rfl); (case hr => first | (go_simp; done) | (go_simp; rfl)); intro gb1145 hg w7 hbox hb; have n0_ := qb.mk (qG (by repeat (first | (with_reducible first | exact HB.out | apply qc | apply qa | apply qd) | exact HB.out)) hb); have n1_ := qb.mk (hbox); have n2_ := qb.mk ((by rw [hg]; exact (qD (by repeat (first | (with_reducible first | exact HB.out | apply qc | apply qa | apply qd) | exact HB.out))) : w.heap.size ≤ gb1145)); have n3_ := qb.mk ((by rw [hg]; exact (qD (by repeat (first | (with_reducible first | exact HB.out | apply qc | apply qa | apply qd) | exact HB.out))) : w.heap.size ≤ gb1145)); clear HB; have HB := n0_; have BK1145 := n1_; have GW1145 := n2_; have GE1145 := n3_; clear n0_ n1_ n2_ n3_; clear hb hbox hg; have hcz8_0 : w7.cell? ⟨gb1145, 0, none⟩ = some (.int .i64 a0_0) := (qi BK1145.out 0).trans rfl; have hcz8_1 : w7.cell? ⟨gb1145, 1, none⟩ = some (.slice A0_1 l0_1.length c0_1) := (qi BK1145.out 1).trans rfl; have hcz8_2 : w7.cell? ⟨gb1145, 2, none⟩ = some (.slice A0_2 l0_2.length c0_2) := (qi BK1145.out 2).trans rfl; have hfz8_0 := qh BK1145.out 0; have hfz8_1 := qh BK1145.out 1; have hfz8_2 := qh BK1145.out 2) | ((with_reducible refine qR (f := 63) rfl ?_); refine vU (some 13) rfl rfl Try.func63 (by kernel_rfl) rfl #[.agg #[.int .i64 a0_0, .slice A0_1 l0_1.length c0_1, .slice A0_2 l0_2.length c0_2]] rfl (by (try simp only [List.map_toArray, List.map_cons, List.map_nil]); first | done | rfl | (simp only [List.length_drop, List.length_take]; rfl)) ?_; (with_reducible refine (qC.calls k a0_0 _ _ l0_1 _ _ l0_2 true _ ?side1 ?side2 ?side3 ?side4 A3.out).mono ?_); (case side1 => repeat (first | exact (Kd.qW HR0_1.out HB.out) | (with_reducible refine Kd.C_alloc ?_ _) | (with_reducible refine Kd.C_drewN ?_ _) | (with_reducible refine Kd.C_drew ?_))); (case side2 => exact HC0_1.out); (case side3 => repeat (first | exact (Kd.qW HR0_2.out HB.out) | (with_reducible refine Kd.C_alloc ?_ _) | (with_reducible refine Kd.C_drewN ?_ _) | (with_reducible refine Kd.C_drew ?_))); (case side4 => exact HC0_2.out); rintro e w9 ⟨rfl, hb⟩; refine ⟨_, rfl, ?_⟩; have n0_ := qb.mk (qM (g := gb1145) (o := .cells #[.int .i64 a0_0, .slice A0_1 l0_1.length c0_1, .slice A0_2 l0_2.length c0_2] 25 (0, 0)) (by (with_reducible repeat (first | refine qw ?_ _ | refine qy ?_ | refine qp ?_ _)); exact BK1145.out) hb); have n1_ := qb.mk (qG (by repeat (first | (with_reducible first | exact HB.out | apply qc | apply qa | apply qd | refine qj ?_ GE1145.out) | exact HB.out)) hb); clear BK1145; clear HB; have BK1145 := n0_; have HB := n1_; clear n0_ n1_; (try clear hb); (try clear hb2); (try clear hk); (try clear hi); have hcz10_0 : w9.cell? ⟨gb1145, 0, none⟩ = some (.int .i64 a0_0) := (qi BK1145.out 0).trans rfl; have hcz10_1 : w9.cell? ⟨gb1145, 1, none⟩ = some (.slice A0_1 l0_1.length c0_1) := (qi BK1145.out 1).trans rfl; have hcz10_2 : w9.cell? ⟨gb1145, 2, none⟩ = some (.slice A0_2 l0_2.length c0_2) := (qi BK1145.out 2).trans rfl; have hfz10_0 := qh BK1145.out 0; have hfz10_1 := qh BK1145.out 1; have hfz10_2 := qh BK1145.out 2) | ((with_reducible refine qR (f := 73) rfl ?_); refine vU (some 18) rfl rfl Try.func73 (by kernel_rfl) rfl #[.agg #[.int .i64 a0_0, .slice A0_1 l0_1.length c0_1, .slice A0_2 l0_2.length c0_2], .int .i64 a1] rfl (by (try simp only [List.map_toArray, List.map_cons, List.map_nil]); first | done | rfl | (simp only [List.length_drop, List.length_take]; rfl)) ?_; (with_reducible refine (qz.calls k a0_0 _ _ l0_1 _ _ l0_2 a1 t1148 _ ?side1 ?side2 ?side3 ?side4 A5.out).mono ?_); (case side1 => repeat (first | exact (Kd.qW HR0_1.out HB.out) | (with_reducible refine Kd.C_alloc ?_ _) | (with_reducible refine Kd.C_drewN ?_ _) | (with_reducible refine Kd.C_drew ?_))); (case side2 => exact HC0_1.out); (case side3 => repeat (first | exact (Kd.qW HR0_2.out HB.out) | (with_reducible refine Kd.C_alloc ?_ _) | (with_reducible refine Kd.C_drewN ?_ _) | (with_reducible refine Kd.C_drew ?_))); (case side4 => exact HC0_2.out); rintro e w11 ⟨v1149, rfl, ho0, hb⟩; refine ⟨_, rfl, ?_⟩; have n0_ := qb.mk (Kd.vV ho0 (qD (by repeat (first | (with_reducible first | exact HB.out | apply qc | apply qa | apply qd | refine qj ?_ GE1145.out) | exact HB.out)))); have n1_ := qb.mk (qM (g := gb1145) (o := .cells #[.int .i64 a0_0, .slice A0_1 l0_1.length c0_1, .slice A0_2 l0_2.length c0_2] 25 (0, 0)) (by (with_reducible repeat (first | refine qw ?_ _ | refine qy ?_ | refine qp ?_ _)); exact BK1145.out) hb); have n2_ := qb.mk (qG (by repeat (first | (with_reducible first | exact HB.out | apply qc | apply qa | apply qd | refine qj ?_ GE1145.out) | exact HB.out)) hb); clear BK1145; clear HB; have HO1150 := n0_; have BK1145 := n1_; have HB := n2_; clear n0_ n1_ n2_; (try clear hb); (try clear hb2); (try clear hk); (try clear hi); (try clear ho0)))
  (try simp only [Act.put, List.setIfInBounds_toArray, List.set_cons_zero, List.set_cons_succ])
  go_cut [31] (fun v31 wc => ∃ (kq : Nat) (x31_5 : Bool), v31 = .bool x31_5 ∧ qb (qg.j0 kq a1 t1148 x31_5 a0_0 l0_1 l0_2 = some r) ∧ qb (kq ≤ k) ∧ qb (Kd.R (Kd.int .i64) 3 wc w.heap.size (fun _ => True) v1149 t1148) ∧ qb (wc.heap[gb1145]? = some (.cells #[.int .i64 a0_0, (.slice A0_1 l0_1.length c0_1), (.slice A0_2 l0_2.length c0_2)] 25 (0, 0))) ∧ qb (Below w.heap.size w wc))
  case first =>
   have H := HC6.out
   clear HC6
   replace H := Option.bind_eq_some_iff.mp H
   obtain ⟨t1151, A120, H⟩ := H
   replace H : (if t1151 = true then (if a1 < 0 then (qg.j0 k a1 t1148 true a0_0 l0_1 l0_2) else (qg.j0 k a1 t1148 (decide (a1 ≥ a0_0)) a0_0 l0_1 l0_2)) else (qg.j0 k a1 t1148 true a0_0 l0_1 l0_2)) = some r := H
   have A12 := qb.mk A120
   clear A120
   by_cases c13 : t1151 = true
   ·subst c13
    have H1 : (if a1 < 0 then (qg.j0 k a1 t1148 true a0_0 l0_1 l0_2) else (qg.j0 k a1 t1148 (decide (a1 ≥ a0_0)) a0_0 l0_1 l0_2)) = some r := by rw [if_pos rfl] at H; exact H
    clear H
    have H := H1
    clear H1
    by_cases c14 : a1 < 0
    ·rw [if_pos c14] at H
     have c14b0 : decide (a1 < 0) = true := decide_eq_true c14
     clear c14
     (first | rw [c14b0] | (simp only [ql, qm]; rw [c14b0]) | skip)
     have H' := qb.mk H
     clear H
     have hcz15_0 : w11.cell? ⟨gb1145, 0, none⟩ = some (.int .i64 a0_0) := (qi BK1145.out 0).trans rfl
     have hcz15_1 : w11.cell? ⟨gb1145, 1, none⟩ = some (.slice A0_1 l0_1.length c0_1) := (qi BK1145.out 1).trans rfl
     have hcz15_2 : w11.cell? ⟨gb1145, 2, none⟩ = some (.slice A0_2 l0_2.length c0_2) := (qi BK1145.out 2).trans rfl
     have hfz15_0 := qh BK1145.out 0
     have hfz15_1 := qh BK1145.out 1
     have hfz15_2 := qh BK1145.out 2
     go_wp2_with (first | ((with_reducible refine qR (f := 21) rfl ?_); refine vU (some 20) rfl rfl Try.func21 (by kernel_rfl) rfl #[.agg #[.int .i64 a0_0, .slice A0_1 l0_1.length c0_1, .slice A0_2 l0_2.length c0_2]] rfl (by (try simp only [List.map_toArray, List.map_cons, List.map_nil]); first | done | rfl | (simp only [List.length_drop, List.length_take]; rfl)) ?_; (with_reducible refine (q8.calls a0_0 _ _ l0_1 _ _ l0_2 true _ ?side1 ?side2 ?side3 ?side4 A12.out).mono ?_); (case side1 => repeat (first | exact (Kd.qW HR0_1.out HB.out) | (with_reducible refine Kd.C_alloc ?_ _) | (with_reducible refine Kd.C_drewN ?_ _) | (with_reducible refine Kd.C_drew ?_))); (case side2 => exact HC0_1.out); (case side3 => repeat (first | exact (Kd.qW HR0_2.out HB.out) | (with_reducible refine Kd.C_alloc ?_ _) | (with_reducible refine Kd.C_drewN ?_ _) | (with_reducible refine Kd.C_drew ?_))); (case side4 => exact HC0_2.out); rintro e w16 ⟨rfl, hb⟩; refine ⟨_, rfl, ?_⟩; have n0_ := qb.mk (Kd.qP (by (with_reducible repeat (first | apply Kd.R_alloc | apply Kd.qF | apply Kd.qH)); exact HO1150.out) hb); have n1_ := qb.mk (qM (g := gb1145) (o := .cells #[.int .i64 a0_0, .slice A0_1 l0_1.length c0_1, .slice A0_2 l0_2.length c0_2] 25 (0, 0)) (by (with_reducible repeat (first | refine qw ?_ _ | refine qy ?_ | refine qp ?_ _)); exact BK1145.out) hb); have n2_ := qb.mk (qG (by repeat (first | (with_reducible first | exact HB.out | apply qc | apply qa | apply qd | refine qj ?_ GE1145.out) | exact HB.out)) hb); clear HO1150; clear BK1145; clear HB; have HO1150 := n0_; have BK1145 := n1_; have HB := n2_; clear n0_ n1_ n2_; (try clear hb); (try clear hb2); (try clear hk); (try clear hi)))
     go_meet
     case rel => exact ⟨_, (true), (by first | rfl | (simp; done) | (simp [*]; done)), H', ⟨by first | omega | exact Nat.le_refl _⟩, ⟨by (with_reducible repeat (first | apply Kd.R_alloc | apply Kd.qF | apply Kd.qH)); exact HO1150.out⟩, ⟨by (with_reducible repeat (first | refine qw ?_ _ | refine qy ?_ | refine qp ?_ _)); exact BK1145.out⟩, ⟨by repeat (first | (with_reducible first | exact HB.out | apply qc | apply qa | apply qd | refine qj ?_ GE1145.out) | exact HB.out)⟩⟩
    ·rw [if_neg c14] at H
     have c14b0 : decide (a1 < 0) = false := decide_eq_false c14
     clear c14
     (first | rw [c14b0] | (simp only [ql, qm]; rw [c14b0]) | skip)
     have H' := qb.mk H
     clear H
     have hcz17_0 : w11.cell? ⟨gb1145, 0, none⟩ = some (.int .i64 a0_0) := (qi BK1145.out 0).trans rfl
     have hcz17_1 : w11.cell? ⟨gb1145, 1, none⟩ = some (.slice A0_1 l0_1.length c0_1) := (qi BK1145.out 1).trans rfl
     have hcz17_2 : w11.cell? ⟨gb1145, 2, none⟩ = some (.slice A0_2 l0_2.length c0_2) := (qi BK1145.out 2).trans rfl
     have hfz17_0 := qh BK1145.out 0
     have hfz17_1 := qh BK1145.out 1
     have hfz17_2 := qh BK1145.out 2
     go_wp2_with (first | ((with_reducible refine qR (f := 21) rfl ?_); refine vU (some 20) rfl rfl Try.func21 (by kernel_rfl) rfl #[.agg #[.int .i64 a0_0, .slice A0_1 l0_1.length c0_1, .slice A0_2 l0_2.length c0_2]] rfl (by (try simp only [List.map_toArray, List.map_cons, List.map_nil]); first | done | rfl | (simp only [List.length_drop, List.length_take]; rfl)) ?_; (with_reducible refine (q8.calls a0_0 _ _ l0_1 _ _ l0_2 true _ ?side1 ?side2 ?side3 ?side4 A12.out).mono ?_); (case side1 => repeat (first | exact (Kd.qW HR0_1.out HB.out) | (with_reducible refine Kd.C_alloc ?_ _) | (with_reducible refine Kd.C_drewN ?_ _) | (with_reducible refine Kd.C_drew ?_))); (case side2 => exact HC0_1.out); (case side3 => repeat (first | exact (Kd.qW HR0_2.out HB.out) | (with_reducible refine Kd.C_alloc ?_ _) | (with_reducible refine Kd.C_drewN ?_ _) | (with_reducible refine Kd.C_drew ?_))); (case side4 => exact HC0_2.out); rintro e w18 ⟨rfl, hb⟩; refine ⟨_, rfl, ?_⟩; have n0_ := qb.mk (Kd.qP (by (with_reducible repeat (first | apply Kd.R_alloc | apply Kd.qF | apply Kd.qH)); exact HO1150.out) hb); have n1_ := qb.mk (qM (g := gb1145) (o := .cells #[.int .i64 a0_0, .slice A0_1 l0_1.length c0_1, .slice A0_2 l0_2.length c0_2] 25 (0, 0)) (by (with_reducible repeat (first | refine qw ?_ _ | refine qy ?_ | refine qp ?_ _)); exact BK1145.out) hb); have n2_ := qb.mk (qG (by repeat (first | (with_reducible first | exact HB.out | apply qc | apply qa | apply qd | refine qj ?_ GE1145.out) | exact HB.out)) hb); clear HO1150; clear BK1145; clear HB; have HO1150 := n0_; have BK1145 := n1_; have HB := n2_; clear n0_ n1_ n2_; (try clear hb); (try clear hb2); (try clear hk); (try clear hi); have hcz19_0 : w18.cell? ⟨gb1145, 0, none⟩ = some (.int .i64 a0_0) := (qi BK1145.out 0).trans rfl; have hcz19_1 : w18.cell? ⟨gb1145, 1, none⟩ = some (.slice A0_1 l0_1.length c0_1) := (qi BK1145.out 1).trans rfl; have hcz19_2 : w18.cell? ⟨gb1145, 2, none⟩ = some (.slice A0_2 l0_2.length c0_2) := (qi BK1145.out 2).trans rfl; have hfz19_0 := qh BK1145.out 0; have hfz19_1 := qh BK1145.out 1; have hfz19_2 := qh BK1145.out 2))
     go_meet
     case rel => exact ⟨_, (decide (a1 ≥ a0_0)), (by first | rfl | (simp; done) | (simp [*]; done)), H', ⟨by first | omega | exact Nat.le_refl _⟩, ⟨by (with_reducible repeat (first | apply Kd.R_alloc | apply Kd.qF | apply Kd.qH)); exact HO1150.out⟩, ⟨by (with_reducible repeat (first | refine qw ?_ _ | refine qy ?_ | refine qp ?_ _)); exact BK1145.out⟩, ⟨by repeat (first | (with_reducible first | exact HB.out | apply qc | apply qa | apply qd | refine qj ?_ GE1145.out) | exact HB.out)⟩⟩
   ·replace c13 := Bool.eq_false_iff.mpr c13
    subst c13
    have H1 : (qg.j0 k a1 t1148 true a0_0 l0_1 l0_2) = some r := by rw [if_neg (show ¬ (false = true) by decide)] at H; exact H
    clear H
    have H := H1
    clear H1
    have H' := qb.mk H
    clear H
    have hcz20_0 : w11.cell? ⟨gb1145, 0, none⟩ = some (.int .i64 a0_0) := (qi BK1145.out 0).trans rfl
    have hcz20_1 : w11.cell? ⟨gb1145, 1, none⟩ = some (.slice A0_1 l0_1.length c0_1) := (qi BK1145.out 1).trans rfl
    have hcz20_2 : w11.cell? ⟨gb1145, 2, none⟩ = some (.slice A0_2 l0_2.length c0_2) := (qi BK1145.out 2).trans rfl
    have hfz20_0 := qh BK1145.out 0
    have hfz20_1 := qh BK1145.out 1
    have hfz20_2 := qh BK1145.out 2
    go_wp2_with (first | ((with_reducible refine qR (f := 21) rfl ?_); refine vU (some 20) rfl rfl Try.func21 (by kernel_rfl) rfl #[.agg #[.int .i64 a0_0, .slice A0_1 l0_1.length c0_1, .slice A0_2 l0_2.length c0_2]] rfl (by (try simp only [List.map_toArray, List.map_cons, List.map_nil]); first | done | rfl | (simp only [List.length_drop, List.length_take]; rfl)) ?_; (with_reducible refine (q8.calls a0_0 _ _ l0_1 _ _ l0_2 false _ ?side1 ?side2 ?side3 ?side4 A12.out).mono ?_); (case side1 => repeat (first | exact (Kd.qW HR0_1.out HB.out) | (with_reducible refine Kd.C_alloc ?_ _) | (with_reducible refine Kd.C_drewN ?_ _) | (with_reducible refine Kd.C_drew ?_))); (case side2 => exact HC0_1.out); (case side3 => repeat (first | exact (Kd.qW HR0_2.out HB.out) | (with_reducible refine Kd.C_alloc ?_ _) | (with_reducible refine Kd.C_drewN ?_ _) | (with_reducible refine Kd.C_drew ?_))); (case side4 => exact HC0_2.out); rintro e w21 ⟨rfl, hb⟩; refine ⟨_, rfl, ?_⟩; have n0_ := qb.mk (Kd.qP (by (with_reducible repeat (first | apply Kd.R_alloc | apply Kd.qF | apply Kd.qH)); exact HO1150.out) hb); have n1_ := qb.mk (qM (g := gb1145) (o := .cells #[.int .i64 a0_0, .slice A0_1 l0_1.length c0_1, .slice A0_2 l0_2.length c0_2] 25 (0, 0)) (by (with_reducible repeat (first | refine qw ?_ _ | refine qy ?_ | refine qp ?_ _)); exact BK1145.out) hb); have n2_ := qb.mk (qG (by repeat (first | (with_reducible first | exact HB.out | apply qc | apply qa | apply qd | refine qj ?_ GE1145.out) | exact HB.out)) hb); clear HO1150; clear BK1145; clear HB; have HO1150 := n0_; have BK1145 := n1_; have HB := n2_; clear n0_ n1_ n2_; (try clear hb); (try clear hb2); (try clear hk); (try clear hi)))
    go_meet
    case rel => exact ⟨_, (true), (by first | rfl | (simp; done) | (simp [*]; done)), H', ⟨by first | omega | exact Nat.le_refl _⟩, ⟨by (with_reducible repeat (first | apply Kd.R_alloc | apply Kd.qF | apply Kd.qH)); exact HO1150.out⟩, ⟨by (with_reducible repeat (first | refine qw ?_ _ | refine qy ?_ | refine qp ?_ _)); exact BK1145.out⟩, ⟨by repeat (first | (with_reducible first | exact HB.out | apply qc | apply qa | apply qd | refine qj ?_ GE1145.out) | exact HB.out)⟩⟩
  case rest =>
   clear HC6
   try clear c1
   try clear c2
   try clear p2
   try clear c4
   try clear c6
   try clear c7
   try clear c13
   try clear c14
   try clear c14b0
   try clear c15
   try clear c21
   try clear hcz10_0
   try clear hcz10_1
   try clear hcz10_2
   try clear hcz15_0
   try clear hcz15_1
   try clear hcz15_2
   try clear hcz17_0
   try clear hcz17_1
   try clear hcz17_2
   try clear hcz19_0
   try clear hcz19_1
   try clear hcz19_2
   try clear hcz20_0
   try clear hcz20_1
   try clear hcz20_2
   try clear hcz8_0
   try clear hcz8_1
   try clear hcz8_2
   try clear hfz10_0
   try clear hfz10_1
   try clear hfz10_2
   try clear hfz15_0
   try clear hfz15_1
   try clear hfz15_2
   try clear hfz17_0
   try clear hfz17_1
   try clear hfz17_2
   try clear hfz19_0
   try clear hfz19_1
   try clear hfz19_2
   try clear hfz20_0
   try clear hfz20_1
   try clear hfz20_2
   try clear hfz8_0
   try clear hfz8_1
   try clear hfz8_2
   obtain ⟨kq, x31_5, rfl, HA, HJ5, HO_5, BK1145, HB⟩ := hcut
   cases kq with
   | zero => exact absurd HA.out (by simp [qg.j0])
   | succ kj5 =>
    have H := HA.out
    clear HA
    simp only [qg.j0] at H
    by_cases c22 : x31_5 = true
    ·subst c22
     have H1 : (if (t1148.length : Int) = 0 then ((qJ.f kj5).bind fun t1152 => (some t1152)) else (some false)) = some r := by rw [if_pos rfl] at H; exact H
     clear H
     have H := H1
     clear H1
     by_cases c23 : (t1148.length : Int) = 0
     ·rw [if_pos c23] at H
      have c23b0 : ((t1148.length : Int) == 0) = true := beq_iff_eq.mpr c23
      have c23b1 : ((t1148.length : Int) != 0) = false := bne_eq_false_iff_eq.mpr c23
      clear c23
      replace H := Option.bind_eq_some_iff.mp H
      obtain ⟨t1152, A240, H⟩ := H
      replace H : (some t1152) = some r := H
      have A24 := qb.mk A240
      clear A240
      obtain rfl := Option.some.inj H
      obtain ⟨Ao25, co25, eo25⟩ := Kd.vI HO_5.out
      subst eo25
      go_wp2_with (first | (go_at_call 64; (with_reducible refine (qJ.calls kj5  t1152 _ A24.out).mono ?_); rintro e w26 ⟨rfl, hb⟩; have n0_ := qb.mk (Kd.qP (by (with_reducible repeat (first | apply Kd.R_alloc | apply Kd.qF | apply Kd.qH)); exact HO_5.out) hb); have n1_ := qb.mk (qM (g := gb1145) (o := .cells #[.int .i64 a0_0, .slice A0_1 l0_1.length c0_1, .slice A0_2 l0_2.length c0_2] 25 (0, 0)) (by (with_reducible repeat (first | refine qw ?_ _ | refine qy ?_ | refine qp ?_ _)); exact BK1145.out) hb); have n2_ := qb.mk (qG (by repeat (first | (with_reducible first | exact HB.out | apply qc | apply qa | apply qd | refine qj ?_ GE1145.out) | exact HB.out)) hb); clear HO_5; clear BK1145; clear HB; have HO_5 := n0_; have BK1145 := n1_; have HB := n2_; clear n0_ n1_ n2_; (try clear hb); (try clear hb2); (try clear hk); (try clear hi)))
      go_ret
      exact ⟨by first | rfl | (simp [errW_none, errW_some] <;> rfl) | (simp [*, errW_none, errW_some] <;> rfl), by repeat (first | (with_reducible first | exact HB.out | apply qc | apply qa | apply qd | refine qj ?_ GE1145.out) | exact HB.out)⟩
     ·rw [if_neg c23] at H
      have c23b0 : ((t1148.length : Int) == 0) = false := beq_eq_false_iff_ne.mpr c23
      have c23b1 : ((t1148.length : Int) != 0) = true := bne_iff_ne.mpr c23
      have c23b2 : ¬ (t1148 = []) := fun h_ => c23 (by rw [h_]; rfl)
      obtain rfl := Option.some.inj H
      obtain ⟨Ao27, co27, eo27⟩ := Kd.vI HO_5.out
      subst eo27
      go_wp2
      go_ret
      exact ⟨by first | rfl | (simp [errW_none, errW_some] <;> rfl) | (simp [*, errW_none, errW_some] <;> rfl), by repeat (first | (with_reducible first | exact HB.out | apply qc | apply qa | apply qd | refine qj ?_ GE1145.out) | exact HB.out)⟩
    ·replace c22 := Bool.eq_false_iff.mpr c22
     subst c22
     have H1 : ((qo.f kj5 a0_0 l0_1 l0_2 a1).bind fun t1153 => (qg.l0 kj5 t1148 t1153 0 0 a0_0 l0_1 l0_2)) = some r := by rw [if_neg (show ¬ (false = true) by decide)] at H; exact H
     clear H
     have H := H1
     clear H1
     replace H := Option.bind_eq_some_iff.mp H
     obtain ⟨t1153, A280, H⟩ := H
     replace H : (qg.l0 kj5 t1148 t1153 0 0 a0_0 l0_1 l0_2) = some r := H
     have A28 := qb.mk A280
     clear A280
     have H' := qb.mk H
     clear H
     have hcz29_0 : wc.cell? ⟨gb1145, 0, none⟩ = some (.int .i64 a0_0) := (qi BK1145.out 0).trans rfl
     have hcz29_1 : wc.cell? ⟨gb1145, 1, none⟩ = some (.slice A0_1 l0_1.length c0_1) := (qi BK1145.out 1).trans rfl
     have hcz29_2 : wc.cell? ⟨gb1145, 2, none⟩ = some (.slice A0_2 l0_2.length c0_2) := (qi BK1145.out 2).trans rfl
     have hfz29_0 := qh BK1145.out 0
     have hfz29_1 := qh BK1145.out 1
     have hfz29_2 := qh BK1145.out 2
     go_wp2_with (first | ((with_reducible refine qR (f := 35) rfl ?_); refine vU (some 40) rfl rfl Try.func35 (by kernel_rfl) rfl #[.agg #[.int .i64 a0_0, .slice A0_1 l0_1.length c0_1, .slice A0_2 l0_2.length c0_2], .int .i64 a1] rfl (by (try simp only [List.map_toArray, List.map_cons, List.map_nil]); first | done | rfl | (simp only [List.length_drop, List.length_take]; rfl)) ?_; (with_reducible refine (qo.calls kj5 a0_0 _ _ l0_1 _ _ l0_2 a1 t1153 _ ?side1 ?side2 ?side3 ?side4 A28.out).mono ?_); (case side1 => repeat (first | exact (Kd.qW HR0_1.out HB.out) | (with_reducible refine Kd.C_alloc ?_ _) | (with_reducible refine Kd.C_drewN ?_ _) | (with_reducible refine Kd.C_drew ?_))); (case side2 => exact HC0_1.out); (case side3 => repeat (first | exact (Kd.qW HR0_2.out HB.out) | (with_reducible refine Kd.C_alloc ?_ _) | (with_reducible refine Kd.C_drewN ?_ _) | (with_reducible refine Kd.C_drew ?_))); (case side4 => exact HC0_2.out); rintro e w30 ⟨v1154, rfl, ho0, hb⟩; refine ⟨_, rfl, ?_⟩; have n0_ := qb.mk (Kd.qP (by (with_reducible repeat (first | apply Kd.R_alloc | apply Kd.qF | apply Kd.qH)); exact HO_5.out) hb); have n1_ := qb.mk (Kd.vV ho0 (qD (by repeat (first | (with_reducible first | exact HB.out | apply qc | apply qa | apply qd | refine qj ?_ GE1145.out) | exact HB.out)))); have n2_ := qb.mk (qM (g := gb1145) (o := .cells #[.int .i64 a0_0, .slice A0_1 l0_1.length c0_1, .slice A0_2 l0_2.length c0_2] 25 (0, 0)) (by (with_reducible repeat (first | refine qw ?_ _ | refine qy ?_ | refine qp ?_ _)); exact BK1145.out) hb); have n3_ := qb.mk (qG (by repeat (first | (with_reducible first | exact HB.out | apply qc | apply qa | apply qd | refine qj ?_ GE1145.out) | exact HB.out)) hb); clear HO_5; clear BK1145; clear HB; have HO_5 := n0_; have HO1155 := n1_; have BK1145 := n2_; have HB := n3_; clear n0_ n1_ n2_ n3_; (try clear hb); (try clear hb2); (try clear hk); (try clear hi); (try clear ho0)))
     go_loopg [7, 8] kj5 (fun kq v7 v8 w' => ∃ (x7_2 : Int) (x8_2 : Int), v7 = .int .i64 x7_2 ∧ v8 = .int .i64 x8_2 ∧ qb (qg.l0 kq t1148 t1153 x7_2 x8_2 a0_0 l0_1 l0_2 = some r) ∧ qb (kq ≤ kj5) ∧ qb (Kd.R (Kd.int .i64) 3 w' w.heap.size (fun _ => True) v1149 t1148) ∧ qb (Kd.R Kd.bool 4 w' w.heap.size (fun _ => True) v1154 t1153) ∧ qb (w'.heap[gb1145]? = some (.cells #[.int .i64 a0_0, (.slice A0_1 l0_1.length c0_1), (.slice A0_2 l0_2.length c0_2)] 25 (0, 0))) ∧ qb (Below w.heap.size w w'))
     case atStart => exact ⟨(0), (0), (by first | rfl | (simp; done) | (simp [*]; done)), (by first | rfl | (simp; done) | (simp [*]; done)), H', ⟨Nat.le_refl _⟩, ⟨by (with_reducible repeat (first | apply Kd.R_alloc | apply Kd.qF | apply Kd.qH)); exact HO_5.out⟩, ⟨by (with_reducible repeat (first | apply Kd.R_alloc | apply Kd.qF | apply Kd.qH)); exact HO1155.out⟩, ⟨by (with_reducible repeat (first | refine qw ?_ _ | refine qy ?_ | refine qp ?_ _)); exact BK1145.out⟩, ⟨by repeat (first | (with_reducible first | exact HB.out | apply qc | apply qa | apply qd | refine qj ?_ GE1145.out) | exact HB.out)⟩⟩
     case round =>
      clear H'
      try clear c1
      try clear c2
      try clear p2
      try clear c3
      try clear c4
      try clear c6
      try clear c7
      try clear c13
      try clear c14
      try clear c14b0
      try clear c15
      try clear c21
      try clear c22
      try clear c23
      try clear c23b0
      try clear c23b1
      try clear c23b2
      try clear hcz10_0
      try clear hcz10_1
      try clear hcz10_2
      try clear hcz15_0
      try clear hcz15_1
      try clear hcz15_2
      try clear hcz17_0
      try clear hcz17_1
      try clear hcz17_2
      try clear hcz19_0
      try clear hcz19_1
      try clear hcz19_2
      try clear hcz20_0
      try clear hcz20_1
      try clear hcz20_2
      try clear hcz29_0
      try clear hcz29_1
      try clear hcz29_2
      try clear hcz8_0
      try clear hcz8_1
      try clear hcz8_2
      try clear hfz10_0
      try clear hfz10_1
      try clear hfz10_2
      try clear hfz15_0
      try clear hfz15_1
      try clear hfz15_2
      try clear hfz17_0
      try clear hfz17_1
      try clear hfz17_2
      try clear hfz19_0
      try clear hfz19_1
      try clear hfz19_2
      try clear hfz20_0
      try clear hfz20_1
      try clear hfz20_2
      try clear hfz29_0
      try clear hfz29_1
      try clear hfz29_2
      try clear hfz8_0
      try clear hfz8_1
      try clear hfz8_2
      try clear p2
      obtain ⟨x7_2, x8_2, rfl, rfl, HA, HK2, HO_5, HO_6, BK1145, HB⟩ := hrel
      cases gk with
      | zero => exact absurd HA.out (by simp [qg.l0])
      | succ k2 =>
       have H := HA.out
       clear HA
       simp only [qg.l0] at H
       by_cases c31 : x8_2 < (t1153.length : Int)
       ·rw [if_pos c31] at H
        have c31b0 : decide (x8_2 < (t1153.length : Int)) = true := decide_eq_true c31
        clear c31
        by_cases c32 : 0 ≤ x8_2
        ·rw [if_pos c32] at H
         have c32b0 : decide (0 ≤ x8_2) = true := decide_eq_true c32
         clear c32
         obtain ⟨bq33, hbq33⟩ : ∃ b_ : Bool, b_ = (rdOf false t1153 x8_2) := ⟨_, rfl⟩
         replace H : (if bq33 = true then (if x7_2 ≥ (t1148.length : Int) then (some false) else (if 0 ≤ x7_2 then (if x7_2 < (t1148.length : Int) then (if (rd t1148 x7_2) = x8_2 then (qg.l0 k2 t1148 t1153 (wrap64 (x7_2 + 1)) (wrap64 (x8_2 + 1)) a0_0 l0_1 l0_2) else (some false)) else (none)) else (none))) else (qg.l0 k2 t1148 t1153 x7_2 (wrap64 (x8_2 + 1)) a0_0 l0_1 l0_2)) = some r := by rw [← hbq33] at H; exact H
         have Nbq33 := qb.mk hbq33
         clear hbq33
         by_cases c34 : bq33 = true
         ·subst c34
          have H1 : (if x7_2 ≥ (t1148.length : Int) then (some false) else (if 0 ≤ x7_2 then (if x7_2 < (t1148.length : Int) then (if (rd t1148 x7_2) = x8_2 then (qg.l0 k2 t1148 t1153 (wrap64 (x7_2 + 1)) (wrap64 (x8_2 + 1)) a0_0 l0_1 l0_2) else (some false)) else (none)) else (none))) = some r := by rw [if_pos rfl] at H; exact H
          clear H
          have H := H1
          clear H1
          by_cases c35 : x7_2 ≥ (t1148.length : Int)
          ·rw [if_pos c35] at H
           have c35b0 : decide ((t1148.length : Int) ≤ x7_2) = true := decide_eq_true c35
           clear c35
           obtain rfl := Option.some.inj H
           obtain ⟨Ao36, co36, eo36⟩ := Kd.vI HO_6.out
           subst eo36
           have p1156 : 0 ≤ (x8_2 : Int) := of_decide_eq_true (by first | (with_reducible assumption) | assumption)
           have q1156 : x8_2 < (t1153.length : Int) := of_decide_eq_true (by first | (with_reducible assumption) | assumption)
           obtain ⟨ad1156, e1156, hx1156_0⟩ := Kd.zG (Kd.qN HO_6.out).2.2 x8_2 p1156 q1156
           (try rw [← Nbq33.out] at hx1156_0)
           cases e1156
           replace p1156 := eq_true p1156
           replace q1156 := eq_true q1156
           obtain ⟨Ao37, co37, eo37⟩ := Kd.vI HO_5.out
           subst eo37
           go_wp2
           go_ret
           exact ⟨by first | rfl | (simp [errW_none, errW_some] <;> rfl) | (simp [*, errW_none, errW_some] <;> rfl), by repeat (first | (with_reducible first | exact HB.out | apply qc | apply qa | apply qd | refine qj ?_ GE1145.out) | exact HB.out)⟩
          ·rw [if_neg c35] at H
           have c35b0 : decide ((t1148.length : Int) ≤ x7_2) = false := decide_eq_false c35
           clear c35
           by_cases c38 : 0 ≤ x7_2
           ·rw [if_pos c38] at H
            have c38b0 : decide (0 ≤ x7_2) = true := decide_eq_true c38
            clear c38
            by_cases c39 : x7_2 < (t1148.length : Int)
            ·rw [if_pos c39] at H
             have c39b0 : decide (x7_2 < (t1148.length : Int)) = true := decide_eq_true c39
             clear c39
             by_cases c40 : (rd t1148 x7_2) = x8_2
             ·rw [if_pos c40] at H
              have c40b0 : ((rd t1148 x7_2) == x8_2) = true := beq_iff_eq.mpr c40
              have c40b1 : ((rd t1148 x7_2) != x8_2) = false := bne_eq_false_iff_eq.mpr c40
              clear c40
              have H' := qb.mk H
              clear H
              obtain ⟨Ao41, co41, eo41⟩ := Kd.vI HO_6.out
              subst eo41
              have p1156 : 0 ≤ (x8_2 : Int) := of_decide_eq_true (by first | (with_reducible assumption) | assumption)
              have q1156 : x8_2 < (t1153.length : Int) := of_decide_eq_true (by first | (with_reducible assumption) | assumption)
              obtain ⟨ad1156, e1156, hx1156_0⟩ := Kd.zG (Kd.qN HO_6.out).2.2 x8_2 p1156 q1156
              (try rw [← Nbq33.out] at hx1156_0)
              cases e1156
              replace p1156 := eq_true p1156
              replace q1156 := eq_true q1156
              obtain ⟨Ao42, co42, eo42⟩ := Kd.vI HO_5.out
              subst eo42
              have p1157 : 0 ≤ (x7_2 : Int) := of_decide_eq_true (by first | (with_reducible assumption) | assumption)
              have q1157 : x7_2 < (t1148.length : Int) := of_decide_eq_true (by first | (with_reducible assumption) | assumption)
              obtain ⟨ad1157, e1157, hx1157_0⟩ := Kd.zK (Kd.qN HO_5.out).2.2 x7_2 p1157 q1157
              cases e1157
              replace p1157 := eq_true p1157
              replace q1157 := eq_true q1157
              go_wp2
              go_roundg k2
              case measure => have := HJ5.out; have := HK2.out; omega
              case rel => exact ⟨(wrap64 (x7_2 + 1)), (wrap64 (x8_2 + 1)), (by first | rfl | (simp; done) | (simp [*]; done)), (by first | rfl | (simp; done) | (simp [*]; done)), H', ⟨by have := HJ5.out; have := HK2.out; omega⟩, ⟨by (with_reducible repeat (first | apply Kd.R_alloc | apply Kd.qF | apply Kd.qH)); exact HO_5.out⟩, ⟨by (with_reducible repeat (first | apply Kd.R_alloc | apply Kd.qF | apply Kd.qH)); exact HO_6.out⟩, ⟨by (with_reducible repeat (first | refine qw ?_ _ | refine qy ?_ | refine qp ?_ _)); exact BK1145.out⟩, ⟨by repeat (first | (with_reducible first | exact HB.out | apply qc | apply qa | apply qd | refine qj ?_ GE1145.out) | exact HB.out)⟩⟩
             ·rw [if_neg c40] at H
              have c40b0 : ((rd t1148 x7_2) == x8_2) = false := beq_eq_false_iff_ne.mpr c40
              have c40b1 : ((rd t1148 x7_2) != x8_2) = true := bne_iff_ne.mpr c40
              obtain rfl := Option.some.inj H
              obtain ⟨Ao43, co43, eo43⟩ := Kd.vI HO_6.out
              subst eo43
              have p1156 : 0 ≤ (x8_2 : Int) := of_decide_eq_true (by first | (with_reducible assumption) | assumption)
              have q1156 : x8_2 < (t1153.length : Int) := of_decide_eq_true (by first | (with_reducible assumption) | assumption)
              obtain ⟨ad1156, e1156, hx1156_0⟩ := Kd.zG (Kd.qN HO_6.out).2.2 x8_2 p1156 q1156
              (try rw [← Nbq33.out] at hx1156_0)
              cases e1156
              replace p1156 := eq_true p1156
              replace q1156 := eq_true q1156
              obtain ⟨Ao44, co44, eo44⟩ := Kd.vI HO_5.out
              subst eo44
              have p1157 : 0 ≤ (x7_2 : Int) := of_decide_eq_true (by first | (with_reducible assumption) | assumption)
              have q1157 : x7_2 < (t1148.length : Int) := of_decide_eq_true (by first | (with_reducible assumption) | assumption)
              obtain ⟨ad1157, e1157, hx1157_0⟩ := Kd.zK (Kd.qN HO_5.out).2.2 x7_2 p1157 q1157
              cases e1157
              replace p1157 := eq_true p1157
              replace q1157 := eq_true q1157
              go_wp2
              go_ret
              exact ⟨by first | rfl | (simp [errW_none, errW_some] <;> rfl) | (simp [*, errW_none, errW_some] <;> rfl), by repeat (first | (with_reducible first | exact HB.out | apply qc | apply qa | apply qd | refine qj ?_ GE1145.out) | exact HB.out)⟩
            ·rw [if_neg c39] at H
             exact absurd H (by simp)
           ·rw [if_neg c38] at H
            exact absurd H (by simp)
         ·replace c34 := Bool.eq_false_iff.mpr c34
          subst c34
          have H1 : (qg.l0 k2 t1148 t1153 x7_2 (wrap64 (x8_2 + 1)) a0_0 l0_1 l0_2) = some r := by rw [if_neg (show ¬ (false = true) by decide)] at H; exact H
          clear H
          have H := H1
          clear H1
          have H' := qb.mk H
          clear H
          obtain ⟨Ao45, co45, eo45⟩ := Kd.vI HO_6.out
          subst eo45
          have p1156 : 0 ≤ (x8_2 : Int) := of_decide_eq_true (by first | (with_reducible assumption) | assumption)
          have q1156 : x8_2 < (t1153.length : Int) := of_decide_eq_true (by first | (with_reducible assumption) | assumption)
          obtain ⟨ad1156, e1156, hx1156_0⟩ := Kd.zG (Kd.qN HO_6.out).2.2 x8_2 p1156 q1156
          (try rw [← Nbq33.out] at hx1156_0)
          cases e1156
          replace p1156 := eq_true p1156
          replace q1156 := eq_true q1156
          go_wp2
          go_roundg k2
          case measure => have := HJ5.out; have := HK2.out; omega
          case rel => exact ⟨(x7_2), (wrap64 (x8_2 + 1)), (by first | rfl | (simp; done) | (simp [*]; done)), (by first | rfl | (simp; done) | (simp [*]; done)), H', ⟨by have := HJ5.out; have := HK2.out; omega⟩, ⟨by (with_reducible repeat (first | apply Kd.R_alloc | apply Kd.qF | apply Kd.qH)); exact HO_5.out⟩, ⟨by (with_reducible repeat (first | apply Kd.R_alloc | apply Kd.qF | apply Kd.qH)); exact HO_6.out⟩, ⟨by (with_reducible repeat (first | refine qw ?_ _ | refine qy ?_ | refine qp ?_ _)); exact BK1145.out⟩, ⟨by repeat (first | (with_reducible first | exact HB.out | apply qc | apply qa | apply qd | refine qj ?_ GE1145.out) | exact HB.out)⟩⟩
        ·rw [if_neg c32] at H
         exact absurd H (by simp)
       ·rw [if_neg c31] at H
        have c31b0 : decide (x8_2 < (t1153.length : Int)) = false := decide_eq_false c31
        clear c31
        have H' := qb.mk H
        clear H
        obtain ⟨Ao46, co46, eo46⟩ := Kd.vI HO_6.out
        subst eo46
        go_wp2
        go_loopg [9] k2 (fun kq v9 w' => ∃ (x9_3 : Int), v9 = .int .i64 x9_3 ∧ qb (qg.l1 kq t1148 t1153 x7_2 x9_3 a0_0 l0_1 l0_2 = some r) ∧ qb (kq ≤ k2) ∧ qb (Kd.R (Kd.int .i64) 3 w' w.heap.size (fun _ => True) v1149 t1148) ∧ qb (Kd.R Kd.bool 4 w' w.heap.size (fun _ => True) (.slice Ao46 t1153.length co46) t1153) ∧ qb (w'.heap[gb1145]? = some (.cells #[.int .i64 a0_0, (.slice A0_1 l0_1.length c0_1), (.slice A0_2 l0_2.length c0_2)] 25 (0, 0))) ∧ qb (Below w.heap.size w w'))
        case atStart => exact ⟨(0), (by first | rfl | (simp; done) | (simp [*]; done)), H', ⟨Nat.le_refl _⟩, ⟨by (with_reducible repeat (first | apply Kd.R_alloc | apply Kd.qF | apply Kd.qH)); exact HO_5.out⟩, ⟨by (with_reducible repeat (first | apply Kd.R_alloc | apply Kd.qF | apply Kd.qH)); exact HO_6.out⟩, ⟨by (with_reducible repeat (first | refine qw ?_ _ | refine qy ?_ | refine qp ?_ _)); exact BK1145.out⟩, ⟨by repeat (first | (with_reducible first | exact HB.out | apply qc | apply qa | apply qd | refine qj ?_ GE1145.out) | exact HB.out)⟩⟩
        case round =>
         clear H'
         try clear c1
         try clear p1
         try clear q1
         try clear hx1
         try clear c2
         try clear p2
         try clear c3
         try clear q3
         try clear c4
         try clear c6
         try clear p6
         try clear c7
         try clear p11
         try clear q11
         try clear hx11
         try clear c13
         try clear c14
         try clear c14b0
         try clear c15
         try clear c21
         try clear c22
         try clear c23
         try clear c23b0
         try clear c23b1
         try clear c23b2
         try clear c31
         try clear c31b0
         try clear c32
         try clear c32b0
         try clear q33
         try clear c34
         try clear c35
         try clear c35b0
         try clear c38
         try clear c38b0
         try clear c39
         try clear c39b0
         try clear c40
         try clear c40b0
         try clear c40b1
         try clear hcz10_0
         try clear hcz10_1
         try clear hcz10_2
         try clear hcz15_0
         try clear hcz15_1
         try clear hcz15_2
         try clear hcz17_0
         try clear hcz17_1
         try clear hcz17_2
         try clear hcz19_0
         try clear hcz19_1
         try clear hcz19_2
         try clear hcz20_0
         try clear hcz20_1
         try clear hcz20_2
         try clear hcz29_0
         try clear hcz29_1
         try clear hcz29_2
         try clear hcz8_0
         try clear hcz8_1
         try clear hcz8_2
         try clear hfz10_0
         try clear hfz10_1
         try clear hfz10_2
         try clear hfz15_0
         try clear hfz15_1
         try clear hfz15_2
         try clear hfz17_0
         try clear hfz17_1
         try clear hfz17_2
         try clear hfz19_0
         try clear hfz19_1
         try clear hfz19_2
         try clear hfz20_0
         try clear hfz20_1
         try clear hfz20_2
         try clear hfz29_0
         try clear hfz29_1
         try clear hfz29_2
         try clear hfz8_0
         try clear hfz8_1
         try clear hfz8_2
         try clear hx1156_0
         try clear hx1157_0
         try clear p1156
         try clear p1157
         try clear p2
         try clear q1156
         try clear q1157
         obtain ⟨x9_3, rfl, HA, HK3, HO_5, HO_6, BK1145, HB⟩ := hrel
         cases gk with
         | zero => exact absurd HA.out (by simp [qg.l1])
         | succ k3 =>
          have H := HA.out
          clear HA
          simp only [qg.l1] at H
          by_cases c47 : x9_3 < (t1148.length : Int)
          ·rw [if_pos c47] at H
           have c47b0 : decide (x9_3 < (t1148.length : Int)) = true := decide_eq_true c47
           clear c47
           by_cases c48 : 0 ≤ x9_3
           ·rw [if_pos c48] at H
            have c48b0 : decide (0 ≤ x9_3) = true := decide_eq_true c48
            clear c48
            replace H := Option.bind_eq_some_iff.mp H
            obtain ⟨t1160, A490, H⟩ := H
            replace H : (qg.l2 k3 t1148 t1153 x7_2 x9_3 t1160 0 a0_0 l0_1 l0_2) = some r := H
            have A49 := qb.mk A490
            clear A490
            have H' := qb.mk H
            clear H
            obtain ⟨Ao50, co50, eo50⟩ := Kd.vI HO_5.out
            subst eo50
            try go_wp2
            have n0_ := qb.mk (Kd.qH HO_5.out)
            have n1_ := qb.mk (Kd.qH HO_6.out)
            have n2_ := qb.mk (qy BK1145.out)
            have n3_ := qb.mk (qd HB.out)
            clear HO_5
            clear HO_6
            clear BK1145
            clear HB
            have HO_5 := n0_
            have HO_6 := n1_
            have BK1145 := n2_
            have HB := n3_
            clear n0_ n1_ n2_ n3_
            have p1159 : 0 ≤ (x9_3 : Int) := of_decide_eq_true (by first | (with_reducible assumption) | assumption)
            have q1159 : x9_3 < (t1148.length : Int) := of_decide_eq_true (by first | (with_reducible assumption) | assumption)
            obtain ⟨ad1159, e1159, hx1159_0⟩ := Kd.zK (Kd.qN HO_5.out).2.2 x9_3 p1159 q1159
            cases e1159
            replace p1159 := eq_true p1159
            replace q1159 := eq_true q1159
            refine zV (n := 7) (S := fun w' => w'.cell? ⟨gb1145, 0, none⟩ = some (.int .i64 a0_0) ∧ w'.cell? ⟨gb1145, 1, none⟩ = some (.slice A0_1 l0_1.length c0_1) ∧ w'.cell? ⟨gb1145, 2, none⟩ = some (.slice A0_2 l0_2.length c0_2) ∧ w'.cell? (ad1159.add (x9_3).toNat) = some (.int .i64 (rd t1148 x9_3))) (ds := []) #[false, false, false, false, false, false, false] (by kernel_rfl) rfl rfl ⟨(qi BK1145.out 0).trans rfl, (qi BK1145.out 1).trans rfl, (qi BK1145.out 2).trans rfl, hx1159_0⟩ (fun hHeld => ?_)
            generalize wr.drew = w51 at HO_5 HO_6 BK1145 HB hx1159_0 hHeld ⊢
            refine qx (i := 1) (N := some 73) (v := ?_) (a' := ?_) #[false, true, false, false, false, false, false] rfl rfl (by kernel_rfl) (fun _ _ _ h => h) (Or.inl ⟨by rfl, ?_⟩) ?_ ?_
            rotate_left
            ·intro w'
             go_simp
             with_reducible rfl
            rotate_left
            ·simp only [Act.put, sA, sB, sC, ql, qm]
             rfl
            refine qx (i := 2) (N := some 74) (v := ?_) (a' := ?_) #[false, true, true, false, false, false, false] rfl rfl (by kernel_rfl) (fun _ _ _ h => h) (Or.inl ⟨by rfl, ?_⟩) ?_ ?_
            rotate_left
            ·intro w'
             go_simp
             with_reducible rfl
            rotate_left
            ·simp only [Act.put, sA, sB, sC, ql, qm]
             rfl
            refine qx (i := 3) (N := some 75) (v := ?_) (a' := ?_) #[false, true, true, true, false, false, false] rfl rfl (by kernel_rfl) (fun _ _ _ h => h) (Or.inl ⟨by rfl, ?_⟩) ?_ ?_
            rotate_left
            ·intro w'
             go_simp
             with_reducible rfl
            rotate_left
            ·simp only [Act.put, sA, sB, sC, ql, qm]
             rfl
            refine vz (i := 0) (N := some 72) (v := ?_) (a' := ?_) #[true, true, true, true, false, false, false] rfl rfl (by kernel_rfl) (fun _ _ _ h => h) (Or.inl ⟨by rfl, ?_⟩) hHeld ?_ ?_
            rotate_left
            ·rintro w' ⟨s0, s1, s2, s3⟩
             go_simp
             with_reducible rfl
            rotate_left
            ·simp only [Act.put, sA, sB, sC, ql, qm]
             rfl
            refine vz (i := 4) (N := some 76) (v := ?_) (a' := ?_) #[true, true, true, true, true, false, false] rfl rfl (by kernel_rfl) (fun _ _ _ h => h) (Or.inl ⟨by rfl, ?_⟩) hHeld ?_ ?_
            rotate_left
            ·rintro w' ⟨s0, s1, s2, s3⟩
             go_simp
             with_reducible rfl
            rotate_left
            ·simp only [Act.put, sA, sB, sC, ql, qm]
             rfl
            refine one_ (i := 5) (N := some 77) #[true, true, true, true, true, true, false] rfl rfl (by kernel_rfl) (by decide) (fun K hK => ?_)
            refine jE Try.func73 (by kernel_rfl) rfl #[.agg #[.int .i64 a0_0, .slice A0_1 l0_1.length c0_1, .slice A0_2 l0_2.length c0_2], .int .i64 (rd t1148 x9_3)] (by rfl) rfl rfl (by (try simp only [List.map_toArray, List.map_cons, List.map_nil]); first | done | rfl | (simp only [List.length_drop, List.length_take]; rfl)) ?_
            with_reducible refine (qz.calls k3 a0_0 _ _ l0_1 _ _ l0_2 (rd t1148 x9_3) t1160 _ ?side1 ?side2 ?side3 ?side4 A49.out).mono ?_
            (case side1 => repeat (first | exact (Kd.qW HR0_1.out HB.out) | (with_reducible refine Kd.C_alloc ?_ _) | (with_reducible refine Kd.C_drewN ?_ _) | (with_reducible refine Kd.C_drew ?_)))
            (case side2 => exact HC0_1.out)
            (case side3 => repeat (first | exact (Kd.qW HR0_2.out HB.out) | (with_reducible refine Kd.C_alloc ?_ _) | (with_reducible refine Kd.C_drewN ?_ _) | (with_reducible refine Kd.C_drew ?_)))
            (case side4 => exact HC0_2.out)
            rintro e w52 ⟨v1161, rfl, ho0, hb⟩
            have HS3_ := (hb.cell (World.block_lt_of_cell? _ _ (hHeld.2.2.2))).trans (hHeld.2.2.2)
            refine ⟨_, rfl, ?_⟩
            have n0_ := qb.mk (Kd.vX (by (with_reducible repeat (first | apply Kd.R_alloc | apply Kd.qF | apply Kd.qH)); exact HO_5.out) (Kd.zq ho0) hb)
            have n1_ := qb.mk (Kd.qP (by (with_reducible repeat (first | apply Kd.R_alloc | apply Kd.qF | apply Kd.qH)); exact HO_6.out) hb)
            have n2_ := qb.mk (Kd.vV (Kd.zI ho0 (Kd.R_lt (by (with_reducible repeat (first | apply Kd.R_alloc | apply Kd.qF | apply Kd.qH)); exact HO_5.out))) (qD (by repeat (first | (with_reducible first | exact HB.out | apply qc | apply qa | apply qd | refine qj ?_ GE1145.out) | exact HB.out))))
            have n3_ := qb.mk (qM (g := gb1145) (o := .cells #[.int .i64 a0_0, .slice A0_1 l0_1.length c0_1, .slice A0_2 l0_2.length c0_2] 25 (0, 0)) (by (with_reducible repeat (first | refine qw ?_ _ | refine qy ?_ | refine qp ?_ _)); exact BK1145.out) hb)
            have n4_ := qb.mk (qG (by repeat (first | (with_reducible first | exact HB.out | apply qc | apply qa | apply qd | refine qj ?_ GE1145.out) | exact HB.out)) hb)
            clear HO_5
            clear HO_6
            clear BK1145
            clear HB
            have HO_5 := n0_
            have HO_6 := n1_
            have HO1162 := n2_
            have BK1145 := n3_
            have HB := n4_
            clear n0_ n1_ n2_ n3_ n4_
            (try clear hb)
            (try clear hb2)
            (try clear hk)
            (try clear hi)
            (try clear ho0)
            refine hK.out _ _ ⟨(qi BK1145.out 0).trans rfl, (qi BK1145.out 1).trans rfl, (qi BK1145.out 2).trans rfl, HS3_⟩ (fun hHeld => ?_)
            clear hK K
            refine wH (a' := ?_) ?_ ?_
            rotate_left
            ·show Act.put _ (some 77) _ = _
             simp only [Act.put, sA, sB, sC, ql, qm]
             rfl
            refine qx (i := 6) (N := some 10) (v := ?_) (a' := ?_) #[true, true, true, true, true, true, true] rfl rfl (by kernel_rfl) (fun _ _ _ h => h) (Or.inl ⟨by rfl, ?_⟩) ?_ ?_
            rotate_left
            ·intro w'
             go_simp
             with_reducible rfl
            rotate_left
            ·simp only [Act.put, sA, sB, sC, ql, qm]
             rfl
            refine zQ (by kernel_rfl) ?_
            try go_wp2
            go_loopg [11] k3 (fun kq v11 w' => ∃ (x11_4 : Int), v11 = .int .i64 x11_4 ∧ qb (qg.l2 kq t1148 t1153 x7_2 x9_3 t1160 x11_4 a0_0 l0_1 l0_2 = some r) ∧ qb (kq ≤ k3) ∧ qb (Kd.R (Kd.int .i64) 3 w' w.heap.size (fun k_ => some k_ ≠ (v1161 : Value).ownBlock) (.slice (some ad1159) t1148.length co50) t1148) ∧ qb (Kd.R Kd.bool 4 w' w.heap.size (fun _ => True) (.slice Ao46 t1153.length co46) t1153) ∧ qb (Kd.R (Kd.int .i64) 3 w' w.heap.size (fun k_ => some k_ ≠ ((.slice (some ad1159) t1148.length co50) : Value).ownBlock) v1161 t1160) ∧ qb (w'.heap[gb1145]? = some (.cells #[.int .i64 a0_0, (.slice A0_1 l0_1.length c0_1), (.slice A0_2 l0_2.length c0_2)] 25 (0, 0))) ∧ qb (Below w.heap.size w w'))
            case atStart => exact ⟨(0), (by first | rfl | (simp; done) | (simp [*]; done)), H', ⟨Nat.le_refl _⟩, ⟨by (with_reducible repeat (first | apply Kd.R_alloc | apply Kd.qF | apply Kd.qH)); exact Kd.zb HO_5.out (fun _ hk => hk.2)⟩, ⟨by (with_reducible repeat (first | apply Kd.R_alloc | apply Kd.qF | apply Kd.qH)); exact HO_6.out⟩, ⟨by (with_reducible repeat (first | apply Kd.R_alloc | apply Kd.qF | apply Kd.qH)); exact Kd.zb HO1162.out (fun _ hk => hk.2)⟩, ⟨by (with_reducible repeat (first | refine qw ?_ _ | refine qy ?_ | refine qp ?_ _)); exact BK1145.out⟩, ⟨by repeat (first | (with_reducible first | exact HB.out | apply qc | apply qa | apply qd | refine qj ?_ GE1145.out) | exact HB.out)⟩⟩
            case round =>
             clear H'
             try clear c1
             try clear p1
             try clear q1
             try clear hx1
             try clear c2
             try clear p2
             try clear c3
             try clear q3
             try clear c4
             try clear c6
             try clear p6
             try clear c7
             try clear p11
             try clear q11
             try clear hx11
             try clear c13
             try clear c14
             try clear c14b0
             try clear c15
             try clear c21
             try clear c22
             try clear c23
             try clear c23b0
             try clear c23b1
             try clear c23b2
             try clear c31
             try clear c31b0
             try clear c32
             try clear c32b0
             try clear q33
             try clear c34
             try clear c35
             try clear c35b0
             try clear c38
             try clear c38b0
             try clear c39
             try clear c39b0
             try clear c40
             try clear c40b0
             try clear c40b1
             try clear c47
             try clear c47b0
             try clear c48
             try clear c48b0
             try clear hcz10_0
             try clear hcz10_1
             try clear hcz10_2
             try clear hcz15_0
             try clear hcz15_1
             try clear hcz15_2
             try clear hcz17_0
             try clear hcz17_1
             try clear hcz17_2
             try clear hcz19_0
             try clear hcz19_1
             try clear hcz19_2
             try clear hcz20_0
             try clear hcz20_1
             try clear hcz20_2
             try clear hcz29_0
             try clear hcz29_1
             try clear hcz29_2
             try clear hcz8_0
             try clear hcz8_1
             try clear hcz8_2
             try clear hfz10_0
             try clear hfz10_1
             try clear hfz10_2
             try clear hfz15_0
             try clear hfz15_1
             try clear hfz15_2
             try clear hfz17_0
             try clear hfz17_1
             try clear hfz17_2
             try clear hfz19_0
             try clear hfz19_1
             try clear hfz19_2
             try clear hfz20_0
             try clear hfz20_1
             try clear hfz20_2
             try clear hfz29_0
             try clear hfz29_1
             try clear hfz29_2
             try clear hfz8_0
             try clear hfz8_1
             try clear hfz8_2
             try clear hx1156_0
             try clear hx1157_0
             try clear hx1159_0
             try clear p1
             try clear p11
             try clear p1156
             try clear p1157
             try clear p1159
             try clear p2
             try clear p6
             try clear q1
             try clear q11
             try clear q1156
             try clear q1157
             try clear q1159
             try clear q3
             try clear q33
             obtain ⟨x11_4, rfl, HA, HK4, HO_5, HO_6, HO_10, BK1145, HB⟩ := hrel
             cases gk with
             | zero => exact absurd HA.out (by simp [qg.l2])
             | succ k4 =>
              have H := HA.out
              clear HA
              simp only [qg.l2] at H
              by_cases c53 : x11_4 < (t1160.length : Int)
              ·rw [if_pos c53] at H
               have c53b0 : decide (x11_4 < (t1160.length : Int)) = true := decide_eq_true c53
               clear c53
               by_cases c54 : 0 ≤ x11_4
               ·rw [if_pos c54] at H
                have c54b0 : decide (0 ≤ x11_4) = true := decide_eq_true c54
                clear c54
                by_cases c55 : (rd t1160 x11_4) < 0
                ·rw [if_pos c55] at H
                 have c55b0 : decide ((rd t1160 x11_4) < 0) = true := decide_eq_true c55
                 clear c55
                 obtain rfl := Option.some.inj H
                 obtain ⟨Ao56, co56, eo56⟩ := Kd.vI HO_10.out
                 subst eo56
                 have p1163 : 0 ≤ (x11_4 : Int) := of_decide_eq_true (by first | (with_reducible assumption) | assumption)
                 have q1163 : x11_4 < (t1160.length : Int) := of_decide_eq_true (by first | (with_reducible assumption) | assumption)
                 obtain ⟨ad1163, e1163, hx1163_0⟩ := Kd.zK (Kd.qN HO_10.out).2.2 x11_4 p1163 q1163
                 cases e1163
                 replace p1163 := eq_true p1163
                 replace q1163 := eq_true q1163
                 go_wp2
                 go_ret
                 exact ⟨by first | rfl | (simp [errW_none, errW_some] <;> rfl) | (simp [*, errW_none, errW_some] <;> rfl), by repeat (first | (with_reducible first | exact HB.out | apply qc | apply qa | apply qd | refine qj ?_ GE1145.out) | exact HB.out)⟩
                ·rw [if_neg c55] at H
                 have c55b0 : decide ((rd t1160 x11_4) < 0) = false := decide_eq_false c55
                 clear c55
                 by_cases c57 : (rd t1160 x11_4) ≥ (t1153.length : Int)
                 ·rw [if_pos c57] at H
                  have c57b0 : decide ((t1153.length : Int) ≤ (rd t1160 x11_4)) = true := decide_eq_true c57
                  clear c57
                  obtain rfl := Option.some.inj H
                  obtain ⟨Ao58, co58, eo58⟩ := Kd.vI HO_10.out
                  subst eo58
                  have p1163 : 0 ≤ (x11_4 : Int) := of_decide_eq_true (by first | (with_reducible assumption) | assumption)
                  have q1163 : x11_4 < (t1160.length : Int) := of_decide_eq_true (by first | (with_reducible assumption) | assumption)
                  obtain ⟨ad1163, e1163, hx1163_0⟩ := Kd.zK (Kd.qN HO_10.out).2.2 x11_4 p1163 q1163
                  cases e1163
                  replace p1163 := eq_true p1163
                  replace q1163 := eq_true q1163
                  have p1164 : 0 ≤ (x11_4 : Int) := of_decide_eq_true (by first | (with_reducible assumption) | assumption)
                  have q1164 : x11_4 < (t1160.length : Int) := of_decide_eq_true (by first | (with_reducible assumption) | assumption)
                  obtain ⟨ad1164, e1164, hx1164_0⟩ := Kd.zK (Kd.qN HO_10.out).2.2 x11_4 p1164 q1164
                  obtain rfl : ad1163 = ad1164 := (by injection e1164)
                  replace p1164 := eq_true p1164
                  replace q1164 := eq_true q1164
                  go_wp2
                  go_ret
                  exact ⟨by first | rfl | (simp [errW_none, errW_some] <;> rfl) | (simp [*, errW_none, errW_some] <;> rfl), by repeat (first | (with_reducible first | exact HB.out | apply qc | apply qa | apply qd | refine qj ?_ GE1145.out) | exact HB.out)⟩
                 ·rw [if_neg c57] at H
                  have c57b0 : decide ((t1153.length : Int) ≤ (rd t1160 x11_4)) = false := decide_eq_false c57
                  clear c57
                  by_cases c59 : 0 ≤ (rd t1160 x11_4)
                  ·rw [if_pos c59] at H
                   have c59b0 : decide (0 ≤ (rd t1160 x11_4)) = true := decide_eq_true c59
                   clear c59
                   by_cases c60 : (rd t1160 x11_4) < (t1153.length : Int)
                   ·rw [if_pos c60] at H
                    have c60b0 : decide ((rd t1160 x11_4) < (t1153.length : Int)) = true := decide_eq_true c60
                    clear c60
                    obtain ⟨bq61, hbq61⟩ : ∃ b_ : Bool, b_ = (rdOf false t1153 (rd t1160 x11_4)) := ⟨_, rfl⟩
                    replace H : (if (bq61 = true) then (qg.l2 k4 t1148 t1153 x7_2 x9_3 t1160 (wrap64 (x11_4 + 1)) a0_0 l0_1 l0_2) else (some false)) = some r := by rw [← hbq61] at H; exact H
                    have Nbq61 := qb.mk hbq61
                    clear hbq61
                    by_cases c62 : (bq61 = true)
                    ·subst c62
                     have H1 : (qg.l2 k4 t1148 t1153 x7_2 x9_3 t1160 (wrap64 (x11_4 + 1)) a0_0 l0_1 l0_2) = some r := by rw [if_pos rfl] at H; exact H
                     clear H
                     have H := H1
                     clear H1
                     have H' := qb.mk H
                     clear H
                     obtain ⟨Ao63, co63, eo63⟩ := Kd.vI HO_10.out
                     subst eo63
                     have p1163 : 0 ≤ (x11_4 : Int) := of_decide_eq_true (by first | (with_reducible assumption) | assumption)
                     have q1163 : x11_4 < (t1160.length : Int) := of_decide_eq_true (by first | (with_reducible assumption) | assumption)
                     obtain ⟨ad1163, e1163, hx1163_0⟩ := Kd.zK (Kd.qN HO_10.out).2.2 x11_4 p1163 q1163
                     cases e1163
                     replace p1163 := eq_true p1163
                     replace q1163 := eq_true q1163
                     have p1164 : 0 ≤ (x11_4 : Int) := of_decide_eq_true (by first | (with_reducible assumption) | assumption)
                     have q1164 : x11_4 < (t1160.length : Int) := of_decide_eq_true (by first | (with_reducible assumption) | assumption)
                     obtain ⟨ad1164, e1164, hx1164_0⟩ := Kd.zK (Kd.qN HO_10.out).2.2 x11_4 p1164 q1164
                     obtain rfl : ad1163 = ad1164 := (by injection e1164)
                     replace p1164 := eq_true p1164
                     replace q1164 := eq_true q1164
                     have p1165 : 0 ≤ (x11_4 : Int) := of_decide_eq_true (by first | (with_reducible assumption) | assumption)
                     have q1165 : x11_4 < (t1160.length : Int) := of_decide_eq_true (by first | (with_reducible assumption) | assumption)
                     obtain ⟨ad1165, e1165, hx1165_0⟩ := Kd.zK (Kd.qN HO_10.out).2.2 x11_4 p1165 q1165
                     obtain rfl : ad1163 = ad1165 := (by injection e1165)
                     replace p1165 := eq_true p1165
                     replace q1165 := eq_true q1165
                     have p1166 : 0 ≤ ((rd t1160 x11_4) : Int) := of_decide_eq_true (by first | (with_reducible assumption) | assumption)
                     have q1166 : (rd t1160 x11_4) < (t1153.length : Int) := of_decide_eq_true (by first | (with_reducible assumption) | assumption)
                     obtain ⟨ad1166, e1166, hx1166_0⟩ := Kd.zG (Kd.qN HO_6.out).2.2 (rd t1160 x11_4) p1166 q1166
                     (try rw [← Nbq61.out] at hx1166_0)
                     cases e1166
                     replace p1166 := eq_true p1166
                     replace q1166 := eq_true q1166
                     go_wp2
                     go_roundg k4
                     case measure => have := HJ5.out; have := HK2.out; have := HK3.out; have := HK4.out; omega
                     case rel => exact ⟨(wrap64 (x11_4 + 1)), (by first | rfl | (simp; done) | (simp [*]; done)), H', ⟨by have := HJ5.out; have := HK2.out; have := HK3.out; have := HK4.out; omega⟩, ⟨by (with_reducible repeat (first | apply Kd.R_alloc | apply Kd.qF | apply Kd.qH)); exact HO_5.out⟩, ⟨by (with_reducible repeat (first | apply Kd.R_alloc | apply Kd.qF | apply Kd.qH)); exact HO_6.out⟩, ⟨by (with_reducible repeat (first | apply Kd.R_alloc | apply Kd.qF | apply Kd.qH)); exact HO_10.out⟩, ⟨by (with_reducible repeat (first | refine qw ?_ _ | refine qy ?_ | refine qp ?_ _)); exact BK1145.out⟩, ⟨by repeat (first | (with_reducible first | exact HB.out | apply qc | apply qa | apply qd | refine qj ?_ GE1145.out) | exact HB.out)⟩⟩
                    ·replace c62 := Bool.eq_false_iff.mpr c62
                     subst c62
                     have H1 : (some false) = some r := by rw [if_neg (show ¬ (false = true) by decide)] at H; exact H
                     clear H
                     have H := H1
                     clear H1
                     obtain rfl := Option.some.inj H
                     obtain ⟨Ao64, co64, eo64⟩ := Kd.vI HO_10.out
                     subst eo64
                     have p1163 : 0 ≤ (x11_4 : Int) := of_decide_eq_true (by first | (with_reducible assumption) | assumption)
                     have q1163 : x11_4 < (t1160.length : Int) := of_decide_eq_true (by first | (with_reducible assumption) | assumption)
                     obtain ⟨ad1163, e1163, hx1163_0⟩ := Kd.zK (Kd.qN HO_10.out).2.2 x11_4 p1163 q1163
                     cases e1163
                     replace p1163 := eq_true p1163
                     replace q1163 := eq_true q1163
                     have p1164 : 0 ≤ (x11_4 : Int) := of_decide_eq_true (by first | (with_reducible assumption) | assumption)
                     have q1164 : x11_4 < (t1160.length : Int) := of_decide_eq_true (by first | (with_reducible assumption) | assumption)
                     obtain ⟨ad1164, e1164, hx1164_0⟩ := Kd.zK (Kd.qN HO_10.out).2.2 x11_4 p1164 q1164
                     obtain rfl : ad1163 = ad1164 := (by injection e1164)
                     replace p1164 := eq_true p1164
                     replace q1164 := eq_true q1164
                     have p1165 : 0 ≤ (x11_4 : Int) := of_decide_eq_true (by first | (with_reducible assumption) | assumption)
                     have q1165 : x11_4 < (t1160.length : Int) := of_decide_eq_true (by first | (with_reducible assumption) | assumption)
                     obtain ⟨ad1165, e1165, hx1165_0⟩ := Kd.zK (Kd.qN HO_10.out).2.2 x11_4 p1165 q1165
                     obtain rfl : ad1163 = ad1165 := (by injection e1165)
                     replace p1165 := eq_true p1165
                     replace q1165 := eq_true q1165
                     have p1166 : 0 ≤ ((rd t1160 x11_4) : Int) := of_decide_eq_true (by first | (with_reducible assumption) | assumption)
                     have q1166 : (rd t1160 x11_4) < (t1153.length : Int) := of_decide_eq_true (by first | (with_reducible assumption) | assumption)
                     obtain ⟨ad1166, e1166, hx1166_0⟩ := Kd.zG (Kd.qN HO_6.out).2.2 (rd t1160 x11_4) p1166 q1166
                     (try rw [← Nbq61.out] at hx1166_0)
                     cases e1166
                     replace p1166 := eq_true p1166
                     replace q1166 := eq_true q1166
                     go_wp2
                     go_ret
                     exact ⟨by first | rfl | (simp [errW_none, errW_some] <;> rfl) | (simp [*, errW_none, errW_some] <;> rfl), by repeat (first | (with_reducible first | exact HB.out | apply qc | apply qa | apply qd | refine qj ?_ GE1145.out) | exact HB.out)⟩
                   ·rw [if_neg c60] at H
                    exact absurd H (by simp)
                  ·rw [if_neg c59] at H
                   exact absurd H (by simp)
               ·rw [if_neg c54] at H
                exact absurd H (by simp)
              ·rw [if_neg c53] at H
               have c53b0 : decide (x11_4 < (t1160.length : Int)) = false := decide_eq_false c53
               clear c53
               have H' := qb.mk H
               clear H
               obtain ⟨Ao65, co65, eo65⟩ := Kd.vI HO_10.out
               subst eo65
               go_wp2
               go_roundg k4
               case measure => have := HJ5.out; have := HK2.out; have := HK3.out; have := HK4.out; omega
               case rel => exact ⟨(wrap64 (x9_3 + 1)), (by first | rfl | (simp; done) | (simp [*]; done)), H', ⟨by have := HJ5.out; have := HK2.out; have := HK3.out; have := HK4.out; omega⟩, ⟨by (with_reducible repeat (first | apply Kd.R_alloc | apply Kd.qF | apply Kd.qH)); exact Kd.zb HO_5.out (fun _ hk => trivial)⟩, ⟨by (with_reducible repeat (first | apply Kd.R_alloc | apply Kd.qF | apply Kd.qH)); exact HO_6.out⟩, ⟨by (with_reducible repeat (first | refine qw ?_ _ | refine qy ?_ | refine qp ?_ _)); exact BK1145.out⟩, ⟨by repeat (first | (with_reducible first | exact HB.out | apply qc | apply qa | apply qd | refine qj ?_ GE1145.out) | exact HB.out)⟩⟩
           ·rw [if_neg c48] at H
            exact absurd H (by simp)
          ·rw [if_neg c47] at H
           have c47b0 : decide (x9_3 < (t1148.length : Int)) = false := decide_eq_false c47
           clear c47
           by_cases c66 : x7_2 = (t1148.length : Int)
           ·rw [if_pos c66] at H
            have c66b0 : (x7_2 == (t1148.length : Int)) = true := beq_iff_eq.mpr c66
            have c66b1 : (x7_2 != (t1148.length : Int)) = false := bne_eq_false_iff_eq.mpr c66
            clear c66
            replace H := Option.bind_eq_some_iff.mp H
            obtain ⟨t1158, A670, H⟩ := H
            replace H : (some t1158) = some r := H
            have A67 := qb.mk A670
            clear A670
            obtain rfl := Option.some.inj H
            obtain ⟨Ao68, co68, eo68⟩ := Kd.vI HO_5.out
            subst eo68
            go_wp2_with (first | (go_at_call 64; (with_reducible refine (qJ.calls k3  t1158 _ A67.out).mono ?_); rintro e w69 ⟨rfl, hb⟩; have n0_ := qb.mk (Kd.qP (by (with_reducible repeat (first | apply Kd.R_alloc | apply Kd.qF | apply Kd.qH)); exact HO_5.out) hb); have n1_ := qb.mk (Kd.qP (by (with_reducible repeat (first | apply Kd.R_alloc | apply Kd.qF | apply Kd.qH)); exact HO_6.out) hb); have n2_ := qb.mk (qM (g := gb1145) (o := .cells #[.int .i64 a0_0, .slice A0_1 l0_1.length c0_1, .slice A0_2 l0_2.length c0_2] 25 (0, 0)) (by (with_reducible repeat (first | refine qw ?_ _ | refine qy ?_ | refine qp ?_ _)); exact BK1145.out) hb); have n3_ := qb.mk (qG (by repeat (first | (with_reducible first | exact HB.out | apply qc | apply qa | apply qd | refine qj ?_ GE1145.out) | exact HB.out)) hb); clear HO_5; clear HO_6; clear BK1145; clear HB; have HO_5 := n0_; have HO_6 := n1_; have BK1145 := n2_; have HB := n3_; clear n0_ n1_ n2_ n3_; (try clear hb); (try clear hb2); (try clear hk); (try clear hi)))
            go_ret
            exact ⟨by first | rfl | (simp [errW_none, errW_some] <;> rfl) | (simp [*, errW_none, errW_some] <;> rfl), by repeat (first | (with_reducible first | exact HB.out | apply qc | apply qa | apply qd | refine qj ?_ GE1145.out) | exact HB.out)⟩
           ·rw [if_neg c66] at H
            have c66b0 : (x7_2 == (t1148.length : Int)) = false := beq_eq_false_iff_ne.mpr c66
            have c66b1 : (x7_2 != (t1148.length : Int)) = true := bne_iff_ne.mpr c66
            obtain rfl := Option.some.inj H
            obtain ⟨Ao70, co70, eo70⟩ := Kd.vI HO_5.out
            subst eo70
            go_wp2
            go_ret
            exact ⟨by first | rfl | (simp [errW_none, errW_some] <;> rfl) | (simp [*, errW_none, errW_some] <;> rfl), by repeat (first | (with_reducible first | exact HB.out | apply qc | apply qa | apply qd | refine qj ?_ GE1145.out) | exact HB.out)⟩
 ·replace c4 := Bool.eq_false_iff.mpr c4
  subst c4
  have H1 : ((qJ.f k).bind fun t1147 => (some t1147)) = some r := by rw [if_neg (show ¬ (false = true) by decide)] at H; exact H
  clear H
  have H := H1
  clear H1
  replace H := Option.bind_eq_some_iff.mp H
  obtain ⟨t1147, A710, H⟩ := H
  replace H : (some t1147) = some r := H
  have A71 := qb.mk A710
  clear A710
  obtain rfl := Option.some.inj H
  go_enter Try.func15, Try.ntmps15
  go_wp2_with (first | ((with_reducible refine qU (N := 2) rfl ?_); (try (refine zz (by rfl) ?_; dsimp only)); refine qV ?hg (N := 2) ?hd (cs := #[.int .i64 a0_0, .slice A0_1 l0_1.length c0_1, .slice A0_2 l0_2.length c0_2]) (t := 25) ?hr ?_; (case hd => rfl); (case hg => rfl); (case hr => first | (go_simp; done) | (go_simp; rfl)); intro gb1145 hg w72 hbox hb; have n0_ := qb.mk (qG (by repeat (first | (with_reducible first | exact HB.out | apply qc | apply qa | apply qd) | exact HB.out)) hb); have n1_ := qb.mk (hbox); have n2_ := qb.mk ((by rw [hg]; exact (qD (by repeat (first | (with_reducible first | exact HB.out | apply qc | apply qa | apply qd) | exact HB.out))) : w.heap.size ≤ gb1145)); have n3_ := qb.mk ((by rw [hg]; exact (qD (by repeat (first | (with_reducible first | exact HB.out | apply qc | apply qa | apply qd) | exact HB.out))) : w.heap.size ≤ gb1145)); clear HB; have HB := n0_; have BK1145 := n1_; have GW1145 := n2_; have GE1145 := n3_; clear n0_ n1_ n2_ n3_; clear hb hbox hg; have hcz73_0 : w72.cell? ⟨gb1145, 0, none⟩ = some (.int .i64 a0_0) := (qi BK1145.out 0).trans rfl; have hcz73_1 : w72.cell? ⟨gb1145, 1, none⟩ = some (.slice A0_1 l0_1.length c0_1) := (qi BK1145.out 1).trans rfl; have hcz73_2 : w72.cell? ⟨gb1145, 2, none⟩ = some (.slice A0_2 l0_2.length c0_2) := (qi BK1145.out 2).trans rfl; have hfz73_0 := qh BK1145.out 0; have hfz73_1 := qh BK1145.out 1; have hfz73_2 := qh BK1145.out 2) | ((with_reducible refine qR (f := 63) rfl ?_); refine vU (some 13) rfl rfl Try.func63 (by kernel_rfl) rfl #[.agg #[.int .i64 a0_0, .slice A0_1 l0_1.length c0_1, .slice A0_2 l0_2.length c0_2]] rfl (by (try simp only [List.map_toArray, List.map_cons, List.map_nil]); first | done | rfl | (simp only [List.length_drop, List.length_take]; rfl)) ?_; (with_reducible refine (qC.calls k a0_0 _ _ l0_1 _ _ l0_2 false _ ?side1 ?side2 ?side3 ?side4 A3.out).mono ?_); (case side1 => repeat (first | exact (Kd.qW HR0_1.out HB.out) | (with_reducible refine Kd.C_alloc ?_ _) | (with_reducible refine Kd.C_drewN ?_ _) | (with_reducible refine Kd.C_drew ?_))); (case side2 => exact HC0_1.out); (case side3 => repeat (first | exact (Kd.qW HR0_2.out HB.out) | (with_reducible refine Kd.C_alloc ?_ _) | (with_reducible refine Kd.C_drewN ?_ _) | (with_reducible refine Kd.C_drew ?_))); (case side4 => exact HC0_2.out); rintro e w74 ⟨rfl, hb⟩; refine ⟨_, rfl, ?_⟩; have n0_ := qb.mk (qM (g := gb1145) (o := .cells #[.int .i64 a0_0, .slice A0_1 l0_1.length c0_1, .slice A0_2 l0_2.length c0_2] 25 (0, 0)) (by (with_reducible repeat (first | refine qw ?_ _ | refine qy ?_ | refine qp ?_ _)); exact BK1145.out) hb); have n1_ := qb.mk (qG (by repeat (first | (with_reducible first | exact HB.out | apply qc | apply qa | apply qd | refine qj ?_ GE1145.out) | exact HB.out)) hb); clear BK1145; clear HB; have BK1145 := n0_; have HB := n1_; clear n0_ n1_; (try clear hb); (try clear hb2); (try clear hk); (try clear hi)) | ((with_reducible refine qR (f := 64) rfl ?_); refine vU (some 15) rfl rfl Try.func64 (by kernel_rfl) rfl #[] rfl (by (try simp only [List.map_toArray, List.map_cons, List.map_nil]); first | done | rfl | (simp only [List.length_drop, List.length_take]; rfl)) ?_; (with_reducible refine (qJ.calls k  t1147 _ A71.out).mono ?_); rintro e w75 ⟨rfl, hb⟩; refine ⟨_, rfl, ?_⟩; have n0_ := qb.mk (qM (g := gb1145) (o := .cells #[.int .i64 a0_0, .slice A0_1 l0_1.length c0_1, .slice A0_2 l0_2.length c0_2] 25 (0, 0)) (by (with_reducible repeat (first | refine qw ?_ _ | refine qy ?_ | refine qp ?_ _)); exact BK1145.out) hb); have n1_ := qb.mk (qG (by repeat (first | (with_reducible first | exact HB.out | apply qc | apply qa | apply qd | refine qj ?_ GE1145.out) | exact HB.out)) hb); clear BK1145; clear HB; have BK1145 := n0_; have HB := n1_; clear n0_ n1_; (try clear hb); (try clear hb2); (try clear hk); (try clear hi)))
  go_ret
  exact ⟨by first | rfl | (simp [errW_none, errW_some] <;> rfl) | (simp [*, errW_none, errW_some] <;> rfl), by repeat (first | (with_reducible first | exact HB.out | apply qc | apply qa | apply qd | refine qj ?_ GE1145.out) | exact HB.out)⟩
end Go.Proofs.Ytcjbghmhdefdiaa.S
namespace Go.Proofs.Ytcjbghmhdefdiaa.S
open Go.RowKit Go.Proofs.YtcjbghmhdefdiaaW.PrintWords Go.Proofs.YtcjbghmhdefdiaaW.PrintLast Go.Proofs.YtcjbghmhdefdiaaW.PrintMore
set_option linter.unusedVariables false
set_option linter.unusedSimpArgs false
def cnt (l : List Bool) (i : Nat) : Nat := (zl (l.take i) 0).length
theorem wz : ∀ (a b : List Bool) (i : Nat), zl (a ++ b) i = zl a i ++ zl b (i + a.length)
 | [], b, i => by simp [zl]
 | x :: a, b, i => by
  rw [List.cons_append, z8, z8, wz a b (i + 1)]
  split <;> simp [Nat.add_assoc, Nat.add_comm 1]
theorem zM : ∀ (l : List Bool) (i : Nat), (zl l i).length ≤ l.length
 | [], _ => Nat.le_refl _
 | b :: l, i => by
  rw [z8]
  have := zM l (i + 1)
  split <;> simp <;> omega
theorem trues_at {l : List Bool} {i : Nat} (hi : i < l.length) : zl l 0 = zl (l.take i) 0 ++ zl (l.drop i) i := by
 have := wz (l.take i) (l.drop i) 0
 rw [List.take_append_drop, List.length_take, Nat.min_eq_left (by omega), Nat.zero_add] at this
 exact this
theorem cnt_true {l : List Bool} {i : Nat} (hi : i < l.length) (h : l[i] = true) : cnt l (i + 1) = cnt l i + 1 ∧ cnt l i < (zl l 0).length ∧ rd (zl l 0) (cnt l i : Int) = (i : Int) := by
 have e1 : cnt l (i + 1) = cnt l i + 1 := by
  unfold cnt
  rw [List.take_succ_eq_append_getElem hi, wz, h]
  simp [zl]
 have e2 := trues_at hi
 rw [List.drop_eq_getElem_cons hi, h, z8, if_pos rfl] at e2
 have e3 : cnt l i < (zl l 0).length := by
  rw [e2]; unfold cnt; simp
 refine ⟨e1, e3, ?_⟩
 rw [Qg e3]
 simp only [e2]
 unfold cnt
 simp
theorem Qq {l : List Bool} {i : Nat} (hi : i < l.length) (h : l[i] = false) : cnt l (i + 1) = cnt l i := by
 unfold cnt
 rw [List.take_succ_eq_append_getElem hi, wz, h]
 simp [zl]
theorem cnt_all (l : List Bool) : cnt l l.length = (zl l 0).length := by unfold cnt; rw [List.take_length]
theorem cnt_le (l : List Bool) (i : Nat) : cnt l i ≤ i := by
 unfold cnt
 have := zM (l.take i) 0
 rw [List.length_take] at this
 omega
section
variable (n : Int) (ls : List ByteArray) (es : List S55)
theorem lw0 {x5 : List Int} {x6 : List Bool} {a b : Int} {r : Bool} {k k' : Nat} (h : qg.l0 k x5 x6 a b n ls es = some r) (hk : k ≤ k') : qg.l0 k' x5 x6 a b n ls es = some r := up (fun k => (qg.vQ k).2.1 _ _ _ _ _ _ _) h hk
theorem lw2 {x5 : List Int} {x6 : List Bool} {a b : Int} {c : List Int} {d : Int} {r : Bool} {k k' : Nat} (h : qg.l2 k x5 x6 a b c d n ls es = some r) (hk : k ≤ k') : qg.l2 k' x5 x6 a b c d n ls es = some r := up (fun k => (qg.vQ k).2.2.2 _ _ _ _ _ _ _ _ _) h hk
variable {ka : Nat} (hka : ∀ k, ka ≤ k → qJ.f k = some true) (hmay : mayF n ls es = true) (hf : Fits n ls.length es) (hlen : es.length < 1000000) {node : Int} (h0 : 0 ≤ node) (h1 : node < n) (hn : n ≤ 2048)
include hka hmay hf hlen h0 h1 hn
theorem law_l1 (C : List Bool) (hC : C = closB es n.toNat node) : ∀ (d i : Nat), i + d = (zl C 0).length → ∃ k, qg.l1 k (zl C 0) C ((zl C 0).length : Int) (i : Int) n ls es = some true := by
 have hCl : C.length = n.toNat := by rw [hC, zH]
 have hrl := zM C 0
 intro d
 induction d with
 | zero =>
  intro i hi
  refine ⟨ka + 1, ?_⟩
  rw [qg.l1, if_neg (by omega), if_pos rfl, hka ka (Nat.le_refl _)]
  rfl
 | succ d ih =>
  intro i hi
  have hil : i < (zl C 0).length := by omega
  obtain ⟨x, hx⟩ : ∃ x, x = (zl C 0)[i] := ⟨_, rfl⟩
  have hxm : x ∈ zl C 0 := by rw [hx]; exact List.getElem_mem hil
  obtain ⟨j, hj, hxj, hjt⟩ := (j3 C 0 x).1 hxm
  rw [Nat.zero_add] at hxj
  have hjr : Rch es node (j : Int) := (wT (by omega : j < n.toNat)).1 (by rw [← hC]; exact hjt)
  have hxr := hjr.range hf h0 h1
  obtain ⟨k1, hk1⟩ := jk (ls := ls) hmay hf hlen (node := x) (by omega) (by omega) hn
  obtain ⟨k2, hk2⟩ := ih (i + 1) (by omega)
  obtain ⟨W, hW⟩ : ∃ W, W = zl (closB es n.toNat x) 0 := ⟨_, rfl⟩
  have hWl : W.length ≤ n.toNat := by rw [hW]; have := zM (closB es n.toNat x) 0; rw [zH] at this; exact this
  have loop : ∀ (d' p : Nat), p + d' = W.length → ∃ k, qg.l2 k (zl C 0) C ((zl C 0).length : Int) (i : Int) W (p : Int) n ls es = some true := by
   intro d'
   induction d' with
   | zero =>
    intro p hp
    refine ⟨k2 + 1, ?_⟩
    rw [qg.l2, if_neg (by omega), za (by omega)]
    exact hk2
   | succ d' ih' =>
    intro p hp
    have hpl : p < W.length := by omega
    obtain ⟨k3, hk3⟩ := ih' (p + 1) (by omega)
    have hym : W[p] ∈ zl (closB es n.toNat x) 0 := by rw [← hW]; exact List.getElem_mem hpl
    obtain ⟨q, hq, hyq, hqt⟩ := (j3 _ 0 _).1 hym
    rw [Nat.zero_add] at hyq
    rw [zH] at hq
    have hqr : Rch es node (q : Int) := by
     have := (wT hq).1 hqt
     rw [hxj] at this
     exact hjr.trans this
    have hcq : rdOf false C (W[p]) = true := by
     rw [hyq, jK (by omega : q < C.length)]
     have := (wT hq).2 hqr
     rw [← hC] at this
     have e := List.getElem?_eq_some_iff.1 this
     exact e.2
    refine ⟨k3 + 1, ?_⟩
    rw [qg.l2, if_pos (by omega), if_pos (by omega), Qg hpl, if_neg (by omega), if_neg (by omega), if_pos (by omega), if_pos (by omega), if_pos hcq, za (by omega)]
    exact hk3
  obtain ⟨k4, hk4⟩ := loop W.length 0 (by omega)
  refine ⟨k1 + k4 + 1, ?_⟩
  rw [qg.l1, if_pos (by omega), if_pos (by omega), Qg hil, ← hx, up (fun k => qz.mono _ _ _ _ k) hk1 (by omega : k1 ≤ k1 + k4), Option.bind_some, ← hW]
  exact lw2 n ls es hk4 (by omega)
theorem law_l0 (C : List Bool) (hC : C = closB es n.toNat node) : ∀ (d i : Nat), i + d = C.length → ∃ k, qg.l0 k (zl C 0) C (cnt C i : Int) (i : Int) n ls es = some true := by
 have hCl : C.length = n.toNat := by rw [hC, zH]
 intro d
 induction d with
 | zero =>
  intro i hi
  obtain ⟨k, hk⟩ := law_l1 n ls es hka hmay hf hlen h0 h1 hn C hC _ 0 (Nat.zero_add _)
  refine ⟨k + 1, ?_⟩
  rw [qg.l0, if_neg (by omega), show i = C.length by omega, cnt_all]
  exact hk
 | succ d ih =>
  intro i hi
  have hil : i < C.length := by omega
  obtain ⟨k, hk⟩ := ih (i + 1) (by omega)
  have hc := cnt_le C i
  by_cases hb : C[i] = true
  ·obtain ⟨e1, e2, e3⟩ := cnt_true hil hb
   refine ⟨k + 1, ?_⟩
   rw [qg.l0, if_pos (by omega), if_pos (by omega), jK hil, if_pos hb, if_neg (by omega), if_pos (by omega), if_pos (by omega), if_pos e3, za (by omega), za (by omega), ← e1]
   exact hk
  ·have hb' : C[i] = false := by simpa using hb
   refine ⟨k + 1, ?_⟩
   rw [qg.l0, if_pos (by omega), if_pos (by omega), jK hil, if_neg hb, za (by omega), ← Qq hil hb']
   exact hk
end
theorem jL (n : Int) (ls : List ByteArray) (es : List S55) (node : Int) : ∃ k, qg.f k n ls es node = some true := by
 obtain ⟨lr, hlr, hl⟩ := light_ev n ls es
 obtain ⟨kl, hkl⟩ := hlr
 obtain ⟨ka, hka⟩ := yN
 replace hkl : ∀ k, kl ≤ k → qC.f k n ls es = some lr := hkl
 replace hka : ∀ k, ka ≤ k → qJ.f k = some true := hka
 by_cases hlt : lr = true
 ·obtain ⟨l1, l2, _⟩ := hl hlt
  by_cases hok : mayF n ls es = true ∧ 0 ≤ node ∧ node < n
  ·obtain ⟨hmay, h0, h1⟩ := hok
   have hmf := hmay
   unfold mayF at hmf
   simp only [Bool.and_eq_true, decide_eq_true_iff] at hmf
   have hn : n ≤ 2048 := by omega
   have hf : Fits n ls.length es := kJ (by simp_all)
   obtain ⟨k1, hk1⟩ := jk (ls := ls) hmay hf (by omega) h0 h1 hn
   obtain ⟨k2, hk2⟩ := xB n ls es hf (by omega) h0 h1 hn
   obtain ⟨k3, hk3⟩ := law_l0 n ls es hka hmay hf (by omega) h0 h1 hn _ rfl _ 0 (Nat.zero_add _)
   refine ⟨kl + ka + k1 + k2 + k3 + 1, ?_⟩
   obtain ⟨K, hK⟩ : ∃ K, K = kl + ka + k1 + k2 + k3 := ⟨_, rfl⟩
   rw [← hK]
   unfold qg.f
   rw [hkl _ (by omega), Option.bind_some, if_pos hlt, up (fun k => qz.mono _ _ _ _ k) hk1 (by omega : k1 ≤ K + 1), Option.bind_some]
   unfold q8.f
   rw [Option.bind_some, if_pos hmay, if_neg (by omega), show decide (node ≥ n) = false from decide_eq_false (by omega), qg.j0, if_neg (by decide), up (fun k => qo.mono _ _ _ _ k) hk2 (by omega : k2 ≤ K), Option.bind_some]
   have := lw0 n ls es hk3 (by omega : k3 ≤ K)
   rw [show cnt (closB es n.toNat node) 0 = 0 by simp [cnt, zl]] at this
   exact this
  ·refine ⟨kl + ka + 150, ?_⟩
   unfold qg.f
   have hr : qz.f (kl + ka + 150) n ls es node = some [] := by
    unfold qz.f
    rw [jg _ _ _ _ (by omega), Option.bind_some]
    have hj : qz.j0 (kl + ka + 150) node true n ls es = some [] := by
     rw [show kl + ka + 150 = (kl + ka + 149) + 1 by omega, qz.j0, if_pos rfl]
    by_cases hmay : mayF n ls es = true
    ·rw [if_pos hmay, if_pos rfl]
     by_cases hn0 : node < 0
     ·rw [if_pos hn0]; exact hj
     ·rw [if_neg hn0, show decide (node ≥ n) = true from decide_eq_true (by have : ¬ node < n := fun h => hok ⟨hmay, by omega, h⟩; omega)]
      exact hj
    ·rw [if_neg hmay, if_neg (by decide)]; exact hj
   have hj : qg.j0 (kl + ka + 150) node [] true n ls es = some true := by
    rw [show kl + ka + 150 = (kl + ka + 149) + 1 by omega, qg.j0, if_pos rfl, if_pos (by simp), hka _ (by omega)]
    rfl
   rw [hkl _ (by omega), Option.bind_some, if_pos hlt, hr, Option.bind_some]
   unfold q8.f
   rw [Option.bind_some]
   by_cases hmay : mayF n ls es = true
   ·rw [if_pos hmay]
    by_cases hn0 : node < 0
    ·rw [if_pos hn0]; exact hj
    ·rw [if_neg hn0, show decide (node ≥ n) = true from decide_eq_true (by have : ¬ node < n := fun h => hok ⟨hmay, by omega, h⟩; omega)]
     exact hj
   ·rw [if_neg hmay]; exact hj
 ·refine ⟨kl + ka, ?_⟩
  unfold qg.f
  rw [hkl _ (by omega), Option.bind_some, if_neg hlt, hka _ (by omega)]
  rfl
end Go.Proofs.Ytcjbghmhdefdiaa.S
namespace Go.Proofs.Ytcjbghmhdefdiaa.S
open Go.ChangeShapes Go.WideShapes Go.ChangeAt Go.RowKit Go.Proofs.YtcjbghmhdefdiaaW.PrintWords Go.Proofs.YtcjbghmhdefdiaaW.PrintLast Go.Proofs.YtcjbghmhdefdiaaW.PrintMore
set_option linter.unusedVariables false
set_option linter.unusedSimpArgs false
theorem three {α : Type} {l : List α} (h : l.length = 3) : ∃ a b c, l = [a, b, c] := by
 match l, h with
 | [a, b, c], _ => exact ⟨a, b, c, rfl⟩
def numV : Option Value → Int
 | some (.int _ n) => n
 | _ => 0
theorem yl {H : Type} {enc : TypeId × Value → H} {W : World} {fuel : Nat} {y : Value} {x : DataW H × List MemPlace} (h : DataW.trod enc Try.prog W 0 (fun _ => true) true fuel 22 [y] = some x) :
  ∃ A c ls, y = .slice A (List.length ls) c ∧ Kd.C Kd.string W A ls.length ls ∧ ls.length ≤ c := by
 rcases open_strings Try.underlying22 Try.underlying9 (by kernel_rfl) h with ⟨hcs, _⟩ | ⟨a, l, c, ss, hcs, _, hl, hm, hz, _, hcell, _⟩
 ·exact ⟨none, 0, [], by simpa using hcs, ⟨rfl, by simp, fun h => absurd h (by simp)⟩, by simp⟩
 ·have hz : ss.length = c := by simpa using hz
  have ht : (ss.take l).length = l := by rw [List.length_take]; omega
  refine ⟨some a, c, ss.take l, by rw [ht]; simpa using hcs, ⟨rfl, by rw [ht]; unfold maxLen at hm; omega, fun _ => ⟨a, rfl, fun j p hj => ⟨[.string p], rfl, rfl, fun i u hu => ?_⟩⟩⟩, by rw [ht]; exact hl⟩
  have hjl : j < (ss.take l).length := (List.getElem?_eq_some_iff.1 hj).1
  have hi : i = 0 := by
   have := (List.getElem?_eq_some_iff.1 hu).1
   simp at this
   exact this
  subst hi
  have hj2 : j < ss.length := by omega
  have hcj := hcell j hj2
  rw [List.getElem?_take_of_lt (by omega), List.getElem?_eq_getElem hj2] at hj
  obtain rfl := Option.some.inj hj
  simp only [List.getElem?_cons_zero, Option.some.injEq] at hu
  subst hu
  show W.cell? (a.add (j * 1 + 0)) = _
  rw [Nat.mul_one, Nat.add_zero, hcj, List.getD_eq_getElem?_getD, List.getElem?_eq_getElem hj2]
  rfl
theorem yY {H : Type} {enc : TypeId × Value → H} {W : World} {fuel : Nat} {y : Value} {x : DataW H × List MemPlace} (h : DataW.trod enc Try.prog W 0 (fun _ => true) true fuel 23 [y] = some x) :
  ∃ A c es, y = .slice A (List.length es) c ∧ Kd.C k55 W A es.length es ∧ es.length ≤ c := by
 rcases DataW.trod_slice Try.underlying23 h with ⟨hcs, _⟩ | ⟨a, l, c, elems, rest, n, _, hcs, _, _, hl, hm, hlen, hel, _, _⟩
 ·exact ⟨none, 0, [], by simpa using hcs, ⟨rfl, by simp, fun h => absurd h (by simp)⟩, by simp⟩
 ·have hc55 : Try.prog.cellsOf 55 = 3 := by kernel_rfl
  have hc3 : Try.prog.cellsOf 3 = 1 := by kernel_rfl
  rw [hc55] at hel
  have key : ∀ i, i < l → ∀ q, q < 3 → ∃ z, W.cell? (a.add (i * 3 + q)) = some (.int .i64 z) := by
   intro i hi q hq
   have h1 := hel i hi
   rw [List.getElem?_eq_getElem (by omega)] at h1
   obtain ⟨cs, hcs, h2⟩ := Option.bind_eq_some_iff.1 h1
   obtain ⟨_, hl3, hcell⟩ := World.cells?_some hcs
   obtain ⟨xs, m, _, _, hsz, hxs, hf⟩ := DataW.trod_struct Try.underlying55 h2
   have hx : q < xs.length := by rw [hxs]; exact hq
   have hcq := hcell q hq
   rw [List.getElem?_eq_getElem (by omega)] at hcq
   have one : ∃ z, cs[q]'(by omega) = .int .i64 z := by
    have hq3 : q = 0 ∨ q = 1 ∨ q = 2 := by omega
    obtain ⟨c0, c1, c2, rfl⟩ := three hl3
    rcases hq3 with rfl | rfl | rfl
    ·have h3 : DataW.trod enc Try.prog W 0 (fun _ => true) true m 3 (([c0, c1, c2].drop 0).take (Try.prog.cellsOf 3)) = xs[0]? := hf 0 _ rfl
     rw [hc3, List.getElem?_eq_getElem hx] at h3
     obtain ⟨z, hz, _⟩ := DataW.trod_int Try.underlying3 h3
     exact ⟨z, by simpa using hz⟩
    ·have h3 : DataW.trod enc Try.prog W 0 (fun _ => true) true m 3 (([c0, c1, c2].drop 1).take (Try.prog.cellsOf 3)) = xs[1]? := hf 1 _ rfl
     rw [hc3, List.getElem?_eq_getElem hx] at h3
     obtain ⟨z, hz, _⟩ := DataW.trod_int Try.underlying3 h3
     exact ⟨z, by simpa using hz⟩
    ·have h3 : DataW.trod enc Try.prog W 0 (fun _ => true) true m 3 (([c0, c1, c2].drop 2).take (Try.prog.cellsOf 3)) = xs[2]? := hf 2 _ rfl
     rw [hc3, List.getElem?_eq_getElem hx] at h3
     obtain ⟨z, hz, _⟩ := DataW.trod_int Try.underlying3 h3
     exact ⟨z, by simpa using hz⟩
   obtain ⟨z, hz⟩ := one
   rw [hz] at hcq
   refine ⟨z, ?_⟩
   rw [← hcq, Addr.add_add]
  obtain ⟨es, hes⟩ : ∃ es, es = (List.range l).map (fun i => (⟨numV (W.cell? (a.add (i * 3 + 0))), numV (W.cell? (a.add (i * 3 + 1))), numV (W.cell? (a.add (i * 3 + 2)))⟩ : S55)) := ⟨_, rfl⟩
  have hle : es.length = l := by rw [hes]; simp
  refine ⟨some a, c, es, by rw [hle]; simpa using hcs, ⟨rfl, by rw [hle]; unfold maxLen at hm; omega, fun _ => ⟨a, rfl, fun j p hj => ⟨_, rfl, k55_mk W p, fun i u hu => ?_⟩⟩⟩, by rw [hle]; exact hl⟩
  have hjl : j < l := by rw [← hle]; exact (List.getElem?_eq_some_iff.1 hj).1
  have hp : p = (⟨numV (W.cell? (a.add (j * 3 + 0))), numV (W.cell? (a.add (j * 3 + 1))), numV (W.cell? (a.add (j * 3 + 2)))⟩ : S55) := by
   rw [hes, List.getElem?_map, List.getElem?_range hjl] at hj
   exact (Option.some.inj hj).symm
  have hi : i < 3 := by
   have := (List.getElem?_eq_some_iff.1 hu).1
   simpa using this
  show W.cell? (a.add (j * 3 + i)) = some u
  obtain ⟨z0, e0⟩ := key j hjl 0 (by omega)
  obtain ⟨z1, e1⟩ := key j hjl 1 (by omega)
  obtain ⟨z2, e2⟩ := key j hjl 2 (by omega)
  rw [e0, e1, e2] at hp
  subst hp
  have hi3 : i = 0 ∨ i = 1 ∨ i = 2 := by omega
  rcases hi3 with rfl | rfl | rfl
  ·rw [e0, ← hu]; rfl
  ·rw [e1, ← hu]; rfl
  ·rw [e2, ← hu]; rfl
set_option maxRecDepth 100000 in
theorem open_lts {H : Type} {enc : TypeId × Value → H} {W : World} {r : Reach} {b0 : Nat} {v : Value} {d : DataW H} {p : List MemPlace} (hv : Value.okWide Try.prog W r b0 25 v) (h : DataW.Trod enc Try.prog W 0 (fun _ => true) true 25 v d p) :
  ∃ (n : Int) (A1 : Option Addr) (c1 : Nat) (ls : List ByteArray) (A2 : Option Addr) (c2 : Nat) (es : List S55), v = .agg #[.int .i64 n, .slice A1 ls.length c1, .slice A2 es.length c2] ∧ Kd.C Kd.string W A1 ls.length ls ∧ ls.length ≤ c1 ∧ Kd.C k55 W A2 es.length es ∧ es.length ≤ c2 := by
 obtain ⟨cs, rfl, hsz⟩ := okWide_struct Try.underlying25 hv
 have hc25 : Try.prog.cellsOf 25 = 3 := by kernel_rfl
 have hc3 : Try.prog.cellsOf 3 = 1 := by kernel_rfl
 have hc22 : Try.prog.cellsOf 22 = 1 := by kernel_rfl
 have hc23 : Try.prog.cellsOf 23 = 1 := by kernel_rfl
 rw [hc25] at hsz
 obtain ⟨x, y, z, rfl⟩ : ∃ x y z, cs = #[x, y, z] := by
  obtain ⟨l⟩ := cs
  obtain ⟨x, y, z, rfl⟩ := three (l := l) hsz
  exact ⟨x, y, z, rfl⟩
 obtain ⟨fuel, hf⟩ := h
 obtain ⟨xs, m, _, _, _, hxs, hfl⟩ := DataW.trod_struct Try.underlying25 hf
 have hx3 : xs.length = 3 := hxs
 have f0 : DataW.trod enc Try.prog W 0 (fun _ => true) true m 3 (([x, y, z].drop 0).take (Try.prog.cellsOf 3)) = xs[0]? := hfl 0 _ rfl
 have f1 : DataW.trod enc Try.prog W 0 (fun _ => true) true m 22 (([x, y, z].drop 1).take (Try.prog.cellsOf 22)) = xs[1]? := hfl 1 _ rfl
 have f2 : DataW.trod enc Try.prog W 0 (fun _ => true) true m 23 (([x, y, z].drop 2).take (Try.prog.cellsOf 23)) = xs[2]? := hfl 2 _ rfl
 rw [hc3, List.getElem?_eq_getElem (by omega)] at f0
 rw [hc22, List.getElem?_eq_getElem (by omega)] at f1
 rw [hc23, List.getElem?_eq_getElem (by omega)] at f2
 obtain ⟨n, hn, _⟩ := DataW.trod_int Try.underlying3 f0
 obtain ⟨A1, c1, ls, hy, hC1, hl1⟩ := yl (y := y) f1
 obtain ⟨A2, c2, es, hz, hC2, hl2⟩ := yY (y := z) f2
 have hx : x = .int .i64 n := by simpa [Value.cells] using hn
 exact ⟨n, A1, c1, ls, A2, c2, es, by rw [hx, hy, hz], hC1, hl1, hC2, hl2⟩
end Go.Proofs.Ytcjbghmhdefdiaa.S
namespace Go.Proofs.Ytcjbghmhdefdiaa.ltsReached
open Go.ChangeShapes Go.WideShapes Go.ChangeAt Go.RowKit
open Go.ChangeMaps (open_string shut_string)
set_option linter.unusedVariables false
theorem own : ownKnob Try.prog.godebug = none := by kernel_rfl
theorem laidOut : laidOutB Try.prog = true := by kernel_rfl
set_option maxRecDepth 100000 in
theorem lifted (os : Os) (started : os.Started) (H : Type) (enc : TypeId × Value → H) :
  ReturnsInHanded {} Try.checked os 15 .any (Rows.ltsReachedSpec.pre6 enc Try.prog Try.f15 Rows.ltsReachedRow.domain false) (Rows.ltsReachedSpec.post enc Try.prog Try.f15 false true false false) := by
 refine returnsInHanded_of_change_sized (C := Try.checked) own started (by kernel_rfl) Try.func15
  (ChangeSpec.witness6 (enc := enc) (C := Try.checked) false ⟨#[], #[.agg #[.int .i64 0, .slice none 0 0, .slice none 0 0], .int .i64 0], []⟩ 8 (by kernel_rfl) (by kernel_rfl) (by kernel_rfl) (by kernel_rfl)) ?_
 intro W base args ds gs before hval0 hW hcnd hsz0 _
 have hval : ∀ (j : Nat) t v, Try.f15.params[j]? = some t → args[j]? = some v → Value.okWide Try.prog W .any base t v := hval0
 have hW' := hW
 obtain ⟨p, q, hA0, hV, rfl, hfz, hnd⟩ := hW
 have hA : DataW.TrodAll enc Try.prog W 0 (fun _ => true) true Try.f15.params.toList args.toList ds p := hA0
 rw [Try.params15] at hA hval
 obtain ⟨v0, vs0, d0, ds0, p0, q0, hargs, rfl, rfl, h0, r0⟩ := trodAll_cons hA
 obtain ⟨v1, vs1, d1, ds1, p1, q1, rfl, rfl, rfl, h1, r1⟩ := trodAll_cons r0
 obtain ⟨rfl, rfl, rfl⟩ := trodAll_nil r1
 obtain rfl : args = #[v0, v1] := by cases args; simp_all
 obtain ⟨rfl, rfl⟩ := trodVars_none hV
 have k0 := h0
 have lt0 : ∀ x ∈ p0, x.block < W.heap.size := by obtain ⟨m, hm⟩ := h0; exact DataW.trod_lt m _ _ _ hm
 obtain ⟨n0, A0, c0, l0, B0, b0, e0, rfl, hC0, hl0, hD0, hm0⟩ := Go.Proofs.Ytcjbghmhdefdiaa.S.open_lts (hval 0 25 v0 rfl rfl) h0
 obtain ⟨a1, rfl, rfl, rfl, w1⟩ := open_int Try.underlying3 (hval 1 3 v1 rfl rfl) h1
 clear hA0 hval0 hsz0
 obtain ⟨k, hk⟩ := Go.Proofs.Ytcjbghmhdefdiaa.S.jL n0 l0 e0 a1
 refine (Go.Proofs.Ytcjbghmhdefdiaa.S.qg.calls k n0 A0 c0 l0 B0 b0 e0 a1 true W hC0 hl0 hD0 hm0 hk).mono fun e W' ⟨he, bel⟩ => ?_
 subst he
 exact ⟨_, rfl, _, _, _, [], _, [], hW', trodAll_mk1 (shut_bool Try.underlying4 _), (trodAll_cons_mk (Below.trod laidOut (by kernel_rfl) (of_decide_eq_true (by kernel_rfl)) k0 bel lt0) (trodAll_cons_mk (shut_int Try.underlying3 w1) trodAll_mk0)), rfl, bel.frame _, fun h => by cases h⟩
theorem and_split {a b : Bool} (h1 : a = true) (h2 : b = true) : (a && b) = true := by rw [h1, h2]; rfl
theorem k_laid : laidOutB Try.pinned.checked.prog = true := by kernel_rfl
theorem k_rowed : mapsRowed Try.pinned.checked.prog = true := by kernel_rfl
theorem k_inPlace : (Rows.ltsReachedRow.inPlace == Try.pinned.checked.prog.inPlace 15) = true := by kernel_rfl
theorem k_unf : (Rows.ltsReachedRow.unfollowed == Try.pinned.checked.prog.unfollowed 15) = true := by kernel_rfl
theorem k_rec : (Rows.ltsReachedRow.recurses == Try.pinned.checked.prog.recurses 15) = true := by kernel_rfl
theorem k_named : (Rows.ltsReachedRow.named == Try.pinned.checked.prog.varsNamed 15) = true := by kernel_rfl
set_option maxHeartbeats 8000000 in
set_option maxRecDepth 100000 in
theorem closed : joinedFacts Try.pinned.checked.prog 15 Try.f15 Rows.ltsReachedSpec Rows.ltsReachedRow = true := by
 unfold joinedFacts
 repeat' with_reducible apply and_split
 ·as_aux_lemma => kernel_rfl
 ·exact k_laid
 ·exact k_rowed
 ·as_aux_lemma => kernel_rfl
 ·as_aux_lemma => kernel_rfl
 ·as_aux_lemma => kernel_rfl
 ·as_aux_lemma => kernel_rfl
 ·as_aux_lemma => kernel_rfl
 ·as_aux_lemma => kernel_rfl
 ·exact k_inPlace
 ·exact k_unf
 ·exact k_rec
 ·exact k_named
 ·as_aux_lemma => kernel_rfl
 ·as_aux_lemma => kernel_rfl
 ·as_aux_lemma => kernel_rfl
 ·as_aux_lemma => kernel_rfl
 ·as_aux_lemma => kernel_rfl
 ·as_aux_lemma => kernel_rfl
 ·as_aux_lemma => kernel_rfl
 ·as_aux_lemma => kernel_rfl
 ·as_aux_lemma => kernel_rfl
 ·as_aux_lemma => kernel_rfl
 ·as_aux_lemma => kernel_rfl
 ·as_aux_lemma => kernel_rfl
 ·as_aux_lemma => kernel_rfl
 ·as_aux_lemma => kernel_rfl
 ·as_aux_lemma => kernel_rfl
 ·as_aux_lemma => kernel_rfl
 ·as_aux_lemma => kernel_rfl
 ·as_aux_lemma => kernel_rfl
 ·as_aux_lemma => kernel_rfl
theorem over : Rows.ltsReachedRow.holds Try.pinned (OpenSpec.ofChange Rows.ltsReachedSpec) :=
 OpenClaim.holds_of_wide 15 Try.f15 rfl rfl rfl rfl rfl rfl rfl ⟨rfl, rfl, rfl, rfl, rfl⟩ rfl rfl rfl rfl rfl (by kernel_rfl) Try.func15 closed
  (of_decide_eq_true (by kernel_rfl)) (by unfold Func.isWrapper; first | (rw [if_pos (by decide +kernel)]; kernel_rfl) | (rw [if_neg (by decide +kernel)]; exact ⟨rfl, rfl⟩))
  (fun os started H enc _ => lifted os started H enc)
theorem proved : Rows.LtsReachedSaid := over
end Go.Proofs.Ytcjbghmhdefdiaa.ltsReached
namespace Go.Proofs.Ytcjbghmhdefdiaa
theorem ltsReached_holds : Rows.LtsReachedSaid := ltsReached.proved
end Go.Proofs.Ytcjbghmhdefdiaa
