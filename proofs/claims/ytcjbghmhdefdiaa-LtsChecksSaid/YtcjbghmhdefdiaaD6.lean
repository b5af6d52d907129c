/- Part 6 of a proof that a law of the program answers true for every input. -/
import Derived.Test.YtcjbghmhdefdiaaD2
import Derived.Test.YtcjbghmhdefdiaaD3
import Derived.Test.YtcjbghmhdefdiaaD5
set_option linter.unusedSimpArgs false
set_option linter.unusedVariables false
namespace Go.Proofs.Ytcjbghmhdefdiaa.S
open Go.RowKit Go.Proofs.YtcjbghmhdefdiaaW.PrintWords Go.Proofs.YtcjbghmhdefdiaaW.PrintLast Go.Proofs.YtcjbghmhdefdiaaW.PrintMore
attribute [local go_sem] vW vZ zi zk vL vK vY vV
set_option linter.unusedVariables false
set_option linter.unusedSimpArgs false
mutual
def qJ.j0 : Nat → Int → Bool → Int → List ByteArray → List (S55) → Option (List Int)
 | 0, _, _, _, _, _ => none
 | k + 1, x1, x24, x996000, x996001, x996002 => if x24 = true then (some ([] : List Int)) else (if 0 ≤ x996000 then (if (x996000 : Int).toNat ≤ 281474976710656 then ((some (List.replicate (x996000 : Int).toNat false : List Bool)).bind fun y997 => (if 0 ≤ x1 then (if x1 < (y997.length : Int) then (qJ.l0 k (y997.set (x1 : Int).toNat true) (([x1] : List Int)) x996000 x996001 x996002) else (none)) else (none))) else (none)) else (none))
def qJ.l0 : Nat → List Bool → List Int → Int → List ByteArray → List (S55) → Option (List Int)
 | 0, _, _, _, _, _ => none
 | k + 1, x5, x6, x996000, x996001, x996002 => if (x6.length : Int) > 0 then (if 0 < (x6.length : Int) then ((zm.f k x996000 x996001 x996002 (rd x6 0)).bind fun t1005 => (qJ.l1 k x5 x6 t1005 (t1005.length : Int) 0 x996000 x996001 x996002)) else (none)) else (qJ.l2 k ([] : List Int) x5 (x5.length : Int) 0)
def qJ.l1 : Nat → List Bool → List Int → List (S55) → Int → Int → Int → List ByteArray → List (S55) → Option (List Int)
 | 0, _, _, _, _, _, _, _, _ => none
 | k + 1, x5, x6, x42, x43, x44, x996000, x996001, x996002 => if x44 < x43 then (if 0 ≤ x44 then (if x44 < (x42.length : Int) then (if 0 ≤ ((qc x42 x44).f2) then (if ((qc x42 x44).f2) < (x5.length : Int) then (if (rdOf false x5 ((qc x42 x44).f2) = true) then (qJ.l1 k x5 x6 x42 x43 (wrap64 (x44 + 1)) x996000 x996001 x996002) else (if x6.length < 17592186044416 then (qJ.l1 k (x5.set (((qc x42 x44).f2) : Int).toNat true) (x6 ++ [(qc x42 x44).f2]) x42 x43 (wrap64 (x44 + 1)) x996000 x996001 x996002) else (none))) else (none)) else (none)) else (none)) else (none)) else (if 1 ≤ (x6.length : Int) then (qJ.l0 k x5 (x6.drop (1 : Int).toNat) x996000 x996001 x996002) else (none))
def qJ.l2 : Nat → List Int → List Bool → Int → Int → Option (List Int)
 | 0, _, _, _, _ => none
 | k + 1, x9, x64, x65, x66 => if x66 < x65 then (if 0 ≤ x66 then (if x66 < (x64.length : Int) then (if rdOf false x64 x66 = true then (if x9.length < 17592186044416 then (qJ.l2 k (x9 ++ [x66]) x64 x65 (wrap64 (x66 + 1))) else (none)) else (qJ.l2 k x9 x64 x65 (wrap64 (x66 + 1)))) else (none)) else (none)) else (some x9)
end
def qJ.f (k : Nat) (a0_0 : Int) (l0_1 : List ByteArray) (l0_2 : List (S55)) (a1 : Int) : Option (List Int) := (qK.f k a0_0 l0_1 l0_2).bind fun t996 => (if t996 = 0 then (if a1 < 0 then (qJ.j0 k a1 true a0_0 l0_1 l0_2) else (qJ.j0 k a1 (decide (a1 ≥ a0_0)) a0_0 l0_1 l0_2)) else (qJ.j0 k a1 true a0_0 l0_1 l0_2))
theorem qJ.zA : ∀ k, (∀ y0 y1 y2 y3 y4, LeO (qJ.j0 k y0 y1 y2 y3 y4) (qJ.j0 (k + 1) y0 y1 y2 y3 y4)) ∧ (∀ y0 y1 y2 y3 y4, LeO (qJ.l0 k y0 y1 y2 y3 y4) (qJ.l0 (k + 1) y0 y1 y2 y3 y4)) ∧ (∀ y0 y1 y2 y3 y4 y5 y6 y7, LeO (qJ.l1 k y0 y1 y2 y3 y4 y5 y6 y7) (qJ.l1 (k + 1) y0 y1 y2 y3 y4 y5 y6 y7)) ∧ (∀ y0 y1 y2 y3, LeO (qJ.l2 k y0 y1 y2 y3) (qJ.l2 (k + 1) y0 y1 y2 y3))
 | 0 => ⟨fun _ _ _ _ _ r h => by simp [qJ.j0] at h, fun _ _ _ _ _ r h => by simp [qJ.l0] at h, fun _ _ _ _ _ _ _ _ r h => by simp [qJ.l1] at h, fun _ _ _ _ r h => by simp [qJ.l2] at h⟩
 | k + 1 => by
  obtain ⟨ih0, ih1, ih2, ih3⟩ := qJ.zA k
  refine ⟨?_, ?_, ?_, ?_⟩
  ·intro y0 y1 y2 y3 y4
   unfold qJ.j0
   repeat' first
   | (with_reducible exact ih0 _ _ _ _ _)
   | (with_reducible exact ih1 _ _ _ _ _)
   | (with_reducible exact ih2 _ _ _ _ _ _ _ _)
   | (with_reducible exact ih3 _ _ _ _)
   | (with_reducible exact qK.mono _ _ _ _)
   | (with_reducible exact zm.mono _ _ _ _ _)
   | (with_reducible exact LeO.refl _)
   | (with_reducible exact LeO.none _)
   | (with_reducible refine LeO.ite ?_ ?_)
   | (with_reducible refine LeO.bind ?_ (fun _ => ?_))
   | exact ih0 _ _ _ _ _
   | exact ih1 _ _ _ _ _
   | exact ih2 _ _ _ _ _ _ _ _
   | exact ih3 _ _ _ _
   | exact qK.mono _ _ _ _
   | exact zm.mono _ _ _ _ _
   | exact LeO.none _
   | refine LeO.ite ?_ ?_
   | refine LeO.bind ?_ (fun _ => ?_)
  ·intro y0 y1 y2 y3 y4
   unfold qJ.l0
   repeat' first
   | (with_reducible exact ih0 _ _ _ _ _)
   | (with_reducible exact ih1 _ _ _ _ _)
   | (with_reducible exact ih2 _ _ _ _ _ _ _ _)
   | (with_reducible exact ih3 _ _ _ _)
   | (with_reducible exact qK.mono _ _ _ _)
   | (with_reducible exact zm.mono _ _ _ _ _)
   | (with_reducible exact LeO.refl _)
   | (with_reducible exact LeO.none _)
   | (with_reducible refine LeO.ite ?_ ?_)
   | (with_reducible refine LeO.bind ?_ (fun _ => ?_))
   | exact ih0 _ _ _ _ _
   | exact ih1 _ _ _ _ _
   | exact ih2 _ _ _ _ _ _ _ _
   | exact ih3 _ _ _ _
   | exact qK.mono _ _ _ _
   | exact zm.mono _ _ _ _ _
   | exact LeO.none _
   | refine LeO.ite ?_ ?_
   | refine LeO.bind ?_ (fun _ => ?_)
  ·intro y0 y1 y2 y3 y4 y5 y6 y7
   unfold qJ.l1
   repeat' first
   | (with_reducible exact ih0 _ _ _ _ _)
   | (with_reducible exact ih1 _ _ _ _ _)
   | (with_reducible exact ih2 _ _ _ _ _ _ _ _)
   | (with_reducible exact ih3 _ _ _ _)
   | (with_reducible exact qK.mono _ _ _ _)
   | (with_reducible exact zm.mono _ _ _ _ _)
   | (with_reducible exact LeO.refl _)
   | (with_reducible exact LeO.none _)
   | (with_reducible refine LeO.ite ?_ ?_)
   | (with_reducible refine LeO.bind ?_ (fun _ => ?_))
   | exact ih0 _ _ _ _ _
   | exact ih1 _ _ _ _ _
   | exact ih2 _ _ _ _ _ _ _ _
   | exact ih3 _ _ _ _
   | exact qK.mono _ _ _ _
   | exact zm.mono _ _ _ _ _
   | exact LeO.none _
   | refine LeO.ite ?_ ?_
   | refine LeO.bind ?_ (fun _ => ?_)
  ·intro y0 y1 y2 y3
   unfold qJ.l2
   repeat' first
   | (with_reducible exact ih0 _ _ _ _ _)
   | (with_reducible exact ih1 _ _ _ _ _)
   | (with_reducible exact ih2 _ _ _ _ _ _ _ _)
   | (with_reducible exact ih3 _ _ _ _)
   | (with_reducible exact qK.mono _ _ _ _)
   | (with_reducible exact zm.mono _ _ _ _ _)
   | (with_reducible exact LeO.refl _)
   | (with_reducible exact LeO.none _)
   | (with_reducible refine LeO.ite ?_ ?_)
   | (with_reducible refine LeO.bind ?_ (fun _ => ?_))
   | exact ih0 _ _ _ _ _
   | exact ih1 _ _ _ _ _
   | exact ih2 _ _ _ _ _ _ _ _
   | exact ih3 _ _ _ _
   | exact qK.mono _ _ _ _
   | exact zm.mono _ _ _ _ _
   | exact LeO.none _
   | refine LeO.ite ?_ ?_
   | refine LeO.bind ?_ (fun _ => ?_)
theorem qJ.mono : ∀ a0 a1 a2 a3 k, LeO (qJ.f k a0 a1 a2 a3) (qJ.f (k + 1) a0 a1 a2 a3) := by
 intro a0 a1 a2 a3 k
 obtain ⟨ih0, ih1, ih2, ih3⟩ := qJ.zA k
 unfold qJ.f
 repeat' first
   | (with_reducible exact ih0 _ _ _ _ _)
   | (with_reducible exact ih1 _ _ _ _ _)
   | (with_reducible exact ih2 _ _ _ _ _ _ _ _)
   | (with_reducible exact ih3 _ _ _ _)
   | (with_reducible exact qK.mono _ _ _ _)
   | (with_reducible exact zm.mono _ _ _ _ _)
   | (with_reducible exact LeO.refl _)
   | (with_reducible exact LeO.none _)
   | (with_reducible refine LeO.ite ?_ ?_)
   | (with_reducible refine LeO.bind ?_ (fun _ => ?_))
   | exact ih0 _ _ _ _ _
   | exact ih1 _ _ _ _ _
   | exact ih2 _ _ _ _ _ _ _ _
   | exact ih3 _ _ _ _
   | exact qK.mono _ _ _ _
   | exact zm.mono _ _ _ _ _
   | exact LeO.none _
   | refine LeO.ite ?_ ?_
   | refine LeO.bind ?_ (fun _ => ?_)
set_option maxHeartbeats 8000000 in
set_option maxRecDepth 100000 in
theorem qJ.calls (k : Nat) (a0_0 : Int) (A0_1 : Option Addr) (c0_1 : Nat) (l0_1 : List ByteArray) (A0_2 : Option Addr) (c0_2 : Nat) (l0_2 : List (S55)) (a1 : Int) (r : List Int) (w : World) (hr0_1 : Kd.C Kd.string w A0_1 l0_1.length l0_1) (hc0_1 : l0_1.length ≤ c0_1) (hr0_2 : Kd.C k55 w A0_2 l0_2.length l0_2) (hc0_2 : l0_2.length ≤ c0_2) (h : qJ.f k a0_0 l0_1 l0_2 a1 = some r) :
  Calls Try.prog 73 #[.agg #[.int .i64 a0_0, .slice A0_1 l0_1.length c0_1, .slice A0_2 l0_2.length c0_2], .int .i64 a1] w fun e w' => ∃ v0_ : Value, e = .returned (v0_) ∧ Kd.R (Kd.int .i64) 3 w' w.heap.size (fun _ => True) v0_ r ∧ Below w.heap.size w w' := by
 have hu25 := Try.underlying25
 have hu55 := Try.underlying55
 have HR0_1 := qa.mk hr0_1
 have HC0_1 := qa.mk hc0_1
 clear hr0_1 hc0_1
 have HR0_2 := qa.mk hr0_2
 have HC0_2 := qa.mk hc0_2
 clear hr0_2 hc0_2
 have HB := qa.mk (Below.refl w.heap.size w)
 have H : ((qK.f k a0_0 l0_1 l0_2).bind fun t996 => (if t996 = 0 then (if a1 < 0 then (qJ.j0 k a1 true a0_0 l0_1 l0_2) else (qJ.j0 k a1 (decide (a1 ≥ a0_0)) a0_0 l0_1 l0_2)) else (qJ.j0 k a1 true a0_0 l0_1 l0_2))) = some r := h
 clear h
 have HC3 := qa.mk H
 clear H
 go_enter Try.func73, Try.ntmps73
 go_upto_region 1 with (first | ((with_reducible refine qY (N := 2) rfl ?_); refine qZ ?hg (N := 2) ?hd (cs := #[.int .i64 a0_0, .slice A0_1 l0_1.length c0_1, .slice A0_2 l0_2.length c0_2]) (t := 25) ?hr ?_; (case hd => rfl); (case hg => rfl); (case hr => first | (go_simp; done) | (go_simp; rfl)); intro gb995 hg w4 hbox hb; have n0_ := qa.mk (qD (by repeat (first | (with_reducible first | exact HB.out | apply qg | apply qb | apply qf) | exact HB.out)) hb); have n1_ := qa.mk (hbox); have n2_ := qa.mk ((by rw [hg]; exact (qA (by repeat (first | (with_reducible first | exact HB.out | apply qg | apply qb | apply qf) | exact HB.out))) : w.heap.size ≤ gb995)); have n3_ := qa.mk ((by rw [hg]; exact (qA (by repeat (first | (with_reducible first | exact HB.out | apply qg | apply qb | apply qf) | exact HB.out))) : w.heap.size ≤ gb995)); clear HB; have HB := n0_; have BK995 := n1_; have GW995 := n2_; have GE995 := n3_; clear n0_ n1_ n2_ n3_; clear hb hbox hg))
 (try simp only [Act.put, List.setIfInBounds_toArray, List.set_cons_zero, List.set_cons_succ])
 go_cut [24] (fun v24 wc => ∃ (kq : Nat) (x24_2 : Bool), v24 = .bool x24_2 ∧ qa (qJ.j0 kq a1 x24_2 a0_0 l0_1 l0_2 = some r) ∧ qa (kq ≤ k) ∧ qa (wc.heap[gb995]? = some (.cells #[.int .i64 a0_0, (.slice A0_1 l0_1.length c0_1), (.slice A0_2 l0_2.length c0_2)] 25 (0, 0))) ∧ qa (Below w.heap.size w wc))
 case first =>
  have H := HC3.out
  clear HC3
  replace H := Option.bind_eq_some_iff.mp H
  obtain ⟨t996, A50, H⟩ := H
  replace H : (if t996 = 0 then (if a1 < 0 then (qJ.j0 k a1 true a0_0 l0_1 l0_2) else (qJ.j0 k a1 (decide (a1 ≥ a0_0)) a0_0 l0_1 l0_2)) else (qJ.j0 k a1 true a0_0 l0_1 l0_2)) = some r := H
  have A5 := qa.mk A50
  clear A50
  by_cases c6 : t996 = 0
  ·rw [if_pos c6] at H
   have c6b0 : (t996 == 0) = true := beq_iff_eq.mpr c6
   have c6b1 : (t996 != 0) = false := bne_eq_false_iff_eq.mpr c6
   clear c6
   (first | rw [c6b0] | (simp only [qw, qx]; rw [c6b0]) | skip)
   by_cases c7 : a1 < 0
   ·rw [if_pos c7] at H
    have c7b0 : decide (a1 < 0) = true := decide_eq_true c7
    clear c7
    have H' := qa.mk H
    clear H
    have hcz8_0 : w4.cell? ⟨gb995, 0, none⟩ = some (.int .i64 a0_0) := (qj BK995.out 0).trans rfl
    have hcz8_1 : w4.cell? ⟨gb995, 1, none⟩ = some (.slice A0_1 l0_1.length c0_1) := (qj BK995.out 1).trans rfl
    have hcz8_2 : w4.cell? ⟨gb995, 2, none⟩ = some (.slice A0_2 l0_2.length c0_2) := (qj BK995.out 2).trans rfl
    have hfz8_0 := qm BK995.out 0
    have hfz8_1 := qm BK995.out 1
    have hfz8_2 := qm BK995.out 2
    go_wp2_with (first | ((with_reducible refine qR (f := 67) rfl ?_); refine vP (some 13) rfl rfl Try.func67 (by kernel_rfl) rfl #[.agg #[.int .i64 a0_0, .slice A0_1 l0_1.length c0_1, .slice A0_2 l0_2.length c0_2]] rfl (by (try simp only [List.map_toArray, List.map_cons, List.map_nil]); first | done | rfl | (simp only [List.length_drop, List.length_take]; rfl)) ?_; (with_reducible refine (qK.calls k a0_0 _ _ l0_1 _ _ l0_2 t996 _ ?side1 ?side2 ?side3 ?side4 A5.out).mono ?_); (case side1 => repeat (first | exact (Kd.qU HR0_1.out HB.out) | (with_reducible refine Kd.C_alloc ?_ _) | (with_reducible refine Kd.C_drewN ?_ _) | (with_reducible refine Kd.qQ ?_))); (case side2 => exact HC0_1.out); (case side3 => repeat (first | exact (Kd.qU HR0_2.out HB.out) | (with_reducible refine Kd.C_alloc ?_ _) | (with_reducible refine Kd.C_drewN ?_ _) | (with_reducible refine Kd.qQ ?_))); (case side4 => exact HC0_2.out); rintro e w9 ⟨rfl, hb⟩; refine ⟨_, rfl, ?_⟩; have n0_ := qa.mk (qB (g := gb995) (o := .cells #[.int .i64 a0_0, .slice A0_1 l0_1.length c0_1, .slice A0_2 l0_2.length c0_2] 25 (0, 0)) (by (with_reducible repeat (first | refine qi ?_ _ | refine ql ?_ | refine qh ?_ _)); exact BK995.out) hb); have n1_ := qa.mk (qD (by repeat (first | (with_reducible first | exact HB.out | apply qg | apply qb | apply qf | refine qd ?_ GE995.out) | exact HB.out)) hb); clear BK995; clear HB; have BK995 := n0_; have HB := n1_; clear n0_ n1_; (try clear hb); (try clear hb2); (try clear hk); (try clear hi)))
    go_meet
    case rel => exact ⟨_, (true), (by first | rfl | (simp; done) | (simp [*]; done)), H', ⟨by first | omega | exact Nat.le_refl _⟩, ⟨by (with_reducible repeat (first | refine qi ?_ _ | refine ql ?_ | refine qh ?_ _)); exact BK995.out⟩, ⟨by repeat (first | (with_reducible first | exact HB.out | apply qg | apply qb | apply qf | refine qd ?_ GE995.out) | exact HB.out)⟩⟩
   ·rw [if_neg c7] at H
    have c7b0 : decide (a1 < 0) = false := decide_eq_false c7
    clear c7
    have H' := qa.mk H
    clear H
    have hcz10_0 : w4.cell? ⟨gb995, 0, none⟩ = some (.int .i64 a0_0) := (qj BK995.out 0).trans rfl
    have hcz10_1 : w4.cell? ⟨gb995, 1, none⟩ = some (.slice A0_1 l0_1.length c0_1) := (qj BK995.out 1).trans rfl
    have hcz10_2 : w4.cell? ⟨gb995, 2, none⟩ = some (.slice A0_2 l0_2.length c0_2) := (qj BK995.out 2).trans rfl
    have hfz10_0 := qm BK995.out 0
    have hfz10_1 := qm BK995.out 1
    have hfz10_2 := qm BK995.out 2
    go_wp2_with (first | ((with_reducible refine qR (f := 67) rfl ?_); refine vP (some 13) rfl rfl Try.func67 (by kernel_rfl) rfl #[.agg #[.int .i64 a0_0, .slice A0_1 l0_1.length c0_1, .slice A0_2 l0_2.length c0_2]] rfl (by (try simp only [List.map_toArray, List.map_cons, List.map_nil]); first | done | rfl | (simp only [List.length_drop, List.length_take]; rfl)) ?_; (with_reducible refine (qK.calls k a0_0 _ _ l0_1 _ _ l0_2 t996 _ ?side1 ?side2 ?side3 ?side4 A5.out).mono ?_); (case side1 => repeat (first | exact (Kd.qU HR0_1.out HB.out) | (with_reducible refine Kd.C_alloc ?_ _) | (with_reducible refine Kd.C_drewN ?_ _) | (with_reducible refine Kd.qQ ?_))); (case side2 => exact HC0_1.out); (case side3 => repeat (first | exact (Kd.qU HR0_2.out HB.out) | (with_reducible refine Kd.C_alloc ?_ _) | (with_reducible refine Kd.C_drewN ?_ _) | (with_reducible refine Kd.qQ ?_))); (case side4 => exact HC0_2.out); rintro e w11 ⟨rfl, hb⟩; refine ⟨_, rfl, ?_⟩; have n0_ := qa.mk (qB (g := gb995) (o := .cells #[.int .i64 a0_0, .slice A0_1 l0_1.length c0_1, .slice A0_2 l0_2.length c0_2] 25 (0, 0)) (by (with_reducible repeat (first | refine qi ?_ _ | refine ql ?_ | refine qh ?_ _)); exact BK995.out) hb); have n1_ := qa.mk (qD (by repeat (first | (with_reducible first | exact HB.out | apply qg | apply qb | apply qf | refine qd ?_ GE995.out) | exact HB.out)) hb); clear BK995; clear HB; have BK995 := n0_; have HB := n1_; clear n0_ n1_; (try clear hb); (try clear hb2); (try clear hk); (try clear hi); have hcz12_0 : w11.cell? ⟨gb995, 0, none⟩ = some (.int .i64 a0_0) := (qj BK995.out 0).trans rfl; have hcz12_1 : w11.cell? ⟨gb995, 1, none⟩ = some (.slice A0_1 l0_1.length c0_1) := (qj BK995.out 1).trans rfl; have hcz12_2 : w11.cell? ⟨gb995, 2, none⟩ = some (.slice A0_2 l0_2.length c0_2) := (qj BK995.out 2).trans rfl; have hfz12_0 := qm BK995.out 0; have hfz12_1 := qm BK995.out 1; have hfz12_2 := qm BK995.out 2))
    go_meet
    case rel => exact ⟨_, (decide (a1 ≥ a0_0)), (by first | rfl | (simp; done) | (simp [*]; done)), H', ⟨by first | omega | exact Nat.le_refl _⟩, ⟨by (with_reducible repeat (first | refine qi ?_ _ | refine ql ?_ | refine qh ?_ _)); exact BK995.out⟩, ⟨by repeat (first | (with_reducible first | exact HB.out | apply qg | apply qb | apply qf | refine qd ?_ GE995.out) | exact HB.out)⟩⟩
  ·rw [if_neg c6] at H
   have c6b0 : (t996 == 0) = false := beq_eq_false_iff_ne.mpr c6
   have c6b1 : (t996 != 0) = true := bne_iff_ne.mpr c6
   (first | rw [c6b0] | (simp only [qw, qx]; rw [c6b0]) | skip)
   have H' := qa.mk H
   clear H
   have hcz13_0 : w4.cell? ⟨gb995, 0, none⟩ = some (.int .i64 a0_0) := (qj BK995.out 0).trans rfl
   have hcz13_1 : w4.cell? ⟨gb995, 1, none⟩ = some (.slice A0_1 l0_1.length c0_1) := (qj BK995.out 1).trans rfl
   have hcz13_2 : w4.cell? ⟨gb995, 2, none⟩ = some (.slice A0_2 l0_2.length c0_2) := (qj BK995.out 2).trans rfl
   have hfz13_0 := qm BK995.out 0
   have hfz13_1 := qm BK995.out 1
   have hfz13_2 := qm BK995.out 2
   go_wp2_with (first | ((with_reducible refine qR (f := 67) rfl ?_); refine vP (some 13) rfl rfl Try.func67 (by kernel_rfl) rfl #[.agg #[.int .i64 a0_0, .slice A0_1 l0_1.length c0_1, .slice A0_2 l0_2.length c0_2]] rfl (by (try simp only [List.map_toArray, List.map_cons, List.map_nil]); first | done | rfl | (simp only [List.length_drop, List.length_take]; rfl)) ?_; (with_reducible refine (qK.calls k a0_0 _ _ l0_1 _ _ l0_2 t996 _ ?side1 ?side2 ?side3 ?side4 A5.out).mono ?_); (case side1 => repeat (first | exact (Kd.qU HR0_1.out HB.out) | (with_reducible refine Kd.C_alloc ?_ _) | (with_reducible refine Kd.C_drewN ?_ _) | (with_reducible refine Kd.qQ ?_))); (case side2 => exact HC0_1.out); (case side3 => repeat (first | exact (Kd.qU HR0_2.out HB.out) | (with_reducible refine Kd.C_alloc ?_ _) | (with_reducible refine Kd.C_drewN ?_ _) | (with_reducible refine Kd.qQ ?_))); (case side4 => exact HC0_2.out); rintro e w14 ⟨rfl, hb⟩; refine ⟨_, rfl, ?_⟩; have n0_ := qa.mk (qB (g := gb995) (o := .cells #[.int .i64 a0_0, .slice A0_1 l0_1.length c0_1, .slice A0_2 l0_2.length c0_2] 25 (0, 0)) (by (with_reducible repeat (first | refine qi ?_ _ | refine ql ?_ | refine qh ?_ _)); exact BK995.out) hb); have n1_ := qa.mk (qD (by repeat (first | (with_reducible first | exact HB.out | apply qg | apply qb | apply qf | refine qd ?_ GE995.out) | exact HB.out)) hb); clear BK995; clear HB; have BK995 := n0_; have HB := n1_; clear n0_ n1_; (try clear hb); (try clear hb2); (try clear hk); (try clear hi)))
   go_meet
   case rel => exact ⟨_, (true), (by first | rfl | (simp; done) | (simp [*]; done)), H', ⟨by first | omega | exact Nat.le_refl _⟩, ⟨by (with_reducible repeat (first | refine qi ?_ _ | refine ql ?_ | refine qh ?_ _)); exact BK995.out⟩, ⟨by repeat (first | (with_reducible first | exact HB.out | apply qg | apply qb | apply qf | refine qd ?_ GE995.out) | exact HB.out)⟩⟩
 case rest =>
  clear HC3
  try clear p2
  try clear c6
  try clear c6b0
  try clear c6b1
  try clear c7
  try clear c7b0
  try clear hcz10_0
  try clear hcz10_1
  try clear hcz10_2
  try clear hcz12_0
  try clear hcz12_1
  try clear hcz12_2
  try clear hcz13_0
  try clear hcz13_1
  try clear hcz13_2
  try clear hcz8_0
  try clear hcz8_1
  try clear hcz8_2
  try clear hfz10_0
  try clear hfz10_1
  try clear hfz10_2
  try clear hfz12_0
  try clear hfz12_1
  try clear hfz12_2
  try clear hfz13_0
  try clear hfz13_1
  try clear hfz13_2
  try clear hfz8_0
  try clear hfz8_1
  try clear hfz8_2
  obtain ⟨kq, x24_2, rfl, HA, HJ2, BK995, HB⟩ := hcut
  cases kq with
  | zero => exact absurd HA.out (by simp [qJ.j0])
  | succ kj2 =>
   have H := HA.out
   clear HA
   simp only [qJ.j0] at H
   by_cases c15 : x24_2 = true
   ·subst c15
    have H1 : (some ([] : List Int)) = some r := by rw [if_pos rfl] at H; exact H
    clear H
    have H := H1
    clear H1
    obtain rfl := Option.some.inj H
    go_wp2
    go_ret
    exact ⟨_, by first | rfl | (simp [errW_none, errW_some] <;> rfl) | (simp [*, errW_none, errW_some] <;> rfl), by first | exact Kd.jO _ _ _ _ _ | exact Kd.N_nil _ _ _ _ _ | exact Kd.V_nil _ _ _ _ _ | exact Kd.Q_nil _ _ _ _ _ | exact Kd.S_nil _ _ _ _ _, by repeat (first | (with_reducible first | exact HB.out | apply qg | apply qb | apply qf | refine qd ?_ GE995.out) | exact HB.out)⟩
   ·replace c15 := Bool.eq_false_iff.mpr c15
    subst c15
    have H1 : (if 0 ≤ a0_0 then (if (a0_0 : Int).toNat ≤ 281474976710656 then ((some (List.replicate (a0_0 : Int).toNat false : List Bool)).bind fun y997 => (if 0 ≤ a1 then (if a1 < (y997.length : Int) then (qJ.l0 kj2 (y997.set (a1 : Int).toNat true) (([a1] : List Int)) a0_0 l0_1 l0_2) else (none)) else (none))) else (none)) else (none)) = some r := by rw [if_neg (show ¬ (false = true) by decide)] at H; exact H
    clear H
    have H := H1
    clear H1
    by_cases c16 : 0 ≤ a0_0
    ·rw [if_pos c16] at H
     have c16b0 := eq_true c16
     have c16b1 : decide (0 ≤ a0_0) = true := decide_eq_true c16
     clear c16
     by_cases c17 : (a0_0 : Int).toNat ≤ 281474976710656
     ·rw [if_pos c17] at H
      have c17b0 := eq_true c17
      have c17b1 : decide ((a0_0 : Int).toNat ≤ 281474976710656) = true := decide_eq_true c17
      clear c17
      obtain ⟨y997, hy997⟩ : ∃ y_ : List Bool, y_ = (List.replicate (a0_0 : Int).toNat false) := ⟨_, rfl⟩
      replace H : (if 0 ≤ a1 then (if a1 < (y997.length : Int) then (qJ.l0 kj2 (y997.set (a1 : Int).toNat true) (([a1] : List Int)) a0_0 l0_1 l0_2) else (none)) else (none)) = some r := by first | (rw [hy997]; with_reducible exact H) | (have H2_ := (Option.bind_some _ _).symm.trans H; rw [hy997]; with_reducible exact H2_) | (have H2_ := (Option.bind_some _ _).symm.trans H; with_reducible exact H2_) | with_reducible exact H | (rw [hy997]; exact H) | exact H
      have Ny997 := qa.mk hy997
      clear hy997
      by_cases c18 : 0 ≤ a1
      ·rw [if_pos c18] at H
       have c18b0 : decide (0 ≤ a1) = true := decide_eq_true c18
       clear c18
       by_cases c19 : a1 < (y997.length : Int)
       ·rw [if_pos c19] at H
        have c19b0 : decide (a1 < (y997.length : Int)) = true := decide_eq_true c19
        clear c19
        obtain ⟨y1000, hy1000⟩ : ∃ y_ : List Bool, y_ = (y997.set (a1 : Int).toNat true) := ⟨_, rfl⟩
        replace H : (qJ.l0 kj2 y1000 (([a1] : List Int)) a0_0 l0_1 l0_2) = some r := by first | (rw [hy1000]; with_reducible exact H) | (have H2_ := (Option.bind_some _ _).symm.trans H; rw [hy1000]; with_reducible exact H2_) | (have H2_ := (Option.bind_some _ _).symm.trans H; with_reducible exact H2_) | with_reducible exact H | (rw [hy1000]; exact H) | exact H
        have Ny1000 := qa.mk hy1000
        clear hy1000
        obtain ⟨y1001, hy1001⟩ : ∃ y_ : List Int, y_ = (([a1] : List Int)) := ⟨_, rfl⟩
        replace H : (qJ.l0 kj2 y1000 y1001 a0_0 l0_1 l0_2) = some r := by first | (rw [hy1001]; with_reducible exact H) | (have H2_ := (Option.bind_some _ _).symm.trans H; rw [hy1001]; with_reducible exact H2_) | (have H2_ := (Option.bind_some _ _).symm.trans H; with_reducible exact H2_) | with_reducible exact H | (rw [hy1001]; exact H) | exact H
        have Ny1001 := qa.mk hy1001
        clear hy1001
        have H' := qa.mk H
        clear H
        have hcz21_0 : wc.cell? ⟨gb995, 0, none⟩ = some (.int .i64 a0_0) := (qj BK995.out 0).trans rfl
        have hcz21_1 : wc.cell? ⟨gb995, 1, none⟩ = some (.slice A0_1 l0_1.length c0_1) := (qj BK995.out 1).trans rfl
        have hcz21_2 : wc.cell? ⟨gb995, 2, none⟩ = some (.slice A0_2 l0_2.length c0_2) := (qj BK995.out 2).trans rfl
        have hfz21_0 := qm BK995.out 0
        have hfz21_1 := qm BK995.out 1
        have hfz21_2 := qm BK995.out 2
        go_wp2_with (first | ((with_reducible refine qY (N := 27) rfl ?_); refine Kd.R_make Kd.bool _ 4 rfl (N := 27) rfl 41 _ _ rfl a0_0 rfl rfl Try.underlying41 (.bool false) 1 info4 rfl (by decide) (by omega) false (ok := fun _ => True) (okp := fun _ => True) rfl (fun _ hk => hk) trivial (of_decide_eq_true (by first | (with_reducible assumption) | assumption)) (Nat.le_trans (Nat.mul_le_mul_right _ (of_decide_eq_true (by first | (with_reducible assumption) | assumption) : a0_0.toNat ≤ 281474976710656)) (by omega)) (Below.refl _ _) (Nat.le_refl _) ?_; intro v998 w22 ho23 hb hg_ hnew_; clear hg_ hnew_; (first | rw [← Ny997.out] at ho23 | (simp only [Int.reduceToNat] at ho23; rw [← Ny997.out] at ho23)); have n0_ := qa.mk (Kd.vO ho23 (qA (by repeat (first | (with_reducible first | exact HB.out | apply qg | apply qb | apply qf | refine qd ?_ GE995.out) | exact HB.out)))); have n1_ := qa.mk (qB (g := gb995) (o := .cells #[.int .i64 a0_0, .slice A0_1 l0_1.length c0_1, .slice A0_2 l0_2.length c0_2] 25 (0, 0)) (by (with_reducible repeat (first | refine qi ?_ _ | refine ql ?_ | refine qh ?_ _)); exact BK995.out) hb); have n2_ := qa.mk (qD (by repeat (first | (with_reducible first | exact HB.out | apply qg | apply qb | apply qf | refine qd ?_ GE995.out) | exact HB.out)) hb); clear BK995; clear HB; have HO999 := n0_; have BK995 := n1_; have HB := n2_; clear n0_ n1_ n2_; clear hb ho23; have p20 : 0 ≤ (a1 : Int) := of_decide_eq_true (by first | (with_reducible assumption) | assumption); have q20 : (a1 : Int) < ((y997.length : Int) : Int) := of_decide_eq_true (by first | (with_reducible assumption) | assumption); obtain ⟨go20, co20, eo20, gb20, gl20, cl20, HG20⟩ := Kd.R_form HO999.out (by omega); (first | cases eo20 | (injection eo20 with ea_ en_ ec_; (first | subst ea_ | (injection ea_ with ea_; subst ea_)); subst ec_; clear en_)); have GB20 := qa.mk gb20; have GG20 := qa.mk HG20; clear gb20 gl20 HG20; obtain ⟨hx20_0, hf20_0⟩ := Kd.ku false HO999.out (a1 : Int) p20 q20; replace p20 := eq_true p20; replace q20 := eq_true q20; obtain ⟨hy24_, hz24_⟩ := Kd.ku false HO999.out (a1 : Int) (of_decide_eq_true (by first | (with_reducible assumption) | assumption)) (of_decide_eq_true (by first | (with_reducible assumption) | assumption)); have HP24 := Kd.R_putg HO999.out (a1 : Int) true) | ((with_reducible refine jm (t := 4) (p := 30) rfl ?_); refine wT (t := 4) (p := 30) (v := ?vo_w25) (w1 := (w22.setCell ⟨go20, (a1 : Int).toNat, none⟩ (.bool true))) ?hg ?ho ?hn ?hr ?_; (case ho => rfl); (case hg => rfl); (case hn => rfl); (case hr => first | (go_simp; done) | (go_simp; rfl)); intro w25 hw; have hg : w22.grownBy w25 (some go20) := (by rw [hw]; exact HP24.2); have hp_ : Kd.R Kd.bool 4 w25 w.heap.size (fun _ => True) (.slice (some ⟨go20, 0, none⟩) y997.length co20) y1000 := (by rw [hw, Ny1000.out]; exact HP24.1); clear HP24; have n0_ := qa.mk (q9 (g := gb995) (o := .cells #[.int .i64 a0_0, .slice A0_1 l0_1.length c0_1, .slice A0_2 l0_2.length c0_2] 25 (0, 0)) (by (with_reducible repeat (first | refine qi ?_ _ | refine ql ?_ | refine qh ?_ _)); exact BK995.out) hg (Kd.R_ne HO999.out BK995.out (by decide))); have n1_ := qa.mk (hp_); have n2_ := qa.mk ((by rw [hw]; exact qd (HB.out) GB20.out : Below w.heap.size w w25)); clear BK995; clear HO999; clear HB; have BK995 := n0_; have HO999 := n1_; have HB := n2_; clear n0_ n1_ n2_; clear hg hw hp_) | ((with_reducible refine qY (N := 32) rfl ?_); refine Kd.jS (Kd.int .i64) _ 3 ?hg (N := 32) ?hd (xs := ([a1] : List Int)) (inner := [.int .i64 a1]) (ok := fun _ => True) (okp := fun _ => True) ?hr ?hp (fun _ hk => hk) trivial (Below.refl _ _) (Nat.le_refl _) (by simp) ?_; (case hd => rfl); (case hg => rfl); (case hr => first | (go_simp; done) | (go_simp; rfl)); (case hp => exact (Reps.one (show Kd.M (Kd.int .i64) _ _ _ a1 [.int .i64 a1] from rfl) (Reps.none _ _))); intro v1002 w26 ho27 hb hg_ hnew_; clear hg_ hnew_; (first | rw [← Ny1001.out] at ho27 | (simp only [Int.reduceToNat] at ho27; rw [← Ny1001.out] at ho27)); have n0_ := qa.mk (Kd.qL (by (with_reducible repeat (first | apply Kd.R_alloc | apply Kd.qo | apply Kd.qz)); exact HO999.out) hb); have n1_ := qa.mk (Kd.vO ho27 (qA (by repeat (first | (with_reducible first | exact HB.out | apply qg | apply qb | apply qf | refine qd ?_ GE995.out) | exact HB.out)))); have n2_ := qa.mk (qB (g := gb995) (o := .cells #[.int .i64 a0_0, .slice A0_1 l0_1.length c0_1, .slice A0_2 l0_2.length c0_2] 25 (0, 0)) (by (with_reducible repeat (first | refine qi ?_ _ | refine ql ?_ | refine qh ?_ _)); exact BK995.out) hb); have n3_ := qa.mk (qD (by repeat (first | (with_reducible first | exact HB.out | apply qg | apply qb | apply qf | refine qd ?_ GE995.out) | exact HB.out)) hb); clear HO999; clear BK995; clear HB; have HO999 := n0_; have HO1003 := n1_; have BK995 := n2_; have HB := n3_; clear n0_ n1_ n2_ n3_; clear hb ho27))
        go_loopg [6] kj2 (fun kq v6 w' => ∃ (x5_2 : List Bool) (x6_2 : List Int), qa (qJ.l0 kq x5_2 x6_2 a0_0 l0_1 l0_2 = some r) ∧ qa (kq ≤ kj2) ∧ qa (Kd.R Kd.bool 4 w' w.heap.size (fun _ => True) (.slice (some ⟨go20, 0, none⟩) y997.length co20) x5_2) ∧ qa (Kd.Q (Kd.int .i64) 3 w' w.heap.size (fun _ => True) v6 x6_2) ∧ qa (w'.heap[gb995]? = some (.cells #[.int .i64 a0_0, (.slice A0_1 l0_1.length c0_1), (.slice A0_2 l0_2.length c0_2)] 25 (0, 0))) ∧ qa (Below w.heap.size w w'))
        case atStart => exact ⟨(y1000), (y1001), H', ⟨Nat.le_refl _⟩, ⟨by (with_reducible repeat (first | apply Kd.R_alloc | apply Kd.qo | apply Kd.qz)); exact HO999.out⟩, ⟨Kd.Q_of_R (by (with_reducible repeat (first | apply Kd.R_alloc | apply Kd.qo | apply Kd.qz)); exact HO1003.out)⟩, ⟨by (with_reducible repeat (first | refine qi ?_ _ | refine ql ?_ | refine qh ?_ _)); exact BK995.out⟩, ⟨by repeat (first | (with_reducible first | exact HB.out | apply qg | apply qb | apply qf | refine qd ?_ GE995.out) | exact HB.out)⟩⟩
        case round =>
         clear H'
         try clear c1
         try clear p2
         try clear q2
         try clear hx2
         try clear hf2
         try clear c6
         try clear c6b0
         try clear c6b1
         try clear c7
         try clear c7b0
         try clear c15
         try clear c16
         try clear c16b0
         try clear c16b1
         try clear c17
         try clear c17b0
         try clear c17b1
         try clear c18
         try clear c18b0
         try clear c19
         try clear c19b0
         try clear p20
         try clear q20
         try clear hx20
         try clear hf20
         try clear hcz10_0
         try clear hcz10_1
         try clear hcz10_2
         try clear hcz12_0
         try clear hcz12_1
         try clear hcz12_2
         try clear hcz13_0
         try clear hcz13_1
         try clear hcz13_2
         try clear hcz21_0
         try clear hcz21_1
         try clear hcz21_2
         try clear hcz8_0
         try clear hcz8_1
         try clear hcz8_2
         try clear hfz10_0
         try clear hfz10_1
         try clear hfz10_2
         try clear hfz12_0
         try clear hfz12_1
         try clear hfz12_2
         try clear hfz13_0
         try clear hfz13_1
         try clear hfz13_2
         try clear hfz21_0
         try clear hfz21_1
         try clear hfz21_2
         try clear hfz8_0
         try clear hfz8_1
         try clear hfz8_2
         try clear hx20_0
         try clear p2
         try clear p20
         try clear q20
         obtain ⟨x5_2, x6_2, HA, HK2, HO_5, HO_6, BK995, HB⟩ := hrel
         have hl5_2 := (Kd.qH HO_5.out).1
         rw [hl5_2] at HO_5
         (try simp only [hl5_2])
         (try simp only [hl5_2] at BK995)
         (try simp only [hl5_2] at HO_6)
         cases gk with
         | zero => exact absurd HA.out (by simp [qJ.l0])
         | succ k2 =>
          have H := HA.out
          clear HA
          simp only [qJ.l0] at H
          by_cases c28 : (x6_2.length : Int) > 0
          ·rw [if_pos c28] at H
           have c28b0 : decide (0 < (x6_2.length : Int)) = true := decide_eq_true c28
           have c28b1 : decide (0 < x6_2.length) = true := decide_eq_true (by omega)
           clear c28
           by_cases c29 : 0 < (x6_2.length : Int)
           ·rw [if_pos c29] at H
            have c29b0 : decide (0 < (x6_2.length : Int)) = true := decide_eq_true c29
            have c29b1 : decide (0 < x6_2.length) = true := decide_eq_true (by omega)
            clear c29
            replace H := Option.bind_eq_some_iff.mp H
            obtain ⟨t1005, A300, H⟩ := H
            replace H : (qJ.l1 k2 x5_2 x6_2 t1005 (t1005.length : Int) 0 a0_0 l0_1 l0_2) = some r := H
            have A30 := qa.mk A300
            clear A300
            have H' := qa.mk H
            clear H
            obtain ⟨Ao31, co31, eo31, _⟩ := Kd.yc HO_6.out
            subst eo31
            try go_wp2
            have n0_ := qa.mk (Kd.qz HO_5.out)
            have n1_ := qa.mk (Kd.wQ HO_6.out)
            have n2_ := qa.mk (ql BK995.out)
            have n3_ := qa.mk (qf HB.out)
            clear HO_5
            clear HO_6
            clear BK995
            clear HB
            have HO_5 := n0_
            have HO_6 := n1_
            have BK995 := n2_
            have HB := n3_
            clear n0_ n1_ n2_ n3_
            have p1004 : 0 ≤ (0 : Int) := (by omega)
            have q1004 : 0 < (x6_2.length : Int) := of_decide_eq_true (by first | (with_reducible assumption) | assumption)
            obtain ⟨ad1004, e1004, hx1004_0⟩ := Kd.j3 (Kd.yP HO_6.out).2.2 0 p1004 q1004
            cases e1004
            have qi1004 : (0 < x6_2.length) = True := eq_true (by omega)
            (try rw [show ((0 : Int)).toNat = 0 from rfl] at hx1004_0)
            (try rw [Addr.add_zero'] at hx1004_0)
            replace p1004 := eq_true p1004
            replace q1004 := eq_true q1004
            refine zI (n := 7) (S := fun w' => w'.cell? ⟨gb995, 0, none⟩ = some (.int .i64 a0_0) ∧ w'.cell? ⟨gb995, 1, none⟩ = some (.slice A0_1 l0_1.length c0_1) ∧ w'.cell? ⟨gb995, 2, none⟩ = some (.slice A0_2 l0_2.length c0_2) ∧ w'.cell? ad1004 = some (.int .i64 (rd x6_2 0))) (ds := []) #[false, false, false, false, false, false, false] (by kernel_rfl) rfl rfl ⟨(qj BK995.out 0).trans rfl, (qj BK995.out 1).trans rfl, (qj BK995.out 2).trans rfl, hx1004_0⟩ (fun hHeld => ?_)
            generalize wr.drew = w32 at HO_5 HO_6 BK995 HB hx1004_0 hHeld ⊢
            refine qy (i := 1) (N := some 39) #[false, true, false, false, false, false, false] rfl rfl (by kernel_rfl) (fun _ _ _ h => h) (.inl ⟨by rfl, by intro w'; go_simp; with_reducible rfl⟩) (by simp only [Act.put, sA, sB, sC, qw, qx]; rfl) ?_
            refine qy (i := 2) (N := some 40) #[false, true, true, false, false, false, false] rfl rfl (by kernel_rfl) (fun _ _ _ h => h) (.inl ⟨by rfl, by intro w'; go_simp; with_reducible rfl⟩) (by simp only [Act.put, sA, sB, sC, qw, qx]; rfl) ?_
            refine qy (i := 6) (N := some 44) #[false, true, true, false, false, false, true] rfl rfl (by kernel_rfl) (fun _ _ _ h => h) (.inl ⟨by rfl, by intro w'; go_simp; with_reducible rfl⟩) (by simp only [Act.put, sA, sB, sC, qw, qx]; rfl) ?_
            refine vJ (i := 0) (N := some 38) #[true, true, true, false, false, false, true] rfl rfl (by kernel_rfl) (fun _ _ _ h => h) (.inl ⟨by rfl, by rintro w' ⟨s0, s1, s2, s3⟩; go_simp; with_reducible rfl⟩) hHeld (by simp only [Act.put, sA, sB, sC, qw, qx]; rfl) ?_
            refine vJ (i := 3) (N := some 41) #[true, true, true, true, false, false, true] rfl rfl (by kernel_rfl) (fun _ _ _ h => h) (.inl ⟨by rfl, by rintro w' ⟨s0, s1, s2, s3⟩; go_simp; with_reducible rfl⟩) hHeld (by simp only [Act.put, sA, sB, sC, qw, qx]; rfl) ?_
            refine one_ (i := 4) (N := some 42) #[true, true, true, true, true, false, true] rfl rfl (by kernel_rfl) (by decide) (fun K hK => ?_)
            refine jI Try.func131 (by kernel_rfl) rfl #[.agg #[.int .i64 a0_0, .slice A0_1 l0_1.length c0_1, .slice A0_2 l0_2.length c0_2], .int .i64 (rd x6_2 0)] (by rfl) rfl rfl (by (try simp only [List.map_toArray, List.map_cons, List.map_nil]); first | done | rfl | (simp only [List.length_drop, List.length_take]; rfl)) ?_
            with_reducible refine (zm.calls k2 a0_0 _ _ l0_1 (fun k_ => k_ < w.heap.size) _ _ l0_2 (rd x6_2 0) t1005 _ ?side1 ?side2 ?side3 A30.out).mono ?_
            (case side1 => repeat (first | exact (Kd.qU HR0_1.out HB.out) | (with_reducible refine Kd.C_alloc ?_ _) | (with_reducible refine Kd.C_drewN ?_ _) | (with_reducible refine Kd.qQ ?_)))
            (case side2 => exact HC0_1.out)
            (case side3 => exact Kd.V_mk HC0_2.out (Kd.jw (Kd.C_F yL HR0_2.out) (by repeat (first | (with_reducible first | exact HB.out | apply qg | apply qb | apply qf | refine qd ?_ GE995.out) | exact HB.out))))
            rintro e w33 ⟨v1006, rfl, ho0, hb⟩
            have HS3_ := (hb.cell (World.block_lt_of_cell? _ _ (hHeld.2.2.2))).trans (hHeld.2.2.2)
            refine ⟨_, rfl, ?_⟩
            have n0_ := qa.mk (Kd.qL (by (with_reducible repeat (first | apply Kd.R_alloc | apply Kd.qo | apply Kd.qz)); exact HO_5.out) hb)
            have n1_ := qa.mk (Kd.kD (by (with_reducible repeat (first | apply Kd.Q_alloc | apply Kd.Q_drewN | apply Kd.wQ)); exact HO_6.out) hb)
            have n2_ := qa.mk (Kd.yg (Kd.zg (ok' := fun k_ => some k_ ≠ (.slice (some ⟨go20, 0, none⟩) x5_2.length co20 : Value).ownBlock ∧ some k_ ≠ (.slice (some ad1004) x6_2.length co31 : Value).ownBlock ∧ k_ ≠ gb995) ho0 (fun k_ hk_ => ⟨Or.elim hk_ (fun hs_ => fun e_ => Nat.not_le.2 hs_ (Kd.vE HO_5.out k_ e_.symm)) (fun hn_ => (Kd.fresh' (Kd.R_lt (by (with_reducible repeat (first | apply Kd.R_alloc | apply Kd.qo | apply Kd.qz)); exact HO_5.out)) k_ hn_)), Or.elim hk_ (fun hs_ => fun e_ => Nat.not_le.2 hs_ (Kd.Q_base HO_6.out k_ e_.symm)) (fun hn_ => (Kd.fresh' (Kd.Q_lt (by (with_reducible repeat (first | apply Kd.Q_alloc | apply Kd.Q_drewN | apply Kd.wQ)); exact HO_6.out)) k_ hn_)), Or.elim hk_ (fun hs_ => fun e_ => Nat.not_le.2 hs_ (by rw [e_]; exact GW995.out)) (fun hn_ => (Kd.wD (g := gb995) (o := .cells #[.int .i64 a0_0, .slice A0_1 l0_1.length c0_1, .slice A0_2 l0_2.length c0_2] 25 (0, 0)) (by (with_reducible repeat (first | refine qi ?_ _ | refine ql ?_ | refine qh ?_ _)); exact BK995.out) k_ hn_))⟩)) (qA (by repeat (first | (with_reducible first | exact HB.out | apply qg | apply qb | apply qf | refine qd ?_ GE995.out) | exact HB.out))))
            have n3_ := qa.mk (qB (g := gb995) (o := .cells #[.int .i64 a0_0, .slice A0_1 l0_1.length c0_1, .slice A0_2 l0_2.length c0_2] 25 (0, 0)) (by (with_reducible repeat (first | refine qi ?_ _ | refine ql ?_ | refine qh ?_ _)); exact BK995.out) hb)
            have n4_ := qa.mk (qD (by repeat (first | (with_reducible first | exact HB.out | apply qg | apply qb | apply qf | refine qd ?_ GE995.out) | exact HB.out)) hb)
            clear HO_5
            clear HO_6
            clear BK995
            clear HB
            have HO_5 := n0_
            have HO_6 := n1_
            have HO1007 := n2_
            have BK995 := n3_
            have HB := n4_
            clear n0_ n1_ n2_ n3_ n4_
            (try clear hb)
            (try clear hb2)
            (try clear hk)
            (try clear hi)
            (try clear ho0)
            obtain ⟨Ao34, co34, eo34⟩ := Kd.yD HO1007.out
            (first | subst eo34 | (injection eo34 with f1_ f2_ f3_; have f4_ := f1_.symm; have f5_ := f3_.symm; clear f1_ f2_ f3_; subst f4_; subst f5_))
            refine hK.out _ _ ⟨(qj BK995.out 0).trans rfl, (qj BK995.out 1).trans rfl, (qj BK995.out 2).trans rfl, HS3_⟩ (fun hHeld => ?_)
            clear hK K
            refine zo (a' := ?_) ?_ ?_
            rotate_left
            ·show Act.put _ (some 42) _ = _
             simp only [Act.put, sA, sB, sC, qw, qx]
             rfl
            refine qy (i := 5) (N := some 43) #[true, true, true, true, true, true, true] rfl rfl (by kernel_rfl) (fun _ _ _ h => h) (.inl ⟨by rfl, by intro w'; go_simp; with_reducible rfl⟩) (by simp only [Act.put, sA, sB, sC, qw, qx]; rfl) ?_
            refine zP (by kernel_rfl) ?_
            try go_wp2
            go_loopg [6, 44] k2 (fun kq v6 v44 w' => ∃ (x5_3 : List Bool) (x6_3 : List Int) (x44_3 : Int), v44 = .int .i64 x44_3 ∧ qa (qJ.l1 kq x5_3 x6_3 t1005 (t1005.length : Int) x44_3 a0_0 l0_1 l0_2 = some r) ∧ qa (kq ≤ k2) ∧ qa (Kd.R Kd.bool 4 w' w.heap.size (fun _ => True) (.slice (some ⟨go20, 0, none⟩) x5_2.length co20) x5_3) ∧ qa (Kd.Q (Kd.int .i64) 3 w' w.heap.size (fun _ => True) v6 x6_3) ∧ qa (Kd.V k55 55 w' w.heap.size (fun k_ => some k_ ≠ ((.slice (some ⟨go20, 0, none⟩) x5_2.length co20) : Value).ownBlock ∧ some k_ ≠ (v6 : Value).ownBlock ∧ k_ ≠ gb995) (.slice Ao34 t1005.length co34) t1005) ∧ qa (w'.heap[gb995]? = some (.cells #[.int .i64 a0_0, (.slice A0_1 l0_1.length c0_1), (.slice A0_2 l0_2.length c0_2)] 25 (0, 0))) ∧ qa (Below w.heap.size w w'))
            case atStart => exact ⟨(x5_2), (x6_2), (0), (by first | rfl | (simp; done) | (simp [*]; done)), H', ⟨Nat.le_refl _⟩, ⟨by (try simp only [hl5_2]); (with_reducible repeat (first | apply Kd.R_alloc | apply Kd.qo | apply Kd.qz)); exact HO_5.out⟩, ⟨by (try simp only [hl5_2]); (with_reducible repeat (first | apply Kd.Q_alloc | apply Kd.Q_drewN | apply Kd.wQ)); exact HO_6.out⟩, ⟨by (try simp only [hl5_2]); (with_reducible repeat (first | apply Kd.V_alloc | apply Kd.V_drewN | apply Kd.vg)); exact HO1007.out⟩, ⟨by (try simp only [hl5_2]); (with_reducible repeat (first | refine qi ?_ _ | refine ql ?_ | refine qh ?_ _)); exact BK995.out⟩, ⟨by repeat (first | (with_reducible first | exact HB.out | apply qg | apply qb | apply qf | refine qd ?_ GE995.out) | exact HB.out)⟩⟩
            case round =>
             clear H'
             try clear c1
             try clear p1
             try clear q1
             try clear hx1
             try clear qi1
             try clear c2
             try clear p2
             try clear q2
             try clear hx2
             try clear hf2
             try clear c6
             try clear c6b0
             try clear c6b1
             try clear c7
             try clear c7b0
             try clear p10
             try clear q10
             try clear hx10
             try clear qi10
             try clear c13
             try clear c15
             try clear c16
             try clear c16b0
             try clear c16b1
             try clear c17
             try clear c17b0
             try clear c17b1
             try clear c18
             try clear c18b0
             try clear c19
             try clear c19b0
             try clear p20
             try clear q20
             try clear hx20
             try clear hf20
             try clear c28
             try clear c28b0
             try clear c28b1
             try clear c29
             try clear c29b0
             try clear c29b1
             try clear hcz10_0
             try clear hcz10_1
             try clear hcz10_2
             try clear hcz12_0
             try clear hcz12_1
             try clear hcz12_2
             try clear hcz13_0
             try clear hcz13_1
             try clear hcz13_2
             try clear hcz21_0
             try clear hcz21_1
             try clear hcz21_2
             try clear hcz8_0
             try clear hcz8_1
             try clear hcz8_2
             try clear hfz10_0
             try clear hfz10_1
             try clear hfz10_2
             try clear hfz12_0
             try clear hfz12_1
             try clear hfz12_2
             try clear hfz13_0
             try clear hfz13_1
             try clear hfz13_2
             try clear hfz21_0
             try clear hfz21_1
             try clear hfz21_2
             try clear hfz8_0
             try clear hfz8_1
             try clear hfz8_2
             try clear hx1004_0
             try clear hx20_0
             try clear p1004
             try clear p2
             try clear p20
             try clear q1004
             try clear q2
             try clear q20
             obtain ⟨x5_3, x6_3, x44_3, rfl, HA, HK3, HO_5, HO_6, HO_42, BK995, HB⟩ := hrel
             have hl5_3 := (Kd.qH HO_5.out).1
             rw [hl5_3] at HO_5
             (try simp only [hl5_3])
             (try simp only [hl5_3] at BK995)
             (try simp only [hl5_3] at HO_6)
             (try simp only [hl5_3] at HO_42)
             cases gk with
             | zero => exact absurd HA.out (by simp [qJ.l1])
             | succ k3 =>
              have H := HA.out
              clear HA
              simp only [qJ.l1] at H
              by_cases c35 : x44_3 < (t1005.length : Int)
              ·rw [if_pos c35] at H
               have c35b0 : decide (x44_3 < (t1005.length : Int)) = true := decide_eq_true c35
               clear c35
               by_cases c36 : 0 ≤ x44_3
               ·rw [if_pos c36] at H
                have c36b0 : decide (0 ≤ x44_3) = true := decide_eq_true c36
                clear c36
                by_cases c37 : x44_3 < (t1005.length : Int)
                ·rw [if_pos c37] at H
                 have c37b0 : decide (x44_3 < (t1005.length : Int)) = true := decide_eq_true c37
                 clear c37
                 by_cases c38 : 0 ≤ ((qc t1005 x44_3).f2)
                 ·rw [if_pos c38] at H
                  have c38b0 : decide (0 ≤ ((qc t1005 x44_3).f2)) = true := decide_eq_true c38
                  clear c38
                  by_cases c39 : ((qc t1005 x44_3).f2) < (x5_3.length : Int)
                  ·rw [if_pos c39] at H
                   have c39b0 : decide (((qc t1005 x44_3).f2) < (x5_3.length : Int)) = true := decide_eq_true c39
                   clear c39
                   obtain ⟨bq40, hbq40⟩ : ∃ b_ : Bool, b_ = (rdOf false x5_3 ((qc t1005 x44_3).f2)) := ⟨_, rfl⟩
                   replace H : (if (bq40 = true) then (qJ.l1 k3 x5_3 x6_3 t1005 (t1005.length : Int) (wrap64 (x44_3 + 1)) a0_0 l0_1 l0_2) else (if x6_3.length < 17592186044416 then (qJ.l1 k3 (x5_3.set (((qc t1005 x44_3).f2) : Int).toNat true) (x6_3 ++ [(qc t1005 x44_3).f2]) t1005 (t1005.length : Int) (wrap64 (x44_3 + 1)) a0_0 l0_1 l0_2) else (none))) = some r := by rw [← hbq40] at H; exact H
                   have Nbq40 := qa.mk hbq40
                   clear hbq40
                   by_cases c41 : (bq40 = true)
                   ·subst c41
                    have H1 : (qJ.l1 k3 x5_3 x6_3 t1005 (t1005.length : Int) (wrap64 (x44_3 + 1)) a0_0 l0_1 l0_2) = some r := by rw [if_pos rfl] at H; exact H
                    clear H
                    have H := H1
                    clear H1
                    have H' := qa.mk H
                    clear H
                    have p1008 : 0 ≤ (x44_3 : Int) := of_decide_eq_true (by first | (with_reducible assumption) | assumption)
                    have q1008 : x44_3 < (t1005.length : Int) := of_decide_eq_true (by first | (with_reducible assumption) | assumption)
                    obtain ⟨ad1008, e1008, hx1008_0, hx1008_1, hx1008_2⟩ := vU (Kd.vX HO_42.out).2.2 x44_3 p1008 q1008
                    cases e1008
                    replace p1008 := eq_true p1008
                    replace q1008 := eq_true q1008
                    go_wp2_with (first | ((with_reducible refine qY (N := 8) rfl ?_); refine qZ ?hg (N := 8) ?hd (cs := #[.int .i64 0, .int .i64 0, .int .i64 0]) (t := 55) ?hr ?_; (case hd => rfl); (case hg => rfl); (case hr => first | (go_simp; done) | (go_simp; rfl)); intro gb1009 hg w42 hbox hb; have n0_ := qa.mk (Kd.qL (by (with_reducible repeat (first | apply Kd.R_alloc | apply Kd.qo | apply Kd.qz)); exact HO_5.out) hb); have n1_ := qa.mk (Kd.kD (by (with_reducible repeat (first | apply Kd.Q_alloc | apply Kd.Q_drewN | apply Kd.wQ)); exact HO_6.out) hb); have n2_ := qa.mk (Kd.zf (Kd.jh (by (with_reducible repeat (first | apply Kd.V_alloc | apply Kd.V_drewN | apply Kd.vg)); exact HO_42.out) gb1009 (Nat.le_of_eq hg.symm)) hb); have n3_ := qa.mk (qB (g := gb995) (o := .cells #[.int .i64 a0_0, .slice A0_1 l0_1.length c0_1, .slice A0_2 l0_2.length c0_2] 25 (0, 0)) (by (with_reducible repeat (first | refine qi ?_ _ | refine ql ?_ | refine qh ?_ _)); exact BK995.out) hb); have n4_ := qa.mk (qD (by repeat (first | (with_reducible first | exact HB.out | apply qg | apply qb | apply qf | refine qd ?_ GE995.out) | exact HB.out)) hb); have n5_ := qa.mk (hbox); have n6_ := qa.mk ((by rw [hg]; exact (qA (by repeat (first | (with_reducible first | exact HB.out | apply qg | apply qb | apply qf | refine qd ?_ GE995.out) | exact HB.out))) : w.heap.size ≤ gb1009)); have n7_ := qa.mk ((by rw [hg]; exact (qA (by repeat (first | (with_reducible first | exact HB.out | apply qg | apply qb | apply qf | refine qd ?_ GE995.out) | exact HB.out))) : w.heap.size ≤ gb1009)); have n8_ := qa.mk ((by rw [hg]; exact Nat.ne_of_lt (vz (g := gb995) (o := .cells #[.int .i64 a0_0, .slice A0_1 l0_1.length c0_1, .slice A0_2 l0_2.length c0_2] 25 (0, 0)) (by (with_reducible repeat (first | refine qi ?_ _ | refine ql ?_ | refine qh ?_ _)); exact BK995.out)) : gb995 ≠ gb1009)); have n9_ := qa.mk ((by rw [hg]; exact Nat.ne_of_gt (vz (g := gb995) (o := .cells #[.int .i64 a0_0, .slice A0_1 l0_1.length c0_1, .slice A0_2 l0_2.length c0_2] 25 (0, 0)) (by (with_reducible repeat (first | refine qi ?_ _ | refine ql ?_ | refine qh ?_ _)); exact BK995.out)) : gb1009 ≠ gb995)); clear HO_5; clear HO_6; clear HO_42; clear BK995; clear HB; have HO_5 := n0_; have HO_6 := n1_; have HO_42 := n2_; have BK995 := n3_; have HB := n4_; have BK1009 := n5_; have GW1009 := n6_; have GE1009 := n7_; have NB995_1009 := n8_; have NB1009_995 := n9_; clear n0_ n1_ n2_ n3_ n4_ n5_ n6_ n7_ n8_ n9_; clear hb hbox hg; have hnb43 := NB1009_995.out; have hnc43 := NB995_1009.out; have hcz44_0 : w42.cell? ⟨gb1009, 0, none⟩ = some (.int .i64 0) := (qj BK1009.out 0).trans rfl; have hcz44_1 : w42.cell? ⟨gb1009, 1, none⟩ = some (.int .i64 0) := (qj BK1009.out 1).trans rfl; have hcz44_2 : w42.cell? ⟨gb1009, 2, none⟩ = some (.int .i64 0) := (qj BK1009.out 2).trans rfl; have hfz44_0 := qm BK1009.out 0; have hfz44_1 := qm BK1009.out 1; have hfz44_2 := qm BK1009.out 2; have p1010 : 0 ≤ (((qc t1005 x44_3).f2) : Int) := of_decide_eq_true (by first | (with_reducible assumption) | assumption); have q1010 : ((qc t1005 x44_3).f2) < (x5_3.length : Int) := of_decide_eq_true (by first | (with_reducible assumption) | assumption); obtain ⟨ad1010, e1010, hx1010_0⟩ := Kd.kH (Kd.qH HO_5.out).2.2 ((qc t1005 x44_3).f2) p1010 q1010; (try rw [← Nbq40.out] at hx1010_0); obtain rfl : (⟨go20, 0, none⟩ : Addr) = ad1010 := (by injection e1010); (first | simp only [add_plain] at hx1010_0 | simp only [jX] at hx1010_0 | simp only [Addr.add, Nat.zero_add] at hx1010_0 | skip); have hn1010_0 : (⟨go20, 0, none⟩ : Addr).block ≠ gb1009 := Kd.jy (Kd.R_ne HO_5.out BK1009.out (by decide)); have hn1010_1 : (⟨go20, 0, none⟩ : Addr).block ≠ gb1009 := Kd.jy (Kd.R_ne HO_5.out BK1009.out (by decide)); have hn1010_2 : (⟨go20, 0, none⟩ : Addr).block ≠ gb1009 := Kd.jy (Kd.R_ne HO_5.out BK1009.out (by decide)); replace hx1010_0 := (cell_far (p := ⟨gb1009, 0, none⟩) (by first | (rw [add_block]; exact hn1010_0) | (show (Addr.add _ _).block ≠ _; rw [add_block]; exact hn1010_0) | exact hn1010_0) (.int .i64 ((qc t1005 x44_3).f0))).trans hx1010_0; replace hx1010_0 := (cell_far (p := ⟨gb1009, 1, none⟩) (by first | (rw [add_block]; exact hn1010_1) | (show (Addr.add _ _).block ≠ _; rw [add_block]; exact hn1010_1) | exact hn1010_1) (.int .i64 ((qc t1005 x44_3).f1))).trans hx1010_0; replace hx1010_0 := (cell_far (p := ⟨gb1009, 2, none⟩) (by first | (rw [add_block]; exact hn1010_2) | (show (Addr.add _ _).block ≠ _; rw [add_block]; exact hn1010_2) | exact hn1010_2) (.int .i64 ((qc t1005 x44_3).f2))).trans hx1010_0; clear hn1010_0; clear hn1010_1; clear hn1010_2; replace p1010 := eq_true p1010; replace q1010 := eq_true q1010))
                    (try simp only [← hl5_3])
                    go_roundg k3
                    case measure => have := HJ2.out; have := HK2.out; have := HK3.out; omega
                    case rel => exact ⟨(x5_3), (x6_3), (wrap64 (x44_3 + 1)), (by first | rfl | (simp; done) | (simp [*]; done)), H', ⟨by have := HJ2.out; have := HK2.out; have := HK3.out; omega⟩, ⟨by (try simp only [hl5_2]); (try simp only [hl5_3]); (with_reducible repeat (first | apply Kd.R_alloc | apply Kd.qo | apply Kd.qz)); exact Kd.qW (Kd.vT (p := ⟨gb1009, 2, none⟩) (Kd.vT (p := ⟨gb1009, 1, none⟩) (Kd.vT (p := ⟨gb1009, 0, none⟩) (Kd.zD HO_5.out BK1009.out (by decide)) (fun _ hk => hk.2) (.int .i64 ((qc t1005 x44_3).f0))) (fun _ hk => hk.2) (.int .i64 ((qc t1005 x44_3).f1))) (fun _ hk => hk.2) (.int .i64 ((qc t1005 x44_3).f2))) (fun _ hk => trivial)⟩, ⟨by (try simp only [hl5_2]); (try simp only [hl5_3]); (with_reducible repeat (first | apply Kd.Q_alloc | apply Kd.Q_drewN | apply Kd.wQ)); exact Kd.kJ (Kd.yV (p := ⟨gb1009, 2, none⟩) (Kd.yV (p := ⟨gb1009, 1, none⟩) (Kd.yV (p := ⟨gb1009, 0, none⟩) (Kd.QE HO_6.out BK1009.out (by decide)) (fun _ hk => hk.2) (.int .i64 ((qc t1005 x44_3).f0))) (fun _ hk => hk.2) (.int .i64 ((qc t1005 x44_3).f1))) (fun _ hk => hk.2) (.int .i64 ((qc t1005 x44_3).f2))) (fun _ hk => trivial)⟩, ⟨by (try simp only [hl5_2]); (try simp only [hl5_3]); (with_reducible repeat (first | apply Kd.V_alloc | apply Kd.V_drewN | apply Kd.vg)); exact Kd.zg (Kd.jA (p := ⟨gb1009, 2, none⟩) (Kd.jA (p := ⟨gb1009, 1, none⟩) (Kd.jA (p := ⟨gb1009, 0, none⟩) (Kd.zg HO_42.out (fun k_ hk => (⟨hk, hk.2⟩ : _ ∧ k_ ≠ gb1009))) (fun _ hk => hk.2) (.int .i64 ((qc t1005 x44_3).f0))) (fun _ hk => hk.2) (.int .i64 ((qc t1005 x44_3).f1))) (fun _ hk => hk.2) (.int .i64 ((qc t1005 x44_3).f2))) (fun _ hk => ⟨hk.1.1.1, ⟨hk.1.1.2.1, hk.1.1.2.2⟩⟩)⟩, ⟨by (try simp only [hl5_2]); (try simp only [hl5_3]); (with_reducible repeat (first | refine qi ?_ _ | refine ql ?_ | refine qh ?_ _)); refine vG ?_ NB995_1009.out _; (with_reducible repeat (first | refine qi ?_ _ | refine ql ?_ | refine qh ?_ _)); refine vG ?_ NB995_1009.out _; (with_reducible repeat (first | refine qi ?_ _ | refine ql ?_ | refine qh ?_ _)); refine vG ?_ NB995_1009.out _; (with_reducible repeat (first | refine qi ?_ _ | refine ql ?_ | refine qh ?_ _)); exact BK995.out⟩, ⟨by repeat (first | (with_reducible first | exact HB.out | apply qg | apply qb | apply qf | refine qd ?_ GE995.out | refine qd ?_ GE1009.out) | exact HB.out)⟩⟩
                   ·replace c41 := Bool.eq_false_iff.mpr c41
                    subst c41
                    have H1 : (if x6_3.length < 17592186044416 then (qJ.l1 k3 (x5_3.set (((qc t1005 x44_3).f2) : Int).toNat true) (x6_3 ++ [(qc t1005 x44_3).f2]) t1005 (t1005.length : Int) (wrap64 (x44_3 + 1)) a0_0 l0_1 l0_2) else (none)) = some r := by rw [if_neg (show ¬ (false = true) by decide)] at H; exact H
                    clear H
                    have H := H1
                    clear H1
                    obtain ⟨y1011, hy1011⟩ : ∃ y_ : List Bool, y_ = (x5_3.set (((qc t1005 x44_3).f2) : Int).toNat true) := ⟨_, rfl⟩
                    replace H : (if x6_3.length < 17592186044416 then (qJ.l1 k3 y1011 (x6_3 ++ [(qc t1005 x44_3).f2]) t1005 (t1005.length : Int) (wrap64 (x44_3 + 1)) a0_0 l0_1 l0_2) else (none)) = some r := by first | (rw [hy1011]; with_reducible exact H) | (have H2_ := (Option.bind_some _ _).symm.trans H; rw [hy1011]; with_reducible exact H2_) | (have H2_ := (Option.bind_some _ _).symm.trans H; with_reducible exact H2_) | with_reducible exact H | (rw [hy1011]; exact H) | exact H
                    have Ny1011 := qa.mk hy1011
                    clear hy1011
                    by_cases c46 : x6_3.length < 17592186044416
                    ·rw [if_pos c46] at H
                     have LMc46 := qa.mk c46
                     clear c46
                     obtain ⟨y1012, hy1012⟩ : ∃ y_ : List Int, y_ = (x6_3 ++ [(qc t1005 x44_3).f2]) := ⟨_, rfl⟩
                     replace H : (qJ.l1 k3 y1011 y1012 t1005 (t1005.length : Int) (wrap64 (x44_3 + 1)) a0_0 l0_1 l0_2) = some r := by first | (rw [hy1012]; with_reducible exact H) | (have H2_ := (Option.bind_some _ _).symm.trans H; rw [hy1012]; with_reducible exact H2_) | (have H2_ := (Option.bind_some _ _).symm.trans H; with_reducible exact H2_) | with_reducible exact H | (rw [hy1012]; exact H) | exact H
                     have Ny1012 := qa.mk hy1012
                     clear hy1012
                     have H' := qa.mk H
                     clear H
                     have p1008 : 0 ≤ (x44_3 : Int) := of_decide_eq_true (by first | (with_reducible assumption) | assumption)
                     have q1008 : x44_3 < (t1005.length : Int) := of_decide_eq_true (by first | (with_reducible assumption) | assumption)
                     obtain ⟨ad1008, e1008, hx1008_0, hx1008_1, hx1008_2⟩ := vU (Kd.vX HO_42.out).2.2 x44_3 p1008 q1008
                     cases e1008
                     replace p1008 := eq_true p1008
                     replace q1008 := eq_true q1008
                     go_wp2_with (first | ((with_reducible refine qY (N := 8) rfl ?_); refine qZ ?hg (N := 8) ?hd (cs := #[.int .i64 0, .int .i64 0, .int .i64 0]) (t := 55) ?hr ?_; (case hd => rfl); (case hg => rfl); (case hr => first | (go_simp; done) | (go_simp; rfl)); intro gb1009 hg w47 hbox hb; have n0_ := qa.mk (Kd.qL (by (with_reducible repeat (first | apply Kd.R_alloc | apply Kd.qo | apply Kd.qz)); exact HO_5.out) hb); have n1_ := qa.mk (Kd.kD (by (with_reducible repeat (first | apply Kd.Q_alloc | apply Kd.Q_drewN | apply Kd.wQ)); exact HO_6.out) hb); have n2_ := qa.mk (Kd.zf (Kd.jh (by (with_reducible repeat (first | apply Kd.V_alloc | apply Kd.V_drewN | apply Kd.vg)); exact HO_42.out) gb1009 (Nat.le_of_eq hg.symm)) hb); have n3_ := qa.mk (qB (g := gb995) (o := .cells #[.int .i64 a0_0, .slice A0_1 l0_1.length c0_1, .slice A0_2 l0_2.length c0_2] 25 (0, 0)) (by (with_reducible repeat (first | refine qi ?_ _ | refine ql ?_ | refine qh ?_ _)); exact BK995.out) hb); have n4_ := qa.mk (qD (by repeat (first | (with_reducible first | exact HB.out | apply qg | apply qb | apply qf | refine qd ?_ GE995.out) | exact HB.out)) hb); have n5_ := qa.mk (hbox); have n6_ := qa.mk ((by rw [hg]; exact (qA (by repeat (first | (with_reducible first | exact HB.out | apply qg | apply qb | apply qf | refine qd ?_ GE995.out) | exact HB.out))) : w.heap.size ≤ gb1009)); have n7_ := qa.mk ((by rw [hg]; exact (qA (by repeat (first | (with_reducible first | exact HB.out | apply qg | apply qb | apply qf | refine qd ?_ GE995.out) | exact HB.out))) : w.heap.size ≤ gb1009)); have n8_ := qa.mk ((by rw [hg]; exact Nat.ne_of_lt (vz (g := gb995) (o := .cells #[.int .i64 a0_0, .slice A0_1 l0_1.length c0_1, .slice A0_2 l0_2.length c0_2] 25 (0, 0)) (by (with_reducible repeat (first | refine qi ?_ _ | refine ql ?_ | refine qh ?_ _)); exact BK995.out)) : gb995 ≠ gb1009)); have n9_ := qa.mk ((by rw [hg]; exact Nat.ne_of_gt (vz (g := gb995) (o := .cells #[.int .i64 a0_0, .slice A0_1 l0_1.length c0_1, .slice A0_2 l0_2.length c0_2] 25 (0, 0)) (by (with_reducible repeat (first | refine qi ?_ _ | refine ql ?_ | refine qh ?_ _)); exact BK995.out)) : gb1009 ≠ gb995)); clear HO_5; clear HO_6; clear HO_42; clear BK995; clear HB; have HO_5 := n0_; have HO_6 := n1_; have HO_42 := n2_; have BK995 := n3_; have HB := n4_; have BK1009 := n5_; have GW1009 := n6_; have GE1009 := n7_; have NB995_1009 := n8_; have NB1009_995 := n9_; clear n0_ n1_ n2_ n3_ n4_ n5_ n6_ n7_ n8_ n9_; clear hb hbox hg; have hnb48 := NB1009_995.out; have hnc48 := NB995_1009.out; have hcz49_0 : w47.cell? ⟨gb1009, 0, none⟩ = some (.int .i64 0) := (qj BK1009.out 0).trans rfl; have hcz49_1 : w47.cell? ⟨gb1009, 1, none⟩ = some (.int .i64 0) := (qj BK1009.out 1).trans rfl; have hcz49_2 : w47.cell? ⟨gb1009, 2, none⟩ = some (.int .i64 0) := (qj BK1009.out 2).trans rfl; have hfz49_0 := qm BK1009.out 0; have hfz49_1 := qm BK1009.out 1; have hfz49_2 := qm BK1009.out 2) | ((with_reducible refine jm (t := 55) (p := 8) rfl ?_); refine wT (t := 55) (p := 8) (v := ?vo_w50) (w1 := (((w47.setCell ⟨gb1009, 0, none⟩ (.int .i64 ((qc t1005 x44_3).f0))).setCell ⟨gb1009, 1, none⟩ (.int .i64 ((qc t1005 x44_3).f1))).setCell ⟨gb1009, 2, none⟩ (.int .i64 ((qc t1005 x44_3).f2)))) ?hg ?ho ?hn ?hr ?_; (case ho => rfl); (case hg => rfl); (case hn => rfl); (case hr => first | (go_simp; done) | (go_simp; rfl)); intro w50 hw; have n0_ : qa (Kd.R Kd.bool 4 w50 w.heap.size (fun _ => True) (.slice (some ⟨go20, 0, none⟩) x5_3.length co20) x5_3) := ⟨(by rw [hw]; exact (by (with_reducible repeat (first | apply Kd.R_alloc | apply Kd.qo | apply Kd.qz)); exact Kd.qW (Kd.vT (p := ⟨gb1009, 2, none⟩) (Kd.vT (p := ⟨gb1009, 1, none⟩) (Kd.vT (p := ⟨gb1009, 0, none⟩) (Kd.zD HO_5.out BK1009.out (by decide)) (fun _ hk => hk.2) (.int .i64 ((qc t1005 x44_3).f0))) (fun _ hk => hk.2) (.int .i64 ((qc t1005 x44_3).f1))) (fun _ hk => hk.2) (.int .i64 ((qc t1005 x44_3).f2))) (fun _ hk => trivial)))⟩; have n1_ : qa (Kd.Q (Kd.int .i64) 3 w50 w.heap.size (fun _ => True) u6 x6_3) := ⟨(by rw [hw]; exact (by (with_reducible repeat (first | apply Kd.Q_alloc | apply Kd.Q_drewN | apply Kd.wQ)); exact Kd.kJ (Kd.yV (p := ⟨gb1009, 2, none⟩) (Kd.yV (p := ⟨gb1009, 1, none⟩) (Kd.yV (p := ⟨gb1009, 0, none⟩) (Kd.QE HO_6.out BK1009.out (by decide)) (fun _ hk => hk.2) (.int .i64 ((qc t1005 x44_3).f0))) (fun _ hk => hk.2) (.int .i64 ((qc t1005 x44_3).f1))) (fun _ hk => hk.2) (.int .i64 ((qc t1005 x44_3).f2))) (fun _ hk => trivial)))⟩; have n2_ : qa (Kd.V k55 55 w50 w.heap.size (fun k_ => some k_ ≠ (.slice (some ⟨go20, 0, none⟩) x5_3.length co20 : Value).ownBlock ∧ some k_ ≠ (u6 : Value).ownBlock ∧ k_ ≠ gb995 ∧ k_ ≠ gb1009) (.slice (some ad1008) t1005.length co34) t1005) := ⟨(by rw [hw]; exact (by (with_reducible repeat (first | apply Kd.V_alloc | apply Kd.V_drewN | apply Kd.vg)); exact Kd.zg (Kd.jA (p := ⟨gb1009, 2, none⟩) (Kd.jA (p := ⟨gb1009, 1, none⟩) (Kd.jA (p := ⟨gb1009, 0, none⟩) (Kd.zg HO_42.out (fun k_ hk => (⟨hk, hk.2⟩ : _ ∧ k_ ≠ gb1009))) (fun _ hk => hk.2) (.int .i64 ((qc t1005 x44_3).f0))) (fun _ hk => hk.2) (.int .i64 ((qc t1005 x44_3).f1))) (fun _ hk => hk.2) (.int .i64 ((qc t1005 x44_3).f2))) (fun _ hk => ⟨hk.1.1.1, ⟨hk.1.1.2.1, ⟨hk.1.1.2.2, hk.1.2⟩⟩⟩)))⟩; have n3_ : qa (w50.heap[gb995]? = some (.cells #[.int .i64 a0_0, .slice A0_1 l0_1.length c0_1, .slice A0_2 l0_2.length c0_2] 25 (0, 0))) := ⟨(by rw [hw]; exact (by (with_reducible repeat (first | refine qi ?_ _ | refine ql ?_ | refine qh ?_ _)); refine vG ?_ NB995_1009.out _; (with_reducible repeat (first | refine qi ?_ _ | refine ql ?_ | refine qh ?_ _)); refine vG ?_ NB995_1009.out _; (with_reducible repeat (first | refine qi ?_ _ | refine ql ?_ | refine qh ?_ _)); refine vG ?_ NB995_1009.out _; (with_reducible repeat (first | refine qi ?_ _ | refine ql ?_ | refine qh ?_ _)); exact BK995.out))⟩; have n4_ : qa (w50.heap[gb1009]? = some (.cells #[.int .i64 ((qc t1005 x44_3).f0), .int .i64 ((qc t1005 x44_3).f1), .int .i64 ((qc t1005 x44_3).f2)] 55 (0, 0))) := ⟨(by rw [hw]; exact (by (with_reducible repeat (first | refine qi ?_ _ | refine ql ?_ | refine qh ?_ _)); refine zq (cs := #[.int .i64 ((qc t1005 x44_3).f0), .int .i64 ((qc t1005 x44_3).f1), .int .i64 0]) ?_ 2 _ rfl; (with_reducible repeat (first | refine qi ?_ _ | refine ql ?_ | refine qh ?_ _)); refine zq (cs := #[.int .i64 ((qc t1005 x44_3).f0), .int .i64 0, .int .i64 0]) ?_ 1 _ rfl; (with_reducible repeat (first | refine qi ?_ _ | refine ql ?_ | refine qh ?_ _)); refine zq (cs := #[.int .i64 0, .int .i64 0, .int .i64 0]) ?_ 0 _ rfl; (with_reducible repeat (first | refine qi ?_ _ | refine ql ?_ | refine qh ?_ _)); exact BK1009.out))⟩; have n5_ : qa (Below w.heap.size w w50) := ⟨(by rw [hw]; exact (by repeat (first | (with_reducible first | exact HB.out | apply qg | apply qb | apply qf | refine qd ?_ GE995.out | refine qd ?_ GE1009.out) | exact HB.out)))⟩; clear hw; clear HO_5; clear HO_6; clear HO_42; clear BK995; clear BK1009; clear HB; have HO_5 := n0_; have HO_6 := n1_; have HO_42 := n2_; have BK995 := n3_; have BK1009 := n4_; have HB := n5_; clear n0_ n1_ n2_ n3_ n4_ n5_; have hcz51_0 : w50.cell? ⟨gb1009, 0, none⟩ = some (.int .i64 ((qc t1005 x44_3).f0)) := (qj BK1009.out 0).trans rfl; have hcz51_1 : w50.cell? ⟨gb1009, 1, none⟩ = some (.int .i64 ((qc t1005 x44_3).f1)) := (qj BK1009.out 1).trans rfl; have hcz51_2 : w50.cell? ⟨gb1009, 2, none⟩ = some (.int .i64 ((qc t1005 x44_3).f2)) := (qj BK1009.out 2).trans rfl; have hfz51_0 := qm BK1009.out 0; have hfz51_1 := qm BK1009.out 1; have hfz51_2 := qm BK1009.out 2; have p1010 : 0 ≤ (((qc t1005 x44_3).f2) : Int) := of_decide_eq_true (by first | (with_reducible assumption) | assumption); have q1010 : ((qc t1005 x44_3).f2) < (x5_3.length : Int) := of_decide_eq_true (by first | (with_reducible assumption) | assumption); obtain ⟨ad1010, e1010, hx1010_0⟩ := Kd.kH (Kd.qH HO_5.out).2.2 ((qc t1005 x44_3).f2) p1010 q1010; (try rw [← Nbq40.out] at hx1010_0); obtain rfl : (⟨go20, 0, none⟩ : Addr) = ad1010 := (by injection e1010); (first | simp only [add_plain] at hx1010_0 | simp only [jX] at hx1010_0 | simp only [Addr.add, Nat.zero_add] at hx1010_0 | skip); replace p1010 := eq_true p1010; replace q1010 := eq_true q1010; have p45 : 0 ≤ (((qc t1005 x44_3).f2) : Int) := of_decide_eq_true (by first | (with_reducible assumption) | assumption); have q45 : (((qc t1005 x44_3).f2) : Int) < ((x5_3.length : Int) : Int) := of_decide_eq_true (by first | (with_reducible assumption) | assumption); obtain ⟨hx45_0, hf45_0⟩ := Kd.ku false HO_5.out (((qc t1005 x44_3).f2) : Int) p45 q45; replace p45 := eq_true p45; replace q45 := eq_true q45; obtain ⟨hy52_, hz52_⟩ := Kd.ku false HO_5.out (((qc t1005 x44_3).f2) : Int) (of_decide_eq_true (by first | (with_reducible assumption) | assumption)) (of_decide_eq_true (by first | (with_reducible assumption) | assumption)); have HP52 := Kd.R_putg HO_5.out (((qc t1005 x44_3).f2) : Int) true) | ((with_reducible refine jm (t := 4) (p := 57) rfl ?_); refine wT (t := 4) (p := 57) (v := ?vo_w53) (w1 := (w50.setCell ⟨go20, (((qc t1005 x44_3).f2) : Int).toNat, none⟩ (.bool true))) ?hg ?ho ?hn ?hr ?_; (case ho => rfl); (case hg => rfl); (case hn => rfl); (case hr => first | (go_simp; done) | (go_simp; rfl)); intro w53 hw; have hg : w50.grownBy w53 (some go20) := (by rw [hw]; exact HP52.2); have hp_ : Kd.R Kd.bool 4 w53 w.heap.size (fun _ => True) (.slice (some ⟨go20, 0, none⟩) x5_3.length co20) y1011 := (by rw [hw, Ny1011.out]; exact HP52.1); clear HP52; have n0_ := qa.mk (hp_); have n1_ := qa.mk (Kd.Q_over' (v := (.slice (some ⟨go20, 0, none⟩) x5_3.length co20)) (by (with_reducible repeat (first | apply Kd.Q_alloc | apply Kd.Q_drewN | apply Kd.wQ)); exact HO_6.out) (Kd.yh HO_5.out) (by decide) hg); have n2_ := qa.mk (Kd.zJ (v := (.slice (some ⟨go20, 0, none⟩) x5_3.length co20)) (v1 := (.slice (some ⟨go20, 0, none⟩) x5_3.length co20)) (ok := (fun k_ => some k_ ≠ (u6 : Value).ownBlock ∧ k_ ≠ gb995 ∧ k_ ≠ gb1009)) (by (with_reducible repeat (first | apply Kd.V_alloc | apply Kd.V_drewN | apply Kd.vg)); exact Kd.zg HO_42.out (fun _ hk => ⟨⟨hk.2.1, ⟨hk.2.2.1, hk.2.2.2⟩⟩, hk.1⟩)) hg (.inl rfl)); have n3_ := qa.mk (q9 (g := gb995) (o := .cells #[.int .i64 a0_0, .slice A0_1 l0_1.length c0_1, .slice A0_2 l0_2.length c0_2] 25 (0, 0)) (by (with_reducible repeat (first | refine qi ?_ _ | refine ql ?_ | refine qh ?_ _)); exact BK995.out) hg (Kd.R_ne HO_5.out BK995.out (by decide))); have n4_ := qa.mk (q9 (g := gb1009) (o := .cells #[.int .i64 ((qc t1005 x44_3).f0), .int .i64 ((qc t1005 x44_3).f1), .int .i64 ((qc t1005 x44_3).f2)] 55 (0, 0)) (by (with_reducible repeat (first | refine qi ?_ _ | refine ql ?_ | refine qh ?_ _)); exact BK1009.out) hg (Kd.R_ne HO_5.out BK1009.out (by decide))); have n5_ := qa.mk ((by rw [hw]; exact qd (HB.out) GB20.out : Below w.heap.size w w53)); clear HO_5; clear HO_6; clear HO_42; clear BK995; clear BK1009; clear HB; have HO_5 := n0_; have HO_6 := n1_; have HO_42 := n2_; have BK995 := n3_; have BK1009 := n4_; have HB := n5_; clear n0_ n1_ n2_ n3_ n4_ n5_; clear hg hw hp_; have hcz54_0 : w53.cell? ⟨gb1009, 0, none⟩ = some (.int .i64 ((qc t1005 x44_3).f0)) := (qj BK1009.out 0).trans rfl; have hcz54_1 : w53.cell? ⟨gb1009, 1, none⟩ = some (.int .i64 ((qc t1005 x44_3).f1)) := (qj BK1009.out 1).trans rfl; have hcz54_2 : w53.cell? ⟨gb1009, 2, none⟩ = some (.int .i64 ((qc t1005 x44_3).f2)) := (qj BK1009.out 2).trans rfl; have hfz54_0 := qm BK1009.out 0; have hfz54_1 := qm BK1009.out 1; have hfz54_2 := qm BK1009.out 2) | ((with_reducible refine zz (b := .append) (xs := #[.tmp 58, .tmp 61]) rfl ?_); at_builtin; refine Kd.Q_append (Kd.int .i64) (w0 := w) w.heap.size rfl (.tmp 58) (.tmp 61) 28 3 (.int .i64 0) 8 rfl Try.underlying28 info3 rfl (by decide) (by omega) u6 x6_3 ((qc t1005 x44_3).f2) [.int .i64 ((qc t1005 x44_3).f2)] (fun _ => True) (fun _ => False) rfl rfl ?aP (fun _ hk => hk.elim) ?aF ?aO ?aB ?aS ?aL ?_; (case aP => exact rfl); (case aB => exact (by repeat (first | (with_reducible first | exact HB.out | apply qg | apply qb | apply qf | refine qd ?_ GE995.out | refine qd ?_ GE1009.out) | exact HB.out))); (case aF => exact (fun _ _ => trivial)); (case aO => exact (by (with_reducible repeat (first | apply Kd.Q_alloc | apply Kd.Q_drewN | apply Kd.wQ)); exact HO_6.out)); (case aS => exact (qA (by repeat (first | (with_reducible first | exact HB.out | apply qg | apply qb | apply qf | refine qd ?_ GE995.out | refine qd ?_ GE1009.out) | exact HB.out)))); (case aL => have := LMc46.out; omega); intro v1013 w55 ho hb hg hat; rw [← Ny1012.out] at ho; have n0_ := qa.mk (Kd.yo (by (with_reducible repeat (first | apply Kd.R_alloc | apply Kd.qo | apply Kd.qz)); exact HO_5.out) (Kd.Q_typed (by (with_reducible repeat (first | apply Kd.Q_alloc | apply Kd.Q_drewN | apply Kd.wQ)); exact HO_6.out)) (by decide) hg); have n1_ := qa.mk (Kd.zJ (ok := (fun k_ => some k_ ≠ (.slice (some ⟨go20, 0, none⟩) x5_3.length co20 : Value).ownBlock ∧ k_ ≠ gb995 ∧ k_ ≠ gb1009)) (by (with_reducible repeat (first | apply Kd.V_alloc | apply Kd.V_drewN | apply Kd.vg)); exact Kd.zg HO_42.out (fun _ hk => ⟨⟨hk.2, ⟨hk.1.2.1, hk.1.2.2⟩⟩, hk.1.1⟩)) hg hat); have n2_ := qa.mk (q9 (g := gb995) (o := .cells #[.int .i64 a0_0, .slice A0_1 l0_1.length c0_1, .slice A0_2 l0_2.length c0_2] 25 (0, 0)) (by (with_reducible repeat (first | refine qi ?_ _ | refine ql ?_ | refine qh ?_ _)); exact BK995.out) hg (Kd.Q_ne HO_6.out BK995.out (by decide))); have n3_ := qa.mk (q9 (g := gb1009) (o := .cells #[.int .i64 ((qc t1005 x44_3).f0), .int .i64 ((qc t1005 x44_3).f1), .int .i64 ((qc t1005 x44_3).f2)] 55 (0, 0)) (by (with_reducible repeat (first | refine qi ?_ _ | refine ql ?_ | refine qh ?_ _)); exact BK1009.out) hg (Kd.Q_ne HO_6.out BK1009.out (by decide))); have n4_ := qa.mk (hb); have n5_ := qa.mk (ho); clear HO_5; clear HO_42; clear BK995; clear BK1009; clear HB; clear HO_6; have HO_5 := n0_; have HO_42 := n1_; have BK995 := n2_; have BK1009 := n3_; have HB := n4_; have HO1014 := n5_; clear n0_ n1_ n2_ n3_ n4_ n5_; clear ho hb hg hat))
                     (try simp only [← hl5_3])
                     go_roundg k3
                     case measure => have := HJ2.out; have := HK2.out; have := HK3.out; omega
                     case rel => exact ⟨(y1011), (y1012), (wrap64 (x44_3 + 1)), (by first | rfl | (simp; done) | (simp [*]; done)), H', ⟨by have := HJ2.out; have := HK2.out; have := HK3.out; omega⟩, ⟨by (try simp only [hl5_2]); (try simp only [hl5_3]); (with_reducible repeat (first | apply Kd.R_alloc | apply Kd.qo | apply Kd.qz)); exact HO_5.out⟩, ⟨by (try simp only [hl5_2]); (try simp only [hl5_3]); (with_reducible repeat (first | apply Kd.Q_alloc | apply Kd.Q_drewN | apply Kd.wQ)); exact HO1014.out⟩, ⟨by (try simp only [hl5_2]); (try simp only [hl5_3]); (with_reducible repeat (first | apply Kd.V_alloc | apply Kd.V_drewN | apply Kd.vg)); exact Kd.zg HO_42.out (fun _ hk => ⟨hk.1.1, ⟨hk.2, hk.1.2.1⟩⟩)⟩, ⟨by (try simp only [hl5_2]); (try simp only [hl5_3]); (with_reducible repeat (first | refine qi ?_ _ | refine ql ?_ | refine qh ?_ _)); exact BK995.out⟩, ⟨by repeat (first | (with_reducible first | exact HB.out | apply qg | apply qb | apply qf | refine qd ?_ GE995.out | refine qd ?_ GE1009.out) | exact HB.out)⟩⟩
                    ·rw [if_neg c46] at H
                     exact absurd H (by simp)
                  ·rw [if_neg c39] at H
                   exact absurd H (by simp)
                 ·rw [if_neg c38] at H
                  exact absurd H (by simp)
                ·rw [if_neg c37] at H
                 exact absurd H (by simp)
               ·rw [if_neg c36] at H
                exact absurd H (by simp)
              ·rw [if_neg c35] at H
               have c35b0 : decide (x44_3 < (t1005.length : Int)) = false := decide_eq_false c35
               clear c35
               by_cases c56 : 1 ≤ (x6_3.length : Int)
               ·rw [if_pos c56] at H
                have c56b0 := eq_true c56
                have c56b1 : decide (1 ≤ (x6_3.length : Int)) = true := decide_eq_true c56
                clear c56
                obtain ⟨y1015, hy1015⟩ : ∃ y_ : List Int, y_ = (x6_3.drop (1 : Int).toNat) := ⟨_, rfl⟩
                replace H : (qJ.l0 k3 x5_3 y1015 a0_0 l0_1 l0_2) = some r := by first | (rw [hy1015]; with_reducible exact H) | (have H2_ := (Option.bind_some _ _).symm.trans H; rw [hy1015]; with_reducible exact H2_) | (have H2_ := (Option.bind_some _ _).symm.trans H; with_reducible exact H2_) | with_reducible exact H | (rw [hy1015]; exact H) | exact H
                have Ny1015 := qa.mk hy1015
                clear hy1015
                have H' := qa.mk H
                clear H
                obtain ⟨Ao57, co57, eo57, _⟩ := Kd.yc HO_6.out
                subst eo57
                have q58 : (1 : Int) ≤ ((x6_3.length : Int) : Int) := of_decide_eq_true (by first | (with_reducible assumption) | assumption)
                obtain ⟨i058, hi058, _, hsz58, _⟩ := info_parts info3
                have hcut58 := xZ (P := Try.prog) 28 3 .i64 Try.underlying28 hi058 1 hsz58 Ao57 x6_3.length co57 1 (by omega) q58
                have hr58 := Kd.Q_drop (k := (1 : Int).toNat) HO_6.out (by omega)
                obtain ⟨A58, hA58⟩ : ∃ A1, A1 = (if co57 = (1 : Int).toNat then Ao57 else (Ao57 : Option Addr).map (·.add ((1 : Int).toNat * 1))) := ⟨_, rfl⟩
                obtain ⟨c58, hc58⟩ : ∃ c1, c1 = co57 - (1 : Int).toNat := ⟨_, rfl⟩
                have hy58 : y1015.length = x6_3.length - (1 : Int).toNat := (by rw [Ny1015.out, List.length_drop])
                rw [← Ny1015.out] at hr58
                rw [← hy58, ← hA58, ← hc58] at hcut58
                replace hr58 : Kd.Q (Kd.int .i64) 3 wr w.heap.size (fun _ => True) (.slice A58 y1015.length c58) y1015 := (by rw [hA58, hc58, hy58]; exact hr58)
                have HE58 : qa ((Value.slice A58 y1015.length c58).ownBlock = (.slice Ao57 x6_3.length co57 : Value).ownBlock) := ⟨by rw [hA58]; split <;> (cases (Ao57 : Option Addr) <;> rfl)⟩
                clear hy58 hi058 hsz58 HO_6 hA58 hc58
                have HO1017 := qa.mk hr58
                clear hr58
                replace q58 := eq_true q58
                have n_ := qa.mk (Kd.zg (ok' := fun k_ => (some k_ ≠ (.slice (some ⟨go20, 0, none⟩) x5_3.length co20 : Value).ownBlock ∧ (some k_ ≠ (.slice A58 y1015.length c58 : Value).ownBlock ∧ k_ ≠ gb995))) HO_42.out (fun k_ hk => ⟨hk.1, ⟨(by rw [HE58.out]; exact hk.2.1), hk.2.2⟩⟩))
                clear HO_42
                have HO_42 := n_
                clear n_
                go_wp2
                (try simp only [← hl5_2, ← hl5_3])
                go_roundg k3
                case measure => have := HJ2.out; have := HK2.out; have := HK3.out; omega
                case rel => exact ⟨(x5_3), (y1015), H', ⟨by have := HJ2.out; have := HK2.out; have := HK3.out; omega⟩, ⟨by (try simp only [hl5_2]); (try simp only [hl5_3]); (with_reducible repeat (first | apply Kd.R_alloc | apply Kd.qo | apply Kd.qz)); exact HO_5.out⟩, ⟨by (try simp only [hl5_2]); (try simp only [hl5_3]); (with_reducible repeat (first | apply Kd.Q_alloc | apply Kd.Q_drewN | apply Kd.wQ)); exact HO1017.out⟩, ⟨by (try simp only [hl5_2]); (try simp only [hl5_3]); (with_reducible repeat (first | refine qi ?_ _ | refine ql ?_ | refine qh ?_ _)); exact BK995.out⟩, ⟨by repeat (first | (with_reducible first | exact HB.out | apply qg | apply qb | apply qf | refine qd ?_ GE995.out) | exact HB.out)⟩⟩
               ·rw [if_neg c56] at H
                exact absurd H (by simp)
           ·rw [if_neg c29] at H
            exact absurd H (by simp)
          ·rw [if_neg c28] at H
           have c28b0 : decide (0 < (x6_2.length : Int)) = false := decide_eq_false c28
           have c28b1 : decide (0 < x6_2.length) = false := decide_eq_false (by omega)
           clear c28
           have H' := qa.mk H
           clear H
           obtain ⟨Ao59, co59, eo59, _⟩ := Kd.yc HO_6.out
           subst eo59
           go_wp2
           go_loopg [9, 66] k2 (fun kq v9 v66 w' => ∃ (x9_3 : List Int) (x66_3 : Int), v66 = .int .i64 x66_3 ∧ qa (qJ.l2 kq x9_3 x5_2 (x5_2.length : Int) x66_3 = some r) ∧ qa (kq ≤ k2) ∧ qa (Kd.R (Kd.int .i64) 3 w' w.heap.size (fun _ => True) v9 x9_3) ∧ qa (Kd.R Kd.bool 4 w' w.heap.size (fun _ => True) (.slice (some ⟨go20, 0, none⟩) x5_2.length co20) x5_2) ∧ qa (w'.heap[gb995]? = some (.cells #[.int .i64 a0_0, (.slice A0_1 l0_1.length c0_1), (.slice A0_2 l0_2.length c0_2)] 25 (0, 0))) ∧ qa (Below w.heap.size w w'))
           case atStart => exact ⟨(([] : List Int)), (0), (by first | rfl | (simp; done) | (simp [*]; done)), H', ⟨Nat.le_refl _⟩, ⟨by (try simp only [hl5_2]); first | exact Kd.jO _ _ _ _ _ | exact Kd.N_nil _ _ _ _ _ | exact Kd.V_nil _ _ _ _ _ | exact Kd.Q_nil _ _ _ _ _ | exact Kd.S_nil _ _ _ _ _⟩, ⟨by (try simp only [hl5_2]); (with_reducible repeat (first | apply Kd.R_alloc | apply Kd.qo | apply Kd.qz)); exact HO_5.out⟩, ⟨by (try simp only [hl5_2]); (with_reducible repeat (first | refine qi ?_ _ | refine ql ?_ | refine qh ?_ _)); exact BK995.out⟩, ⟨by repeat (first | (with_reducible first | exact HB.out | apply qg | apply qb | apply qf | refine qd ?_ GE995.out) | exact HB.out)⟩⟩
           case round =>
            clear H'
            try clear c1
            try clear p1
            try clear q1
            try clear hx1
            try clear qi1
            try clear c2
            try clear p2
            try clear q2
            try clear hx2
            try clear hf2
            try clear c3
            try clear c4
            try clear p4
            try clear q4
            try clear hx4
            try clear hf4
            try clear c5
            try clear q5
            try clear c6
            try clear c6b0
            try clear c6b1
            try clear p6
            try clear c7
            try clear c7b0
            try clear p10
            try clear q10
            try clear hx10
            try clear qi10
            try clear c13
            try clear c15
            try clear c16
            try clear c16b0
            try clear c16b1
            try clear c17
            try clear c17b0
            try clear c17b1
            try clear c18
            try clear c18b0
            try clear c19
            try clear c19b0
            try clear p20
            try clear q20
            try clear hx20
            try clear hf20
            try clear c28
            try clear c28b0
            try clear c28b1
            try clear c29
            try clear c29b0
            try clear c29b1
            try clear c35
            try clear c35b0
            try clear c36
            try clear c36b0
            try clear c37
            try clear c37b0
            try clear c38
            try clear c38b0
            try clear c39
            try clear c39b0
            try clear q40
            try clear c41
            try clear c43
            try clear p45
            try clear q45
            try clear hx45
            try clear hf45
            try clear c46
            try clear c48
            try clear c56
            try clear c56b0
            try clear c56b1
            try clear c58
            try clear q58
            try clear hcz10_0
            try clear hcz10_1
            try clear hcz10_2
            try clear hcz12_0
            try clear hcz12_1
            try clear hcz12_2
            try clear hcz13_0
            try clear hcz13_1
            try clear hcz13_2
            try clear hcz21_0
            try clear hcz21_1
            try clear hcz21_2
            try clear hcz44_0
            try clear hcz44_1
            try clear hcz44_2
            try clear hcz49_0
            try clear hcz49_1
            try clear hcz49_2
            try clear hcz51_0
            try clear hcz51_1
            try clear hcz51_2
            try clear hcz54_0
            try clear hcz54_1
            try clear hcz54_2
            try clear hcz8_0
            try clear hcz8_1
            try clear hcz8_2
            try clear hfz10_0
            try clear hfz10_1
            try clear hfz10_2
            try clear hfz12_0
            try clear hfz12_1
            try clear hfz12_2
            try clear hfz13_0
            try clear hfz13_1
            try clear hfz13_2
            try clear hfz21_0
            try clear hfz21_1
            try clear hfz21_2
            try clear hfz44_0
            try clear hfz44_1
            try clear hfz44_2
            try clear hfz49_0
            try clear hfz49_1
            try clear hfz49_2
            try clear hfz51_0
            try clear hfz51_1
            try clear hfz51_2
            try clear hfz54_0
            try clear hfz54_1
            try clear hfz54_2
            try clear hfz8_0
            try clear hfz8_1
            try clear hfz8_2
            try clear hx1004_0
            try clear hx1008_0
            try clear hx1008_1
            try clear hx1008_2
            try clear hx1010_0
            try clear hx20_0
            try clear hx45_0
            try clear p1
            try clear p10
            try clear p1004
            try clear p1008
            try clear p1010
            try clear p2
            try clear p20
            try clear p45
            try clear q1
            try clear q10
            try clear q1004
            try clear q1008
            try clear q1010
            try clear q2
            try clear q20
            try clear q45
            try clear q58
            obtain ⟨x9_3, x66_3, rfl, HA, HK3, HO_9, HO_64, BK995, HB⟩ := hrel
            cases gk with
            | zero => exact absurd HA.out (by simp [qJ.l2])
            | succ k3 =>
             have H := HA.out
             clear HA
             simp only [qJ.l2] at H
             by_cases c60 : x66_3 < (x5_2.length : Int)
             ·rw [if_pos c60] at H
              have c60b0 : decide (x66_3 < (x5_2.length : Int)) = true := decide_eq_true c60
              clear c60
              by_cases c61 : 0 ≤ x66_3
              ·rw [if_pos c61] at H
               have c61b0 : decide (0 ≤ x66_3) = true := decide_eq_true c61
               clear c61
               by_cases c62 : x66_3 < (x5_2.length : Int)
               ·rw [if_pos c62] at H
                have c62b0 : decide (x66_3 < (x5_2.length : Int)) = true := decide_eq_true c62
                clear c62
                obtain ⟨bq63, hbq63⟩ : ∃ b_ : Bool, b_ = (rdOf false x5_2 x66_3) := ⟨_, rfl⟩
                replace H : (if bq63 = true then (if x9_3.length < 17592186044416 then (qJ.l2 k3 (x9_3 ++ [x66_3]) x5_2 (x5_2.length : Int) (wrap64 (x66_3 + 1))) else (none)) else (qJ.l2 k3 x9_3 x5_2 (x5_2.length : Int) (wrap64 (x66_3 + 1)))) = some r := by rw [← hbq63] at H; exact H
                have Nbq63 := qa.mk hbq63
                clear hbq63
                by_cases c64 : bq63 = true
                ·subst c64
                 have H1 : (if x9_3.length < 17592186044416 then (qJ.l2 k3 (x9_3 ++ [x66_3]) x5_2 (x5_2.length : Int) (wrap64 (x66_3 + 1))) else (none)) = some r := by rw [if_pos rfl] at H; exact H
                 clear H
                 have H := H1
                 clear H1
                 by_cases c65 : x9_3.length < 17592186044416
                 ·rw [if_pos c65] at H
                  have LMc65 := qa.mk c65
                  clear c65
                  obtain ⟨y1019, hy1019⟩ : ∃ y_ : List Int, y_ = (x9_3 ++ [x66_3]) := ⟨_, rfl⟩
                  replace H : (qJ.l2 k3 y1019 x5_2 (x5_2.length : Int) (wrap64 (x66_3 + 1))) = some r := by first | (rw [hy1019]; with_reducible exact H) | (have H2_ := (Option.bind_some _ _).symm.trans H; rw [hy1019]; with_reducible exact H2_) | (have H2_ := (Option.bind_some _ _).symm.trans H; with_reducible exact H2_) | with_reducible exact H | (rw [hy1019]; exact H) | exact H
                  have Ny1019 := qa.mk hy1019
                  clear hy1019
                  have H' := qa.mk H
                  clear H
                  have p1018 : 0 ≤ (x66_3 : Int) := of_decide_eq_true (by first | (with_reducible assumption) | assumption)
                  have q1018 : x66_3 < (x5_2.length : Int) := of_decide_eq_true (by first | (with_reducible assumption) | assumption)
                  obtain ⟨ad1018, e1018, hx1018_0⟩ := Kd.kH (Kd.qH HO_64.out).2.2 x66_3 p1018 q1018
                  (try rw [← Nbq63.out] at hx1018_0)
                  obtain rfl : (⟨go20, 0, none⟩ : Addr) = ad1018 := (by injection e1018)
                  (first | simp only [add_plain] at hx1018_0 | simp only [jX] at hx1018_0 | simp only [Addr.add, Nat.zero_add] at hx1018_0 | skip)
                  replace p1018 := eq_true p1018
                  replace q1018 := eq_true q1018
                  go_wp2_with (first | ((with_reducible refine zz (b := .append) (xs := #[.tmp 72, .tmp 74]) rfl ?_); at_builtin; refine Kd.xQ (Kd.int .i64) (w0 := w) w.heap.size rfl (.tmp 72) (.tmp 74) 28 3 (.int .i64 0) 8 rfl Try.underlying28 info3 rfl (by decide) (by omega) u9 x9_3 x66_3 [.int .i64 x66_3] (fun _ => True) (fun _ => False) rfl rfl ?aP (fun _ hk => hk.elim) ?aF ?aO ?aB ?aS ?aL ?_; (case aP => exact rfl); (case aB => exact (by repeat (first | (with_reducible first | exact HB.out | apply qg | apply qb | apply qf | refine qd ?_ GE995.out) | exact HB.out))); (case aF => exact (fun _ _ => trivial)); (case aO => exact (by (with_reducible repeat (first | apply Kd.R_alloc | apply Kd.qo | apply Kd.qz)); exact HO_9.out)); (case aS => exact (qA (by repeat (first | (with_reducible first | exact HB.out | apply qg | apply qb | apply qf | refine qd ?_ GE995.out) | exact HB.out)))); (case aL => have := LMc65.out; omega); intro v1020 w66 ho hb hg hat; rw [← Ny1019.out] at ho; have n0_ := qa.mk (Kd.yo (by (with_reducible repeat (first | apply Kd.R_alloc | apply Kd.qo | apply Kd.qz)); exact HO_64.out) (Kd.yh (by (with_reducible repeat (first | apply Kd.R_alloc | apply Kd.qo | apply Kd.qz)); exact HO_9.out)) (by decide) hg); have n1_ := qa.mk (q9 (g := gb995) (o := .cells #[.int .i64 a0_0, .slice A0_1 l0_1.length c0_1, .slice A0_2 l0_2.length c0_2] 25 (0, 0)) (by (with_reducible repeat (first | refine qi ?_ _ | refine ql ?_ | refine qh ?_ _)); exact BK995.out) hg (Kd.R_ne HO_9.out BK995.out (by decide))); have n2_ := qa.mk (hb); have n3_ := qa.mk (ho); clear HO_64; clear BK995; clear HB; clear HO_9; have HO_64 := n0_; have BK995 := n1_; have HB := n2_; have HO1021 := n3_; clear n0_ n1_ n2_ n3_; clear ho hb hg hat))
                  go_roundg k3
                  case measure => have := HJ2.out; have := HK2.out; have := HK3.out; omega
                  case rel => exact ⟨(y1019), (wrap64 (x66_3 + 1)), (by first | rfl | (simp; done) | (simp [*]; done)), H', ⟨by have := HJ2.out; have := HK2.out; have := HK3.out; omega⟩, ⟨by (try simp only [hl5_2]); (with_reducible repeat (first | apply Kd.R_alloc | apply Kd.qo | apply Kd.qz)); exact HO1021.out⟩, ⟨by (try simp only [hl5_2]); (with_reducible repeat (first | apply Kd.R_alloc | apply Kd.qo | apply Kd.qz)); exact HO_64.out⟩, ⟨by (try simp only [hl5_2]); (with_reducible repeat (first | refine qi ?_ _ | refine ql ?_ | refine qh ?_ _)); exact BK995.out⟩, ⟨by repeat (first | (with_reducible first | exact HB.out | apply qg | apply qb | apply qf | refine qd ?_ GE995.out) | exact HB.out)⟩⟩
                 ·rw [if_neg c65] at H
                  exact absurd H (by simp)
                ·replace c64 := Bool.eq_false_iff.mpr c64
                 subst c64
                 have H1 : (qJ.l2 k3 x9_3 x5_2 (x5_2.length : Int) (wrap64 (x66_3 + 1))) = some r := by rw [if_neg (show ¬ (false = true) by decide)] at H; exact H
                 clear H
                 have H := H1
                 clear H1
                 have H' := qa.mk H
                 clear H
                 have p1018 : 0 ≤ (x66_3 : Int) := of_decide_eq_true (by first | (with_reducible assumption) | assumption)
                 have q1018 : x66_3 < (x5_2.length : Int) := of_decide_eq_true (by first | (with_reducible assumption) | assumption)
                 obtain ⟨ad1018, e1018, hx1018_0⟩ := Kd.kH (Kd.qH HO_64.out).2.2 x66_3 p1018 q1018
                 (try rw [← Nbq63.out] at hx1018_0)
                 obtain rfl : (⟨go20, 0, none⟩ : Addr) = ad1018 := (by injection e1018)
                 (first | simp only [add_plain] at hx1018_0 | simp only [jX] at hx1018_0 | simp only [Addr.add, Nat.zero_add] at hx1018_0 | skip)
                 replace p1018 := eq_true p1018
                 replace q1018 := eq_true q1018
                 go_wp2
                 go_roundg k3
                 case measure => have := HJ2.out; have := HK2.out; have := HK3.out; omega
                 case rel => exact ⟨(x9_3), (wrap64 (x66_3 + 1)), (by first | rfl | (simp; done) | (simp [*]; done)), H', ⟨by have := HJ2.out; have := HK2.out; have := HK3.out; omega⟩, ⟨by (try simp only [hl5_2]); (with_reducible repeat (first | apply Kd.R_alloc | apply Kd.qo | apply Kd.qz)); exact HO_9.out⟩, ⟨by (try simp only [hl5_2]); (with_reducible repeat (first | apply Kd.R_alloc | apply Kd.qo | apply Kd.qz)); exact HO_64.out⟩, ⟨by (try simp only [hl5_2]); (with_reducible repeat (first | refine qi ?_ _ | refine ql ?_ | refine qh ?_ _)); exact BK995.out⟩, ⟨by repeat (first | (with_reducible first | exact HB.out | apply qg | apply qb | apply qf | refine qd ?_ GE995.out) | exact HB.out)⟩⟩
               ·rw [if_neg c62] at H
                exact absurd H (by simp)
              ·rw [if_neg c61] at H
               exact absurd H (by simp)
             ·rw [if_neg c60] at H
              have c60b0 : decide (x66_3 < (x5_2.length : Int)) = false := decide_eq_false c60
              clear c60
              obtain rfl := Option.some.inj H
              go_wp2
              go_ret
              exact ⟨_, by first | rfl | (simp [errW_none, errW_some] <;> rfl) | (simp [*, errW_none, errW_some] <;> rfl), by (with_reducible repeat (first | apply Kd.R_alloc | apply Kd.qo | apply Kd.qz)); exact HO_9.out, by repeat (first | (with_reducible first | exact HB.out | apply qg | apply qb | apply qf | refine qd ?_ GE995.out) | exact HB.out)⟩
       ·rw [if_neg c19] at H
        exact absurd H (by simp)
      ·rw [if_neg c18] at H
       exact absurd H (by simp)
     ·rw [if_neg c17] at H
      exact absurd H (by simp)
    ·rw [if_neg c16] at H
     exact absurd H (by simp)
attribute [local go_sem] vW vZ zi zk vL vK vY vV
set_option linter.unusedVariables false
set_option linter.unusedSimpArgs false
attribute [local go_sem high] eqA55
def qO.f (k : Nat)  : Option (Bool) := (zh.f k 3 (([(⟨#[97]⟩ : ByteArray)] : List ByteArray)) (([(⟨1, 0, 1⟩ : S55), (⟨0, 0, 1⟩ : S55), (⟨0, 0, 1⟩ : S55)] : List (S55)))).bind fun bt1028 => (if bt1028.2.2.2 = 0 then (if (bt1028.2.2.1.length : Int) = 2 then (if 0 < (bt1028.2.2.1.length : Int) then (if (((qc bt1028.2.2.1 0).f0) == 0 && (((qc bt1028.2.2.1 0).f1) == 0 && (((qc bt1028.2.2.1 0).f2) == 1))) = true then ((qJ.f k bt1028.1 bt1028.2.1 bt1028.2.2.1 0).bind fun t1038 => ((qE.f k t1038 (([0, 1] : List Int))).bind fun t1044 => (if t1044 = true then ((vH.f k bt1028.1 bt1028.2.1 bt1028.2.2.1 1 0).bind fun t1045 => ((qE.f k t1045 (([0, 1] : List Int))).bind fun t1051 => (if t1051 = true then ((vC.f k bt1028.1 bt1028.2.1 bt1028.2.2.1 0 0).bind fun t1052 => ((qE.f k t1052 (([1] : List Int))).bind fun t1058 => (if t1058 = true then ((qX.f k bt1028.1 bt1028.2.1 bt1028.2.2.1).bind fun t1059 => (if t1059 = true then ((vN.f k bt1028.1 bt1028.2.1 bt1028.2.2.1 1).bind fun t1060 => (if (t1060.length : Int) = 1 then ((qK.f k 0 ([] : List ByteArray) ([] : List (S55))).bind fun t1063 => (some (t1063 == 1))) else (none))) else (none))) else (none)))) else (none)))) else (none)))) else (none)) else (none)) else (none)) else (none))
theorem qO.mono : ∀ k, LeO (qO.f k ) (qO.f (k + 1) ) := by
 intro  k
 unfold qO.f
 repeat' first
   | (with_reducible exact qK.mono _ _ _ _)
   | (with_reducible exact vN.mono _ _ _ _ _)
   | (with_reducible exact vH.mono _ _ _ _ _ _)
   | (with_reducible exact qJ.mono _ _ _ _ _)
   | (with_reducible exact qX.mono _ _ _ _)
   | (with_reducible exact zh.mono _ _ _ _)
   | (with_reducible exact vC.mono _ _ _ _ _ _)
   | (with_reducible exact qE.mono _ _ _)
   | (with_reducible exact LeO.refl _)
   | (with_reducible exact LeO.none _)
   | (with_reducible refine LeO.ite ?_ ?_)
   | (with_reducible refine LeO.bind ?_ (fun _ => ?_))
   | exact qK.mono _ _ _ _
   | exact vN.mono _ _ _ _ _
   | exact vH.mono _ _ _ _ _ _
   | exact qJ.mono _ _ _ _ _
   | exact qX.mono _ _ _ _
   | exact zh.mono _ _ _ _
   | exact vC.mono _ _ _ _ _ _
   | exact qE.mono _ _ _
   | exact LeO.none _
   | refine LeO.ite ?_ ?_
   | refine LeO.bind ?_ (fun _ => ?_)
set_option maxHeartbeats 8000000 in
set_option maxRecDepth 100000 in
theorem qO.calls (k : Nat)  (r : Bool) (w : World) (h : qO.f k  = some r) :
  Calls Try.prog 64 #[] w fun e w' => e = .returned (.bool r) ∧ Below w.heap.size w w' := by
 have hu55 := Try.underlying55
 have hu25 := Try.underlying25
 have HB := qa.mk (Below.refl w.heap.size w)
 have H : ((zh.f k 3 (([(⟨#[97]⟩ : ByteArray)] : List ByteArray)) (([(⟨1, 0, 1⟩ : S55), (⟨0, 0, 1⟩ : S55), (⟨0, 0, 1⟩ : S55)] : List (S55)))).bind fun bt1028 => (if bt1028.2.2.2 = 0 then (if (bt1028.2.2.1.length : Int) = 2 then (if 0 < (bt1028.2.2.1.length : Int) then (if (((qc bt1028.2.2.1 0).f0) == 0 && (((qc bt1028.2.2.1 0).f1) == 0 && (((qc bt1028.2.2.1 0).f2) == 1))) = true then ((qJ.f k bt1028.1 bt1028.2.1 bt1028.2.2.1 0).bind fun t1038 => ((qE.f k t1038 (([0, 1] : List Int))).bind fun t1044 => (if t1044 = true then ((vH.f k bt1028.1 bt1028.2.1 bt1028.2.2.1 1 0).bind fun t1045 => ((qE.f k t1045 (([0, 1] : List Int))).bind fun t1051 => (if t1051 = true then ((vC.f k bt1028.1 bt1028.2.1 bt1028.2.2.1 0 0).bind fun t1052 => ((qE.f k t1052 (([1] : List Int))).bind fun t1058 => (if t1058 = true then ((qX.f k bt1028.1 bt1028.2.1 bt1028.2.2.1).bind fun t1059 => (if t1059 = true then ((vN.f k bt1028.1 bt1028.2.1 bt1028.2.2.1 1).bind fun t1060 => (if (t1060.length : Int) = 1 then ((qK.f k 0 ([] : List ByteArray) ([] : List (S55))).bind fun t1063 => (some (t1063 == 1))) else (none))) else (none))) else (none)))) else (none)))) else (none)))) else (none)) else (none)) else (none)) else (none))) = some r := h
 clear h
 obtain ⟨y1022, hy1022⟩ : ∃ y_ : List ByteArray, y_ = (([(⟨#[97]⟩ : ByteArray)] : List ByteArray)) := ⟨_, rfl⟩
 replace H : ((zh.f k 3 y1022 (([(⟨1, 0, 1⟩ : S55), (⟨0, 0, 1⟩ : S55), (⟨0, 0, 1⟩ : S55)] : List (S55)))).bind fun bt1028 => (if bt1028.2.2.2 = 0 then (if (bt1028.2.2.1.length : Int) = 2 then (if 0 < (bt1028.2.2.1.length : Int) then (if (((qc bt1028.2.2.1 0).f0) == 0 && (((qc bt1028.2.2.1 0).f1) == 0 && (((qc bt1028.2.2.1 0).f2) == 1))) = true then ((qJ.f k bt1028.1 bt1028.2.1 bt1028.2.2.1 0).bind fun t1038 => ((qE.f k t1038 (([0, 1] : List Int))).bind fun t1044 => (if t1044 = true then ((vH.f k bt1028.1 bt1028.2.1 bt1028.2.2.1 1 0).bind fun t1045 => ((qE.f k t1045 (([0, 1] : List Int))).bind fun t1051 => (if t1051 = true then ((vC.f k bt1028.1 bt1028.2.1 bt1028.2.2.1 0 0).bind fun t1052 => ((qE.f k t1052 (([1] : List Int))).bind fun t1058 => (if t1058 = true then ((qX.f k bt1028.1 bt1028.2.1 bt1028.2.2.1).bind fun t1059 => (if t1059 = true then ((vN.f k bt1028.1 bt1028.2.1 bt1028.2.2.1 1).bind fun t1060 => (if (t1060.length : Int) = 1 then ((qK.f k 0 ([] : List ByteArray) ([] : List (S55))).bind fun t1063 => (some (t1063 == 1))) else (none))) else (none))) else (none)))) else (none)))) else (none)))) else (none)) else (none)) else (none)) else (none))) = some r := by first | (rw [hy1022]; with_reducible exact H) | (have H2_ := (Option.bind_some _ _).symm.trans H; rw [hy1022]; with_reducible exact H2_) | (have H2_ := (Option.bind_some _ _).symm.trans H; with_reducible exact H2_) | with_reducible exact H | (rw [hy1022]; exact H) | exact H
 have Ny1022 := qa.mk hy1022
 clear hy1022
 obtain ⟨y1025, hy1025⟩ : ∃ y_ : List (S55), y_ = (([(⟨1, 0, 1⟩ : S55), (⟨0, 0, 1⟩ : S55), (⟨0, 0, 1⟩ : S55)] : List (S55))) := ⟨_, rfl⟩
 replace H : ((zh.f k 3 y1022 y1025).bind fun bt1028 => (if bt1028.2.2.2 = 0 then (if (bt1028.2.2.1.length : Int) = 2 then (if 0 < (bt1028.2.2.1.length : Int) then (if (((qc bt1028.2.2.1 0).f0) == 0 && (((qc bt1028.2.2.1 0).f1) == 0 && (((qc bt1028.2.2.1 0).f2) == 1))) = true then ((qJ.f k bt1028.1 bt1028.2.1 bt1028.2.2.1 0).bind fun t1038 => ((qE.f k t1038 (([0, 1] : List Int))).bind fun t1044 => (if t1044 = true then ((vH.f k bt1028.1 bt1028.2.1 bt1028.2.2.1 1 0).bind fun t1045 => ((qE.f k t1045 (([0, 1] : List Int))).bind fun t1051 => (if t1051 = true then ((vC.f k bt1028.1 bt1028.2.1 bt1028.2.2.1 0 0).bind fun t1052 => ((qE.f k t1052 (([1] : List Int))).bind fun t1058 => (if t1058 = true then ((qX.f k bt1028.1 bt1028.2.1 bt1028.2.2.1).bind fun t1059 => (if t1059 = true then ((vN.f k bt1028.1 bt1028.2.1 bt1028.2.2.1 1).bind fun t1060 => (if (t1060.length : Int) = 1 then ((qK.f k 0 ([] : List ByteArray) ([] : List (S55))).bind fun t1063 => (some (t1063 == 1))) else (none))) else (none))) else (none)))) else (none)))) else (none)))) else (none)) else (none)) else (none)) else (none))) = some r := by first | (rw [hy1025]; with_reducible exact H) | (have H2_ := (Option.bind_some _ _).symm.trans H; rw [hy1025]; with_reducible exact H2_) | (have H2_ := (Option.bind_some _ _).symm.trans H; with_reducible exact H2_) | with_reducible exact H | (rw [hy1025]; exact H) | exact H
 have Ny1025 := qa.mk hy1025
 clear hy1025
 replace H := Option.bind_eq_some_iff.mp H
 obtain ⟨⟨t1028, t1029, t1032, t1035⟩, A10, H⟩ := H
 replace H : (if t1035 = 0 then (if (t1032.length : Int) = 2 then (if 0 < (t1032.length : Int) then (if (((qc t1032 0).f0) == 0 && (((qc t1032 0).f1) == 0 && (((qc t1032 0).f2) == 1))) = true then ((qJ.f k t1028 t1029 t1032 0).bind fun t1038 => ((qE.f k t1038 (([0, 1] : List Int))).bind fun t1044 => (if t1044 = true then ((vH.f k t1028 t1029 t1032 1 0).bind fun t1045 => ((qE.f k t1045 (([0, 1] : List Int))).bind fun t1051 => (if t1051 = true then ((vC.f k t1028 t1029 t1032 0 0).bind fun t1052 => ((qE.f k t1052 (([1] : List Int))).bind fun t1058 => (if t1058 = true then ((qX.f k t1028 t1029 t1032).bind fun t1059 => (if t1059 = true then ((vN.f k t1028 t1029 t1032 1).bind fun t1060 => (if (t1060.length : Int) = 1 then ((qK.f k 0 ([] : List ByteArray) ([] : List (S55))).bind fun t1063 => (some (t1063 == 1))) else (none))) else (none))) else (none)))) else (none)))) else (none)))) else (none)) else (none)) else (none)) else (none)) = some r := H
 have A1 := qa.mk A10
 clear A10
 by_cases c2 : t1035 = 0
 ·rw [if_pos c2] at H
  have c2b0 : (t1035 == 0) = true := beq_iff_eq.mpr c2
  have c2b1 : (t1035 != 0) = false := bne_eq_false_iff_eq.mpr c2
  clear c2
  by_cases c3 : (t1032.length : Int) = 2
  ·rw [if_pos c3] at H
   have c3b0 : ((t1032.length : Int) == 2) = true := beq_iff_eq.mpr c3
   have c3b1 : ((t1032.length : Int) != 2) = false := bne_eq_false_iff_eq.mpr c3
   clear c3
   by_cases c4 : 0 < (t1032.length : Int)
   ·rw [if_pos c4] at H
    have c4b0 : decide (0 < (t1032.length : Int)) = true := decide_eq_true c4
    have c4b1 : decide (0 < t1032.length) = true := decide_eq_true (by omega)
    clear c4
    by_cases c5 : (((qc t1032 0).f0) == 0 && (((qc t1032 0).f1) == 0 && (((qc t1032 0).f2) == 1))) = true
    ·rw [if_pos c5] at H
     have c5b0 : (((qc t1032 0).f0) == 0 && (((qc t1032 0).f1) == 0 && (((qc t1032 0).f2) == 1))) = true := c5
     (try (have c5b1 : decide (((qc t1032 0).f0) = 0 && (((qc t1032 0).f1) == 0 && (((qc t1032 0).f2) == 1))) = true := by simpa using c5))
     (try (have c5b2 : (((qc t1032 0).f0) == 0 && (((qc t1032 0).f1) == 0 && (((qc t1032 0).f2) == 1))) = true := by simpa using c5))
     clear c5
     replace H := Option.bind_eq_some_iff.mp H
     obtain ⟨t1038, A60, H⟩ := H
     replace H : ((qE.f k t1038 (([0, 1] : List Int))).bind fun t1044 => (if t1044 = true then ((vH.f k t1028 t1029 t1032 1 0).bind fun t1045 => ((qE.f k t1045 (([0, 1] : List Int))).bind fun t1051 => (if t1051 = true then ((vC.f k t1028 t1029 t1032 0 0).bind fun t1052 => ((qE.f k t1052 (([1] : List Int))).bind fun t1058 => (if t1058 = true then ((qX.f k t1028 t1029 t1032).bind fun t1059 => (if t1059 = true then ((vN.f k t1028 t1029 t1032 1).bind fun t1060 => (if (t1060.length : Int) = 1 then ((qK.f k 0 ([] : List ByteArray) ([] : List (S55))).bind fun t1063 => (some (t1063 == 1))) else (none))) else (none))) else (none)))) else (none)))) else (none))) = some r := H
     have A6 := qa.mk A60
     clear A60
     obtain ⟨y1041, hy1041⟩ : ∃ y_ : List Int, y_ = (([0, 1] : List Int)) := ⟨_, rfl⟩
     replace H : ((qE.f k t1038 y1041).bind fun t1044 => (if t1044 = true then ((vH.f k t1028 t1029 t1032 1 0).bind fun t1045 => ((qE.f k t1045 (([0, 1] : List Int))).bind fun t1051 => (if t1051 = true then ((vC.f k t1028 t1029 t1032 0 0).bind fun t1052 => ((qE.f k t1052 (([1] : List Int))).bind fun t1058 => (if t1058 = true then ((qX.f k t1028 t1029 t1032).bind fun t1059 => (if t1059 = true then ((vN.f k t1028 t1029 t1032 1).bind fun t1060 => (if (t1060.length : Int) = 1 then ((qK.f k 0 ([] : List ByteArray) ([] : List (S55))).bind fun t1063 => (some (t1063 == 1))) else (none))) else (none))) else (none)))) else (none)))) else (none))) = some r := by first | (rw [hy1041]; with_reducible exact H) | (have H2_ := (Option.bind_some _ _).symm.trans H; rw [hy1041]; with_reducible exact H2_) | (have H2_ := (Option.bind_some _ _).symm.trans H; with_reducible exact H2_) | with_reducible exact H | (rw [hy1041]; exact H) | exact H
     have Ny1041 := qa.mk hy1041
     clear hy1041
     replace H := Option.bind_eq_some_iff.mp H
     obtain ⟨t1044, A70, H⟩ := H
     replace H : (if t1044 = true then ((vH.f k t1028 t1029 t1032 1 0).bind fun t1045 => ((qE.f k t1045 (([0, 1] : List Int))).bind fun t1051 => (if t1051 = true then ((vC.f k t1028 t1029 t1032 0 0).bind fun t1052 => ((qE.f k t1052 (([1] : List Int))).bind fun t1058 => (if t1058 = true then ((qX.f k t1028 t1029 t1032).bind fun t1059 => (if t1059 = true then ((vN.f k t1028 t1029 t1032 1).bind fun t1060 => (if (t1060.length : Int) = 1 then ((qK.f k 0 ([] : List ByteArray) ([] : List (S55))).bind fun t1063 => (some (t1063 == 1))) else (none))) else (none))) else (none)))) else (none)))) else (none)) = some r := H
     have A7 := qa.mk A70
     clear A70
     by_cases c8 : t1044 = true
     ·subst c8
      have H1 : ((vH.f k t1028 t1029 t1032 1 0).bind fun t1045 => ((qE.f k t1045 (([0, 1] : List Int))).bind fun t1051 => (if t1051 = true then ((vC.f k t1028 t1029 t1032 0 0).bind fun t1052 => ((qE.f k t1052 (([1] : List Int))).bind fun t1058 => (if t1058 = true then ((qX.f k t1028 t1029 t1032).bind fun t1059 => (if t1059 = true then ((vN.f k t1028 t1029 t1032 1).bind fun t1060 => (if (t1060.length : Int) = 1 then ((qK.f k 0 ([] : List ByteArray) ([] : List (S55))).bind fun t1063 => (some (t1063 == 1))) else (none))) else (none))) else (none)))) else (none)))) = some r := by rw [if_pos rfl] at H; exact H
      clear H
      have H := H1
      clear H1
      replace H := Option.bind_eq_some_iff.mp H
      obtain ⟨t1045, A90, H⟩ := H
      replace H : ((qE.f k t1045 (([0, 1] : List Int))).bind fun t1051 => (if t1051 = true then ((vC.f k t1028 t1029 t1032 0 0).bind fun t1052 => ((qE.f k t1052 (([1] : List Int))).bind fun t1058 => (if t1058 = true then ((qX.f k t1028 t1029 t1032).bind fun t1059 => (if t1059 = true then ((vN.f k t1028 t1029 t1032 1).bind fun t1060 => (if (t1060.length : Int) = 1 then ((qK.f k 0 ([] : List ByteArray) ([] : List (S55))).bind fun t1063 => (some (t1063 == 1))) else (none))) else (none))) else (none)))) else (none))) = some r := H
      have A9 := qa.mk A90
      clear A90
      obtain ⟨y1048, hy1048⟩ : ∃ y_ : List Int, y_ = (([0, 1] : List Int)) := ⟨_, rfl⟩
      replace H : ((qE.f k t1045 y1048).bind fun t1051 => (if t1051 = true then ((vC.f k t1028 t1029 t1032 0 0).bind fun t1052 => ((qE.f k t1052 (([1] : List Int))).bind fun t1058 => (if t1058 = true then ((qX.f k t1028 t1029 t1032).bind fun t1059 => (if t1059 = true then ((vN.f k t1028 t1029 t1032 1).bind fun t1060 => (if (t1060.length : Int) = 1 then ((qK.f k 0 ([] : List ByteArray) ([] : List (S55))).bind fun t1063 => (some (t1063 == 1))) else (none))) else (none))) else (none)))) else (none))) = some r := by first | (rw [hy1048]; with_reducible exact H) | (have H2_ := (Option.bind_some _ _).symm.trans H; rw [hy1048]; with_reducible exact H2_) | (have H2_ := (Option.bind_some _ _).symm.trans H; with_reducible exact H2_) | with_reducible exact H | (rw [hy1048]; exact H) | exact H
      have Ny1048 := qa.mk hy1048
      clear hy1048
      replace H := Option.bind_eq_some_iff.mp H
      obtain ⟨t1051, A100, H⟩ := H
      replace H : (if t1051 = true then ((vC.f k t1028 t1029 t1032 0 0).bind fun t1052 => ((qE.f k t1052 (([1] : List Int))).bind fun t1058 => (if t1058 = true then ((qX.f k t1028 t1029 t1032).bind fun t1059 => (if t1059 = true then ((vN.f k t1028 t1029 t1032 1).bind fun t1060 => (if (t1060.length : Int) = 1 then ((qK.f k 0 ([] : List ByteArray) ([] : List (S55))).bind fun t1063 => (some (t1063 == 1))) else (none))) else (none))) else (none)))) else (none)) = some r := H
      have A10 := qa.mk A100
      clear A100
      by_cases c11 : t1051 = true
      ·subst c11
       have H1 : ((vC.f k t1028 t1029 t1032 0 0).bind fun t1052 => ((qE.f k t1052 (([1] : List Int))).bind fun t1058 => (if t1058 = true then ((qX.f k t1028 t1029 t1032).bind fun t1059 => (if t1059 = true then ((vN.f k t1028 t1029 t1032 1).bind fun t1060 => (if (t1060.length : Int) = 1 then ((qK.f k 0 ([] : List ByteArray) ([] : List (S55))).bind fun t1063 => (some (t1063 == 1))) else (none))) else (none))) else (none)))) = some r := by rw [if_pos rfl] at H; exact H
       clear H
       have H := H1
       clear H1
       replace H := Option.bind_eq_some_iff.mp H
       obtain ⟨t1052, A120, H⟩ := H
       replace H : ((qE.f k t1052 (([1] : List Int))).bind fun t1058 => (if t1058 = true then ((qX.f k t1028 t1029 t1032).bind fun t1059 => (if t1059 = true then ((vN.f k t1028 t1029 t1032 1).bind fun t1060 => (if (t1060.length : Int) = 1 then ((qK.f k 0 ([] : List ByteArray) ([] : List (S55))).bind fun t1063 => (some (t1063 == 1))) else (none))) else (none))) else (none))) = some r := H
       have A12 := qa.mk A120
       clear A120
       obtain ⟨y1055, hy1055⟩ : ∃ y_ : List Int, y_ = (([1] : List Int)) := ⟨_, rfl⟩
       replace H : ((qE.f k t1052 y1055).bind fun t1058 => (if t1058 = true then ((qX.f k t1028 t1029 t1032).bind fun t1059 => (if t1059 = true then ((vN.f k t1028 t1029 t1032 1).bind fun t1060 => (if (t1060.length : Int) = 1 then ((qK.f k 0 ([] : List ByteArray) ([] : List (S55))).bind fun t1063 => (some (t1063 == 1))) else (none))) else (none))) else (none))) = some r := by first | (rw [hy1055]; with_reducible exact H) | (have H2_ := (Option.bind_some _ _).symm.trans H; rw [hy1055]; with_reducible exact H2_) | (have H2_ := (Option.bind_some _ _).symm.trans H; with_reducible exact H2_) | with_reducible exact H | (rw [hy1055]; exact H) | exact H
       have Ny1055 := qa.mk hy1055
       clear hy1055
       replace H := Option.bind_eq_some_iff.mp H
       obtain ⟨t1058, A130, H⟩ := H
       replace H : (if t1058 = true then ((qX.f k t1028 t1029 t1032).bind fun t1059 => (if t1059 = true then ((vN.f k t1028 t1029 t1032 1).bind fun t1060 => (if (t1060.length : Int) = 1 then ((qK.f k 0 ([] : List ByteArray) ([] : List (S55))).bind fun t1063 => (some (t1063 == 1))) else (none))) else (none))) else (none)) = some r := H
       have A13 := qa.mk A130
       clear A130
       by_cases c14 : t1058 = true
       ·subst c14
        have H1 : ((qX.f k t1028 t1029 t1032).bind fun t1059 => (if t1059 = true then ((vN.f k t1028 t1029 t1032 1).bind fun t1060 => (if (t1060.length : Int) = 1 then ((qK.f k 0 ([] : List ByteArray) ([] : List (S55))).bind fun t1063 => (some (t1063 == 1))) else (none))) else (none))) = some r := by rw [if_pos rfl] at H; exact H
        clear H
        have H := H1
        clear H1
        replace H := Option.bind_eq_some_iff.mp H
        obtain ⟨t1059, A150, H⟩ := H
        replace H : (if t1059 = true then ((vN.f k t1028 t1029 t1032 1).bind fun t1060 => (if (t1060.length : Int) = 1 then ((qK.f k 0 ([] : List ByteArray) ([] : List (S55))).bind fun t1063 => (some (t1063 == 1))) else (none))) else (none)) = some r := H
        have A15 := qa.mk A150
        clear A150
        by_cases c16 : t1059 = true
        ·subst c16
         have H1 : ((vN.f k t1028 t1029 t1032 1).bind fun t1060 => (if (t1060.length : Int) = 1 then ((qK.f k 0 ([] : List ByteArray) ([] : List (S55))).bind fun t1063 => (some (t1063 == 1))) else (none))) = some r := by rw [if_pos rfl] at H; exact H
         clear H
         have H := H1
         clear H1
         replace H := Option.bind_eq_some_iff.mp H
         obtain ⟨t1060, A170, H⟩ := H
         replace H : (if (t1060.length : Int) = 1 then ((qK.f k 0 ([] : List ByteArray) ([] : List (S55))).bind fun t1063 => (some (t1063 == 1))) else (none)) = some r := H
         have A17 := qa.mk A170
         clear A170
         by_cases c18 : (t1060.length : Int) = 1
         ·rw [if_pos c18] at H
          have c18b0 : ((t1060.length : Int) == 1) = true := beq_iff_eq.mpr c18
          have c18b1 : ((t1060.length : Int) != 1) = false := bne_eq_false_iff_eq.mpr c18
          clear c18
          replace H := Option.bind_eq_some_iff.mp H
          obtain ⟨t1063, A190, H⟩ := H
          replace H : (some (t1063 == 1)) = some r := H
          have A19 := qa.mk A190
          clear A190
          obtain rfl := Option.some.inj H
          go_enter Try.func64, Try.ntmps64
          go_wp2_with (first | ((with_reducible refine qY (N := 4) rfl ?_); (try (refine zt (by rfl) ?_; dsimp only)); refine Kd.jS Kd.string _ 9 ?hg (N := 4) ?hd (xs := ([(⟨#[97]⟩ : ByteArray)] : List ByteArray)) (inner := [.string (⟨#[97]⟩ : ByteArray)]) (ok := fun _ => True) (okp := fun _ => True) ?hr ?hp (fun _ hk => hk) trivial (Below.refl _ _) (Nat.le_refl _) (by simp) ?_; (case hd => rfl); (case hg => rfl); (case hr => first | (go_simp; done) | (go_simp; rfl)); (case hp => exact (Reps.one (show Kd.M Kd.string _ _ _ (⟨#[97]⟩ : ByteArray) [.string (⟨#[97]⟩ : ByteArray)] from rfl) (Reps.none _ _))); intro v1023 w20 ho21 hb hg_ hnew_; clear hg_ hnew_; (first | rw [← Ny1022.out] at ho21 | (simp only [Int.reduceToNat] at ho21; rw [← Ny1022.out] at ho21)); have n0_ := qa.mk (Kd.vO ho21 (qA (by repeat (first | (with_reducible first | exact HB.out | apply qg | apply qb | apply qf) | exact HB.out)))); have n1_ := qa.mk (qD (by repeat (first | (with_reducible first | exact HB.out | apply qg | apply qb | apply qf) | exact HB.out)) hb); clear HB; have HO1024 := n0_; have HB := n1_; clear n0_ n1_; clear hb ho21) | ((with_reducible refine qY (N := 8) rfl ?_); (try (refine zt (by rfl) ?_; dsimp only)); refine Kd.jS k55 _ 55 ?hg (N := 8) ?hd (xs := ([(⟨1, 0, 1⟩ : S55), (⟨0, 0, 1⟩ : S55), (⟨0, 0, 1⟩ : S55)] : List (S55))) (inner := [.int .i64 1, .int .i64 0, .int .i64 1, .int .i64 0, .int .i64 0, .int .i64 1, .int .i64 0, .int .i64 0, .int .i64 1]) (ok := fun _ => True) (okp := fun _ => True) ?hr ?hp (fun _ hk => hk) trivial (Below.refl _ _) (Nat.le_refl _) (by simp) ?_; (case hd => rfl); (case hg => rfl); (case hr => first | (go_simp; done) | (go_simp; rfl)); (case hp => exact (Reps.c3 (show Kd.M k55 _ _ _ (⟨1, 0, 1⟩ : S55) [.int .i64 1, .int .i64 0, .int .i64 1] from (wm _ _ _ (⟨1, 0, 1⟩ : S55) )) (Reps.c3 (show Kd.M k55 _ _ _ (⟨0, 0, 1⟩ : S55) [.int .i64 0, .int .i64 0, .int .i64 1] from (wm _ _ _ (⟨0, 0, 1⟩ : S55) )) (Reps.c3 (show Kd.M k55 _ _ _ (⟨0, 0, 1⟩ : S55) [.int .i64 0, .int .i64 0, .int .i64 1] from (wm _ _ _ (⟨0, 0, 1⟩ : S55) )) (Reps.none _ _))))); intro v1026 w22 ho23 hb hg_ hnew_; clear hg_ hnew_; (first | rw [← Ny1025.out] at ho23 | (simp only [Int.reduceToNat] at ho23; rw [← Ny1025.out] at ho23)); have n0_ := qa.mk (Kd.qL (by (with_reducible repeat (first | apply Kd.R_alloc | apply Kd.qo | apply Kd.qz)); exact HO1024.out) hb); have n1_ := qa.mk (Kd.vO ho23 (qA (by repeat (first | (with_reducible first | exact HB.out | apply qg | apply qb | apply qf) | exact HB.out)))); have n2_ := qa.mk (qD (by repeat (first | (with_reducible first | exact HB.out | apply qg | apply qb | apply qf) | exact HB.out)) hb); clear HO1024; clear HB; have HO1024 := n0_; have HO1027 := n1_; have HB := n2_; clear n0_ n1_ n2_; clear hb ho23; obtain ⟨Ao24, co24, eo24⟩ := Kd.zn HO1027.out; subst eo24; obtain ⟨Ao25, co25, eo25⟩ := Kd.zn HO1024.out; subst eo25) | ((with_reducible refine qR (f := 65) rfl ?_); refine vP (some 10) rfl rfl Try.func65 (by kernel_rfl) rfl #[.agg #[.int .i64 3, .slice Ao25 y1022.length co25, .slice Ao24 y1025.length co24]] rfl (by (try simp only [List.map_toArray, List.map_cons, List.map_nil]); first | done | rfl | (simp only [List.length_drop, List.length_take]; rfl)) ?_; (with_reducible refine (zh.calls k 3 _ _ y1022 _ _ y1025 t1028 t1029 t1032 t1035 _ ?side1 ?side2 ?side3 ?side4 A1.out).mono ?_); (case side1 => repeat (first | exact (Kd.qH HO1024.out).2.2 | (with_reducible refine Kd.C_alloc ?_ _) | (with_reducible refine Kd.C_drewN ?_ _) | (with_reducible refine Kd.qQ ?_))); (case side2 => exact (Kd.qH HO1024.out).2.1); (case side3 => repeat (first | exact (Kd.qH HO1027.out).2.2 | (with_reducible refine Kd.C_alloc ?_ _) | (with_reducible refine Kd.C_drewN ?_ _) | (with_reducible refine Kd.qQ ?_))); (case side4 => exact (Kd.qH HO1027.out).2.1); rintro e w26 ⟨v1030, v1033, rfl, ho0, ho1, hb⟩; refine ⟨_, rfl, ?_⟩; have n0_ := qa.mk (Kd.vv (by (with_reducible repeat (first | apply Kd.R_alloc | apply Kd.qo | apply Kd.qz)); exact HO1024.out) (Kd.vE ho0) hb); have n1_ := qa.mk (Kd.vv (by (with_reducible repeat (first | apply Kd.R_alloc | apply Kd.qo | apply Kd.qz)); exact HO1027.out) (Kd.vE ho1) hb); have n2_ := qa.mk (Kd.vO (Kd.vR ho0 (Kd.R_lt (by (with_reducible repeat (first | apply Kd.R_alloc | apply Kd.qo | apply Kd.qz)); exact HO1024.out))) (qA (by repeat (first | (with_reducible first | exact HB.out | apply qg | apply qb | apply qf) | exact HB.out)))); have n3_ := qa.mk (Kd.vO (Kd.vR ho1 (Kd.R_lt (by (with_reducible repeat (first | apply Kd.R_alloc | apply Kd.qo | apply Kd.qz)); exact HO1027.out))) (qA (by repeat (first | (with_reducible first | exact HB.out | apply qg | apply qb | apply qf) | exact HB.out)))); have n4_ := qa.mk (qD (by repeat (first | (with_reducible first | exact HB.out | apply qg | apply qb | apply qf) | exact HB.out)) hb); clear HO1024; clear HO1027; clear HB; have HO1024 := n0_; have HO1027 := n1_; have HO1031 := n2_; have HO1034 := n3_; have HB := n4_; clear n0_ n1_ n2_ n3_ n4_; (try clear hb); (try clear hb2); (try clear hk); (try clear hi); (try clear ho0); (try clear ho1)) | ((with_reducible refine qY (N := 1) rfl ?_); (try (refine zt (by rfl) ?_; dsimp only)); refine qZ ?hg (N := 1) ?hd (cs := #[.int .i64 0, .slice none 0 0, .slice none 0 0]) (t := 25) ?hr ?_; (case hd => rfl); (case hg => rfl); (case hr => first | (go_simp; done) | (go_simp; rfl)); intro gb1036 hg w27 hbox hb; have n0_ := qa.mk (Kd.qL (by (with_reducible repeat (first | apply Kd.R_alloc | apply Kd.qo | apply Kd.qz)); exact HO1024.out) hb); have n1_ := qa.mk (Kd.qL (by (with_reducible repeat (first | apply Kd.R_alloc | apply Kd.qo | apply Kd.qz)); exact HO1027.out) hb); have n2_ := qa.mk (Kd.qL (by (with_reducible repeat (first | apply Kd.R_alloc | apply Kd.qo | apply Kd.qz)); exact HO1031.out) hb); have n3_ := qa.mk (Kd.qL (by (with_reducible repeat (first | apply Kd.R_alloc | apply Kd.qo | apply Kd.qz)); exact HO1034.out) hb); have n4_ := qa.mk (qD (by repeat (first | (with_reducible first | exact HB.out | apply qg | apply qb | apply qf) | exact HB.out)) hb); have n5_ := qa.mk (hbox); have n6_ := qa.mk ((by rw [hg]; exact (qA (by repeat (first | (with_reducible first | exact HB.out | apply qg | apply qb | apply qf) | exact HB.out))) : w.heap.size ≤ gb1036)); have n7_ := qa.mk ((by rw [hg]; exact (qA (by repeat (first | (with_reducible first | exact HB.out | apply qg | apply qb | apply qf) | exact HB.out))) : w.heap.size ≤ gb1036)); clear HO1024; clear HO1027; clear HO1031; clear HO1034; clear HB; have HO1024 := n0_; have HO1027 := n1_; have HO1031 := n2_; have HO1034 := n3_; have HB := n4_; have BK1036 := n5_; have GW1036 := n6_; have GE1036 := n7_; clear n0_ n1_ n2_ n3_ n4_ n5_ n6_ n7_; clear hb hbox hg; have hcz28_0 : w27.cell? ⟨gb1036, 0, none⟩ = some (.int .i64 0) := (qj BK1036.out 0).trans rfl; have hcz28_1 : w27.cell? ⟨gb1036, 1, none⟩ = some (.slice none 0 0) := (qj BK1036.out 1).trans rfl; have hcz28_2 : w27.cell? ⟨gb1036, 2, none⟩ = some (.slice none 0 0) := (qj BK1036.out 2).trans rfl; have hfz28_0 := qm BK1036.out 0; have hfz28_1 := qm BK1036.out 1; have hfz28_2 := qm BK1036.out 2; obtain ⟨Ao29, co29, eo29⟩ := Kd.zn HO1031.out; subst eo29; obtain ⟨Ao30, co30, eo30⟩ := Kd.zn HO1034.out; subst eo30; have p1037 : 0 ≤ (0 : Int) := (by omega); have q1037 : 0 < (t1032.length : Int) := of_decide_eq_true (by first | (with_reducible assumption) | assumption); obtain ⟨ad1037, e1037, hx1037_0, hx1037_1, hx1037_2⟩ := vU (Kd.qH HO1034.out).2.2 0 p1037 q1037; cases e1037; have qi1037 : (0 < t1032.length) = True := eq_true (by omega); (try rw [show ((0 : Int)).toNat = 0 from rfl] at hx1037_0); (try rw [show 0 * 3 = 0 from rfl] at hx1037_0); (try rw [Addr.add_zero'] at hx1037_0); (try rw [show ((0 : Int)).toNat = 0 from rfl] at hx1037_1); (try rw [show 0 * 3 = 0 from rfl] at hx1037_1); (try rw [Addr.add_zero'] at hx1037_1); (try rw [show ((0 : Int)).toNat = 0 from rfl] at hx1037_2); (try rw [show 0 * 3 = 0 from rfl] at hx1037_2); (try rw [Addr.add_zero'] at hx1037_2); have hn1037_0 : ad1037.block ≠ gb1036 := Kd.jy (Kd.R_ne HO1034.out BK1036.out (by decide)); have hn1037_1 : ad1037.block ≠ gb1036 := Kd.jy (Kd.R_ne HO1034.out BK1036.out (by decide)); have hn1037_2 : ad1037.block ≠ gb1036 := Kd.jy (Kd.R_ne HO1034.out BK1036.out (by decide)); replace hx1037_0 := (cell_far (p := ⟨gb1036, 0, none⟩) (by first | (rw [add_block]; exact hn1037_0) | (show (Addr.add _ _).block ≠ _; rw [add_block]; exact hn1037_0) | exact hn1037_0) (.int .i64 t1028)).trans hx1037_0; replace hx1037_1 := (cell_far (p := ⟨gb1036, 0, none⟩) (by first | (rw [add_block]; exact hn1037_0) | (show (Addr.add _ _).block ≠ _; rw [add_block]; exact hn1037_0) | exact hn1037_0) (.int .i64 t1028)).trans hx1037_1; replace hx1037_2 := (cell_far (p := ⟨gb1036, 0, none⟩) (by first | (rw [add_block]; exact hn1037_0) | (show (Addr.add _ _).block ≠ _; rw [add_block]; exact hn1037_0) | exact hn1037_0) (.int .i64 t1028)).trans hx1037_2; replace hx1037_0 := (cell_far (p := ⟨gb1036, 1, none⟩) (by first | (rw [add_block]; exact hn1037_1) | (show (Addr.add _ _).block ≠ _; rw [add_block]; exact hn1037_1) | exact hn1037_1) (.slice Ao29 t1029.length co29)).trans hx1037_0; replace hx1037_1 := (cell_far (p := ⟨gb1036, 1, none⟩) (by first | (rw [add_block]; exact hn1037_1) | (show (Addr.add _ _).block ≠ _; rw [add_block]; exact hn1037_1) | exact hn1037_1) (.slice Ao29 t1029.length co29)).trans hx1037_1; replace hx1037_2 := (cell_far (p := ⟨gb1036, 1, none⟩) (by first | (rw [add_block]; exact hn1037_1) | (show (Addr.add _ _).block ≠ _; rw [add_block]; exact hn1037_1) | exact hn1037_1) (.slice Ao29 t1029.length co29)).trans hx1037_2; replace hx1037_0 := (cell_far (p := ⟨gb1036, 2, none⟩) (by first | (rw [add_block]; exact hn1037_2) | (show (Addr.add _ _).block ≠ _; rw [add_block]; exact hn1037_2) | exact hn1037_2) (.slice (some ad1037) t1032.length co30)).trans hx1037_0; replace hx1037_1 := (cell_far (p := ⟨gb1036, 2, none⟩) (by first | (rw [add_block]; exact hn1037_2) | (show (Addr.add _ _).block ≠ _; rw [add_block]; exact hn1037_2) | exact hn1037_2) (.slice (some ad1037) t1032.length co30)).trans hx1037_1; replace hx1037_2 := (cell_far (p := ⟨gb1036, 2, none⟩) (by first | (rw [add_block]; exact hn1037_2) | (show (Addr.add _ _).block ≠ _; rw [add_block]; exact hn1037_2) | exact hn1037_2) (.slice (some ad1037) t1032.length co30)).trans hx1037_2; clear hn1037_0; clear hn1037_1; clear hn1037_2; replace p1037 := eq_true p1037; replace q1037 := eq_true q1037) | (go_at_call 73; (with_reducible refine (qJ.calls k t1028 _ _ t1029 _ _ t1032 0 t1038 _ ?side1 ?side2 ?side3 ?side4 A6.out).mono ?_); (case side1 => refine (Kd.qH (e := 9) (base := w.heap.size) (ok := fun k_ => (True ∧ some k_ ≠ (.slice Ao25 y1022.length co25 : Value).ownBlock)) (n := t1029.length) (c := co29) ?_).2.2; exact (by (with_reducible repeat (first | apply Kd.R_alloc | apply Kd.qo | apply Kd.qz)); exact (Kd.qW (Kd.vT (p := ⟨gb1036, 2, none⟩) (Kd.vT (p := ⟨gb1036, 1, none⟩) (Kd.vT (p := ⟨gb1036, 0, none⟩) (Kd.zD HO1031.out BK1036.out (by decide)) (fun _ hk => hk.2) (.int .i64 t1028)) (fun _ hk => hk.2) (.slice Ao29 t1029.length co29)) (fun _ hk => hk.2) (.slice (some ad1037) t1032.length co30)) (fun _ h_ => h_.1)))); (case side2 => exact (Kd.qH HO1031.out).2.1); (case side3 => refine (Kd.qH (e := 55) (base := w.heap.size) (ok := fun k_ => (True ∧ some k_ ≠ (.slice Ao24 y1025.length co24 : Value).ownBlock)) (n := t1032.length) (c := co30) ?_).2.2; exact (by (with_reducible repeat (first | apply Kd.R_alloc | apply Kd.qo | apply Kd.qz)); exact (Kd.qW (Kd.vT (p := ⟨gb1036, 2, none⟩) (Kd.vT (p := ⟨gb1036, 1, none⟩) (Kd.vT (p := ⟨gb1036, 0, none⟩) (Kd.zD HO1034.out BK1036.out (by decide)) (fun _ hk => hk.2) (.int .i64 t1028)) (fun _ hk => hk.2) (.slice Ao29 t1029.length co29)) (fun _ hk => hk.2) (.slice (some ad1037) t1032.length co30)) (fun _ h_ => h_.1)))); (case side4 => exact (Kd.qH HO1034.out).2.1); rintro e w31 ⟨v1039, rfl, ho0, hb⟩; have n0_ := qa.mk (Kd.qL (by (with_reducible repeat (first | apply Kd.R_alloc | apply Kd.qo | apply Kd.qz)); exact (Kd.qW (Kd.vT (p := ⟨gb1036, 2, none⟩) (Kd.vT (p := ⟨gb1036, 1, none⟩) (Kd.vT (p := ⟨gb1036, 0, none⟩) (Kd.zD HO1024.out BK1036.out (by decide)) (fun _ hk => hk.2) (.int .i64 t1028)) (fun _ hk => hk.2) (.slice Ao29 t1029.length co29)) (fun _ hk => hk.2) (.slice (some ad1037) t1032.length co30)) (fun _ h_ => h_.1))) hb); have n1_ := qa.mk (Kd.qL (by (with_reducible repeat (first | apply Kd.R_alloc | apply Kd.qo | apply Kd.qz)); exact (Kd.qW (Kd.vT (p := ⟨gb1036, 2, none⟩) (Kd.vT (p := ⟨gb1036, 1, none⟩) (Kd.vT (p := ⟨gb1036, 0, none⟩) (Kd.zD HO1027.out BK1036.out (by decide)) (fun _ hk => hk.2) (.int .i64 t1028)) (fun _ hk => hk.2) (.slice Ao29 t1029.length co29)) (fun _ hk => hk.2) (.slice (some ad1037) t1032.length co30)) (fun _ h_ => h_.1))) hb); have n2_ := qa.mk (Kd.qL (by (with_reducible repeat (first | apply Kd.R_alloc | apply Kd.qo | apply Kd.qz)); exact (Kd.qW (Kd.vT (p := ⟨gb1036, 2, none⟩) (Kd.vT (p := ⟨gb1036, 1, none⟩) (Kd.vT (p := ⟨gb1036, 0, none⟩) (Kd.zD HO1031.out BK1036.out (by decide)) (fun _ hk => hk.2) (.int .i64 t1028)) (fun _ hk => hk.2) (.slice Ao29 t1029.length co29)) (fun _ hk => hk.2) (.slice (some ad1037) t1032.length co30)) (fun _ h_ => h_.1))) hb); have n3_ := qa.mk (Kd.qL (by (with_reducible repeat (first | apply Kd.R_alloc | apply Kd.qo | apply Kd.qz)); exact (Kd.qW (Kd.vT (p := ⟨gb1036, 2, none⟩) (Kd.vT (p := ⟨gb1036, 1, none⟩) (Kd.vT (p := ⟨gb1036, 0, none⟩) (Kd.zD HO1034.out BK1036.out (by decide)) (fun _ hk => hk.2) (.int .i64 t1028)) (fun _ hk => hk.2) (.slice Ao29 t1029.length co29)) (fun _ hk => hk.2) (.slice (some ad1037) t1032.length co30)) (fun _ h_ => h_.1))) hb); have n4_ := qa.mk (Kd.vO ho0 (qA (by repeat (first | (with_reducible first | exact HB.out | apply qg | apply qb | apply qf | refine qd ?_ GE1036.out) | exact HB.out)))); have n5_ := qa.mk (qB (g := gb1036) (o := .cells #[.int .i64 t1028, .slice Ao29 t1029.length co29, .slice (some ad1037) t1032.length co30] 25 (0, 0)) (by (with_reducible repeat (first | refine qi ?_ _ | refine ql ?_ | refine qh ?_ _)); refine zq (cs := #[.int .i64 t1028, .slice Ao29 t1029.length co29, .slice none 0 0]) ?_ 2 _ rfl; (with_reducible repeat (first | refine qi ?_ _ | refine ql ?_ | refine qh ?_ _)); refine zq (cs := #[.int .i64 t1028, .slice none 0 0, .slice none 0 0]) ?_ 1 _ rfl; (with_reducible repeat (first | refine qi ?_ _ | refine ql ?_ | refine qh ?_ _)); refine zq (cs := #[.int .i64 0, .slice none 0 0, .slice none 0 0]) ?_ 0 _ rfl; (with_reducible repeat (first | refine qi ?_ _ | refine ql ?_ | refine qh ?_ _)); exact BK1036.out) hb); have n6_ := qa.mk (qD (by repeat (first | (with_reducible first | exact HB.out | apply qg | apply qb | apply qf | refine qd ?_ GE1036.out) | exact HB.out)) hb); clear HO1024; clear HO1027; clear HO1031; clear HO1034; clear BK1036; clear HB; have HO1024 := n0_; have HO1027 := n1_; have HO1031 := n2_; have HO1034 := n3_; have HO1040 := n4_; have BK1036 := n5_; have HB := n6_; clear n0_ n1_ n2_ n3_ n4_ n5_ n6_; (try clear hb); (try clear hb2); (try clear hk); (try clear hi); (try clear ho0)) | ((with_reducible refine qY (N := 32) rfl ?_); (try (refine zt (by rfl) ?_; dsimp only)); refine Kd.jS (Kd.int .i64) _ 3 ?hg (N := 32) ?hd (xs := ([0, 1] : List Int)) (inner := [.int .i64 0, .int .i64 1]) (ok := fun _ => True) (okp := fun _ => True) ?hr ?hp (fun _ hk => hk) trivial (Below.refl _ _) (Nat.le_refl _) (by simp) ?_; (case hd => rfl); (case hg => rfl); (case hr => first | (go_simp; done) | (go_simp; rfl)); (case hp => exact (Reps.one (show Kd.M (Kd.int .i64) _ _ _ 0 [.int .i64 0] from rfl) (Reps.one (show Kd.M (Kd.int .i64) _ _ _ 1 [.int .i64 1] from rfl) (Reps.none _ _)))); intro v1042 w32 ho33 hb hg_ hnew_; clear hg_ hnew_; (first | rw [← Ny1041.out] at ho33 | (simp only [Int.reduceToNat] at ho33; rw [← Ny1041.out] at ho33)); have n0_ := qa.mk (Kd.qL (by (with_reducible repeat (first | apply Kd.R_alloc | apply Kd.qo | apply Kd.qz)); exact HO1024.out) hb); have n1_ := qa.mk (Kd.qL (by (with_reducible repeat (first | apply Kd.R_alloc | apply Kd.qo | apply Kd.qz)); exact HO1027.out) hb); have n2_ := qa.mk (Kd.qL (by (with_reducible repeat (first | apply Kd.R_alloc | apply Kd.qo | apply Kd.qz)); exact HO1031.out) hb); have n3_ := qa.mk (Kd.qL (by (with_reducible repeat (first | apply Kd.R_alloc | apply Kd.qo | apply Kd.qz)); exact HO1034.out) hb); have n4_ := qa.mk (Kd.vv (by (with_reducible repeat (first | apply Kd.R_alloc | apply Kd.qo | apply Kd.qz)); exact HO1040.out) (Kd.vE ho33) hb); have n5_ := qa.mk (Kd.vO (Kd.vR ho33 (Kd.R_lt (by (with_reducible repeat (first | apply Kd.R_alloc | apply Kd.qo | apply Kd.qz)); exact HO1040.out))) (qA (by repeat (first | (with_reducible first | exact HB.out | apply qg | apply qb | apply qf | refine qd ?_ GE1036.out) | exact HB.out)))); have n6_ := qa.mk (qB (g := gb1036) (o := .cells #[.int .i64 t1028, .slice Ao29 t1029.length co29, .slice (some ad1037) t1032.length co30] 25 (0, 0)) (by (with_reducible repeat (first | refine qi ?_ _ | refine ql ?_ | refine qh ?_ _)); exact BK1036.out) hb); have n7_ := qa.mk (qD (by repeat (first | (with_reducible first | exact HB.out | apply qg | apply qb | apply qf | refine qd ?_ GE1036.out) | exact HB.out)) hb); clear HO1024; clear HO1027; clear HO1031; clear HO1034; clear HO1040; clear BK1036; clear HB; have HO1024 := n0_; have HO1027 := n1_; have HO1031 := n2_; have HO1034 := n3_; have HO1040 := n4_; have HO1043 := n5_; have BK1036 := n6_; have HB := n7_; clear n0_ n1_ n2_ n3_ n4_ n5_ n6_ n7_; clear hb ho33; obtain ⟨Ao34, co34, eo34⟩ := Kd.zn HO1040.out; subst eo34; obtain ⟨Ao35, co35, eo35⟩ := Kd.zn HO1043.out; subst eo35) | (go_at_call 24; (with_reducible refine (qE.calls k _ _ t1038 _ _ y1041 true _ ?side1 ?side2 ?side3 ?side4 A7.out).mono ?_); (case side1 => repeat (first | exact (Kd.qH HO1040.out).2.2 | (with_reducible refine Kd.C_alloc ?_ _) | (with_reducible refine Kd.C_drewN ?_ _) | (with_reducible refine Kd.qQ ?_))); (case side2 => exact (Kd.qH HO1040.out).2.1); (case side3 => repeat (first | exact (Kd.qH HO1043.out).2.2 | (with_reducible refine Kd.C_alloc ?_ _) | (with_reducible refine Kd.C_drewN ?_ _) | (with_reducible refine Kd.qQ ?_))); (case side4 => exact (Kd.qH HO1043.out).2.1); rintro e w' ⟨rfl, ⟨nd, rfl⟩⟩; have hcz36_0 : w32.cell? ⟨gb1036, 0, none⟩ = some (.int .i64 t1028) := (qj BK1036.out 0).trans rfl; have hcz36_1 : w32.cell? ⟨gb1036, 1, none⟩ = some (.slice Ao29 t1029.length co29) := (qj BK1036.out 1).trans rfl; have hcz36_2 : w32.cell? ⟨gb1036, 2, none⟩ = some (.slice (some ad1037) t1032.length co30) := (qj BK1036.out 2).trans rfl; have hfz36_0 := qm BK1036.out 0; have hfz36_1 := qm BK1036.out 1; have hfz36_2 := qm BK1036.out 2) | (go_at_call 69; (with_reducible refine (vH.calls k t1028 _ _ t1029 _ _ t1032 1 0 t1045 _ ?side1 ?side2 ?side3 ?side4 A9.out).mono ?_); (case side1 => repeat (first | exact (Kd.qH HO1031.out).2.2 | (with_reducible refine Kd.C_alloc ?_ _) | (with_reducible refine Kd.C_drewN ?_ _) | (with_reducible refine Kd.qQ ?_))); (case side2 => exact (Kd.qH HO1031.out).2.1); (case side3 => repeat (first | exact (Kd.qH HO1034.out).2.2 | (with_reducible refine Kd.C_alloc ?_ _) | (with_reducible refine Kd.C_drewN ?_ _) | (with_reducible refine Kd.qQ ?_))); (case side4 => exact (Kd.qH HO1034.out).2.1); rintro e w37 ⟨v1046, rfl, ho0, hb⟩; have n0_ := qa.mk (Kd.qL (by (with_reducible repeat (first | apply Kd.R_alloc | apply Kd.qo | apply Kd.qz)); exact HO1024.out) hb); have n1_ := qa.mk (Kd.qL (by (with_reducible repeat (first | apply Kd.R_alloc | apply Kd.qo | apply Kd.qz)); exact HO1027.out) hb); have n2_ := qa.mk (Kd.qL (by (with_reducible repeat (first | apply Kd.R_alloc | apply Kd.qo | apply Kd.qz)); exact HO1031.out) hb); have n3_ := qa.mk (Kd.qL (by (with_reducible repeat (first | apply Kd.R_alloc | apply Kd.qo | apply Kd.qz)); exact HO1034.out) hb); have n4_ := qa.mk (Kd.vv (by (with_reducible repeat (first | apply Kd.R_alloc | apply Kd.qo | apply Kd.qz)); exact HO1040.out) (Kd.vE ho0) hb); have n5_ := qa.mk (Kd.vv (by (with_reducible repeat (first | apply Kd.R_alloc | apply Kd.qo | apply Kd.qz)); exact HO1043.out) (Kd.vE ho0) hb); have n6_ := qa.mk (Kd.vO (Kd.vR (Kd.vR ho0 (Kd.R_lt (by (with_reducible repeat (first | apply Kd.R_alloc | apply Kd.qo | apply Kd.qz)); exact HO1040.out))) (Kd.R_lt (by (with_reducible repeat (first | apply Kd.R_alloc | apply Kd.qo | apply Kd.qz)); exact HO1043.out))) (qA (by repeat (first | (with_reducible first | exact HB.out | apply qg | apply qb | apply qf | refine qd ?_ GE1036.out) | exact HB.out)))); have n7_ := qa.mk (qB (g := gb1036) (o := .cells #[.int .i64 t1028, .slice Ao29 t1029.length co29, .slice (some ad1037) t1032.length co30] 25 (0, 0)) (by (with_reducible repeat (first | refine qi ?_ _ | refine ql ?_ | refine qh ?_ _)); exact BK1036.out) hb); have n8_ := qa.mk (qD (by repeat (first | (with_reducible first | exact HB.out | apply qg | apply qb | apply qf | refine qd ?_ GE1036.out) | exact HB.out)) hb); clear HO1024; clear HO1027; clear HO1031; clear HO1034; clear HO1040; clear HO1043; clear BK1036; clear HB; have HO1024 := n0_; have HO1027 := n1_; have HO1031 := n2_; have HO1034 := n3_; have HO1040 := n4_; have HO1043 := n5_; have HO1047 := n6_; have BK1036 := n7_; have HB := n8_; clear n0_ n1_ n2_ n3_ n4_ n5_ n6_ n7_ n8_; (try clear hb); (try clear hb2); (try clear hk); (try clear hi); (try clear ho0)) | ((with_reducible refine qY (N := 38) rfl ?_); (try (refine zt (by rfl) ?_; dsimp only)); refine Kd.jS (Kd.int .i64) _ 3 ?hg (N := 38) ?hd (xs := ([0, 1] : List Int)) (inner := [.int .i64 0, .int .i64 1]) (ok := fun _ => True) (okp := fun _ => True) ?hr ?hp (fun _ hk => hk) trivial (Below.refl _ _) (Nat.le_refl _) (by simp) ?_; (case hd => rfl); (case hg => rfl); (case hr => first | (go_simp; done) | (go_simp; rfl)); (case hp => exact (Reps.one (show Kd.M (Kd.int .i64) _ _ _ 0 [.int .i64 0] from rfl) (Reps.one (show Kd.M (Kd.int .i64) _ _ _ 1 [.int .i64 1] from rfl) (Reps.none _ _)))); intro v1049 w38 ho39 hb hg_ hnew_; clear hg_ hnew_; (first | rw [← Ny1048.out] at ho39 | (simp only [Int.reduceToNat] at ho39; rw [← Ny1048.out] at ho39)); have n0_ := qa.mk (Kd.qL (by (with_reducible repeat (first | apply Kd.R_alloc | apply Kd.qo | apply Kd.qz)); exact HO1024.out) hb); have n1_ := qa.mk (Kd.qL (by (with_reducible repeat (first | apply Kd.R_alloc | apply Kd.qo | apply Kd.qz)); exact HO1027.out) hb); have n2_ := qa.mk (Kd.qL (by (with_reducible repeat (first | apply Kd.R_alloc | apply Kd.qo | apply Kd.qz)); exact HO1031.out) hb); have n3_ := qa.mk (Kd.qL (by (with_reducible repeat (first | apply Kd.R_alloc | apply Kd.qo | apply Kd.qz)); exact HO1034.out) hb); have n4_ := qa.mk (Kd.vv (by (with_reducible repeat (first | apply Kd.R_alloc | apply Kd.qo | apply Kd.qz)); exact HO1040.out) (Kd.vE ho39) hb); have n5_ := qa.mk (Kd.vv (by (with_reducible repeat (first | apply Kd.R_alloc | apply Kd.qo | apply Kd.qz)); exact HO1043.out) (Kd.vE ho39) hb); have n6_ := qa.mk (Kd.vv (by (with_reducible repeat (first | apply Kd.R_alloc | apply Kd.qo | apply Kd.qz)); exact HO1047.out) (Kd.vE ho39) hb); have n7_ := qa.mk (Kd.vO (Kd.vR (Kd.vR (Kd.vR ho39 (Kd.R_lt (by (with_reducible repeat (first | apply Kd.R_alloc | apply Kd.qo | apply Kd.qz)); exact HO1040.out))) (Kd.R_lt (by (with_reducible repeat (first | apply Kd.R_alloc | apply Kd.qo | apply Kd.qz)); exact HO1043.out))) (Kd.R_lt (by (with_reducible repeat (first | apply Kd.R_alloc | apply Kd.qo | apply Kd.qz)); exact HO1047.out))) (qA (by repeat (first | (with_reducible first | exact HB.out | apply qg | apply qb | apply qf | refine qd ?_ GE1036.out) | exact HB.out)))); have n8_ := qa.mk (qB (g := gb1036) (o := .cells #[.int .i64 t1028, .slice Ao29 t1029.length co29, .slice (some ad1037) t1032.length co30] 25 (0, 0)) (by (with_reducible repeat (first | refine qi ?_ _ | refine ql ?_ | refine qh ?_ _)); exact BK1036.out) hb); have n9_ := qa.mk (qD (by repeat (first | (with_reducible first | exact HB.out | apply qg | apply qb | apply qf | refine qd ?_ GE1036.out) | exact HB.out)) hb); clear HO1024; clear HO1027; clear HO1031; clear HO1034; clear HO1040; clear HO1043; clear HO1047; clear BK1036; clear HB; have HO1024 := n0_; have HO1027 := n1_; have HO1031 := n2_; have HO1034 := n3_; have HO1040 := n4_; have HO1043 := n5_; have HO1047 := n6_; have HO1050 := n7_; have BK1036 := n8_; have HB := n9_; clear n0_ n1_ n2_ n3_ n4_ n5_ n6_ n7_ n8_ n9_; clear hb ho39; obtain ⟨Ao40, co40, eo40⟩ := Kd.zn HO1047.out; subst eo40; obtain ⟨Ao41, co41, eo41⟩ := Kd.zn HO1050.out; subst eo41) | (go_at_call 24; (with_reducible refine (qE.calls k _ _ t1045 _ _ y1048 true _ ?side1 ?side2 ?side3 ?side4 A10.out).mono ?_); (case side1 => repeat (first | exact (Kd.qH HO1047.out).2.2 | (with_reducible refine Kd.C_alloc ?_ _) | (with_reducible refine Kd.C_drewN ?_ _) | (with_reducible refine Kd.qQ ?_))); (case side2 => exact (Kd.qH HO1047.out).2.1); (case side3 => repeat (first | exact (Kd.qH HO1050.out).2.2 | (with_reducible refine Kd.C_alloc ?_ _) | (with_reducible refine Kd.C_drewN ?_ _) | (with_reducible refine Kd.qQ ?_))); (case side4 => exact (Kd.qH HO1050.out).2.1); rintro e w' ⟨rfl, ⟨nd, rfl⟩⟩; have hcz42_0 : w38.cell? ⟨gb1036, 0, none⟩ = some (.int .i64 t1028) := (qj BK1036.out 0).trans rfl; have hcz42_1 : w38.cell? ⟨gb1036, 1, none⟩ = some (.slice Ao29 t1029.length co29) := (qj BK1036.out 1).trans rfl; have hcz42_2 : w38.cell? ⟨gb1036, 2, none⟩ = some (.slice (some ad1037) t1032.length co30) := (qj BK1036.out 2).trans rfl; have hfz42_0 := qm BK1036.out 0; have hfz42_1 := qm BK1036.out 1; have hfz42_2 := qm BK1036.out 2) | (go_at_call 68; (with_reducible refine (vC.calls k t1028 _ _ t1029 _ _ t1032 0 0 t1052 _ ?side1 ?side2 ?side3 ?side4 A12.out).mono ?_); (case side1 => repeat (first | exact (Kd.qH HO1031.out).2.2 | (with_reducible refine Kd.C_alloc ?_ _) | (with_reducible refine Kd.C_drewN ?_ _) | (with_reducible refine Kd.qQ ?_))); (case side2 => exact (Kd.qH HO1031.out).2.1); (case side3 => repeat (first | exact (Kd.qH HO1034.out).2.2 | (with_reducible refine Kd.C_alloc ?_ _) | (with_reducible refine Kd.C_drewN ?_ _) | (with_reducible refine Kd.qQ ?_))); (case side4 => exact (Kd.qH HO1034.out).2.1); rintro e w43 ⟨v1053, rfl, ho0, hb⟩; have n0_ := qa.mk (Kd.qL (by (with_reducible repeat (first | apply Kd.R_alloc | apply Kd.qo | apply Kd.qz)); exact HO1024.out) hb); have n1_ := qa.mk (Kd.qL (by (with_reducible repeat (first | apply Kd.R_alloc | apply Kd.qo | apply Kd.qz)); exact HO1027.out) hb); have n2_ := qa.mk (Kd.qL (by (with_reducible repeat (first | apply Kd.R_alloc | apply Kd.qo | apply Kd.qz)); exact HO1031.out) hb); have n3_ := qa.mk (Kd.qL (by (with_reducible repeat (first | apply Kd.R_alloc | apply Kd.qo | apply Kd.qz)); exact HO1034.out) hb); have n4_ := qa.mk (Kd.vv (by (with_reducible repeat (first | apply Kd.R_alloc | apply Kd.qo | apply Kd.qz)); exact HO1040.out) (Kd.vE ho0) hb); have n5_ := qa.mk (Kd.vv (by (with_reducible repeat (first | apply Kd.R_alloc | apply Kd.qo | apply Kd.qz)); exact HO1043.out) (Kd.vE ho0) hb); have n6_ := qa.mk (Kd.vv (by (with_reducible repeat (first | apply Kd.R_alloc | apply Kd.qo | apply Kd.qz)); exact HO1047.out) (Kd.vE ho0) hb); have n7_ := qa.mk (Kd.vv (by (with_reducible repeat (first | apply Kd.R_alloc | apply Kd.qo | apply Kd.qz)); exact HO1050.out) (Kd.vE ho0) hb); have n8_ := qa.mk (Kd.vO (Kd.vR (Kd.vR (Kd.vR (Kd.vR ho0 (Kd.R_lt (by (with_reducible repeat (first | apply Kd.R_alloc | apply Kd.qo | apply Kd.qz)); exact HO1040.out))) (Kd.R_lt (by (with_reducible repeat (first | apply Kd.R_alloc | apply Kd.qo | apply Kd.qz)); exact HO1043.out))) (Kd.R_lt (by (with_reducible repeat (first | apply Kd.R_alloc | apply Kd.qo | apply Kd.qz)); exact HO1047.out))) (Kd.R_lt (by (with_reducible repeat (first | apply Kd.R_alloc | apply Kd.qo | apply Kd.qz)); exact HO1050.out))) (qA (by repeat (first | (with_reducible first | exact HB.out | apply qg | apply qb | apply qf | refine qd ?_ GE1036.out) | exact HB.out)))); have n9_ := qa.mk (qB (g := gb1036) (o := .cells #[.int .i64 t1028, .slice Ao29 t1029.length co29, .slice (some ad1037) t1032.length co30] 25 (0, 0)) (by (with_reducible repeat (first | refine qi ?_ _ | refine ql ?_ | refine qh ?_ _)); exact BK1036.out) hb); have n10_ := qa.mk (qD (by repeat (first | (with_reducible first | exact HB.out | apply qg | apply qb | apply qf | refine qd ?_ GE1036.out) | exact HB.out)) hb); clear HO1024; clear HO1027; clear HO1031; clear HO1034; clear HO1040; clear HO1043; clear HO1047; clear HO1050; clear BK1036; clear HB; have HO1024 := n0_; have HO1027 := n1_; have HO1031 := n2_; have HO1034 := n3_; have HO1040 := n4_; have HO1043 := n5_; have HO1047 := n6_; have HO1050 := n7_; have HO1054 := n8_; have BK1036 := n9_; have HB := n10_; clear n0_ n1_ n2_ n3_ n4_ n5_ n6_ n7_ n8_ n9_ n10_; (try clear hb); (try clear hb2); (try clear hk); (try clear hi); (try clear ho0)) | ((with_reducible refine qY (N := 44) rfl ?_); (try (refine zt (by rfl) ?_; dsimp only)); refine Kd.jS (Kd.int .i64) _ 3 ?hg (N := 44) ?hd (xs := ([1] : List Int)) (inner := [.int .i64 1]) (ok := fun _ => True) (okp := fun _ => True) ?hr ?hp (fun _ hk => hk) trivial (Below.refl _ _) (Nat.le_refl _) (by simp) ?_; (case hd => rfl); (case hg => rfl); (case hr => first | (go_simp; done) | (go_simp; rfl)); (case hp => exact (Reps.one (show Kd.M (Kd.int .i64) _ _ _ 1 [.int .i64 1] from rfl) (Reps.none _ _))); intro v1056 w44 ho45 hb hg_ hnew_; clear hg_ hnew_; (first | rw [← Ny1055.out] at ho45 | (simp only [Int.reduceToNat] at ho45; rw [← Ny1055.out] at ho45)); have n0_ := qa.mk (Kd.qL (by (with_reducible repeat (first | apply Kd.R_alloc | apply Kd.qo | apply Kd.qz)); exact HO1024.out) hb); have n1_ := qa.mk (Kd.qL (by (with_reducible repeat (first | apply Kd.R_alloc | apply Kd.qo | apply Kd.qz)); exact HO1027.out) hb); have n2_ := qa.mk (Kd.qL (by (with_reducible repeat (first | apply Kd.R_alloc | apply Kd.qo | apply Kd.qz)); exact HO1031.out) hb); have n3_ := qa.mk (Kd.qL (by (with_reducible repeat (first | apply Kd.R_alloc | apply Kd.qo | apply Kd.qz)); exact HO1034.out) hb); have n4_ := qa.mk (Kd.vv (by (with_reducible repeat (first | apply Kd.R_alloc | apply Kd.qo | apply Kd.qz)); exact HO1040.out) (Kd.vE ho45) hb); have n5_ := qa.mk (Kd.vv (by (with_reducible repeat (first | apply Kd.R_alloc | apply Kd.qo | apply Kd.qz)); exact HO1043.out) (Kd.vE ho45) hb); have n6_ := qa.mk (Kd.vv (by (with_reducible repeat (first | apply Kd.R_alloc | apply Kd.qo | apply Kd.qz)); exact HO1047.out) (Kd.vE ho45) hb); have n7_ := qa.mk (Kd.vv (by (with_reducible repeat (first | apply Kd.R_alloc | apply Kd.qo | apply Kd.qz)); exact HO1050.out) (Kd.vE ho45) hb); have n8_ := qa.mk (Kd.vv (by (with_reducible repeat (first | apply Kd.R_alloc | apply Kd.qo | apply Kd.qz)); exact HO1054.out) (Kd.vE ho45) hb); have n9_ := qa.mk (Kd.vO (Kd.vR (Kd.vR (Kd.vR (Kd.vR (Kd.vR ho45 (Kd.R_lt (by (with_reducible repeat (first | apply Kd.R_alloc | apply Kd.qo | apply Kd.qz)); exact HO1040.out))) (Kd.R_lt (by (with_reducible repeat (first | apply Kd.R_alloc | apply Kd.qo | apply Kd.qz)); exact HO1043.out))) (Kd.R_lt (by (with_reducible repeat (first | apply Kd.R_alloc | apply Kd.qo | apply Kd.qz)); exact HO1047.out))) (Kd.R_lt (by (with_reducible repeat (first | apply Kd.R_alloc | apply Kd.qo | apply Kd.qz)); exact HO1050.out))) (Kd.R_lt (by (with_reducible repeat (first | apply Kd.R_alloc | apply Kd.qo | apply Kd.qz)); exact HO1054.out))) (qA (by repeat (first | (with_reducible first | exact HB.out | apply qg | apply qb | apply qf | refine qd ?_ GE1036.out) | exact HB.out)))); have n10_ := qa.mk (qB (g := gb1036) (o := .cells #[.int .i64 t1028, .slice Ao29 t1029.length co29, .slice (some ad1037) t1032.length co30] 25 (0, 0)) (by (with_reducible repeat (first | refine qi ?_ _ | refine ql ?_ | refine qh ?_ _)); exact BK1036.out) hb); have n11_ := qa.mk (qD (by repeat (first | (with_reducible first | exact HB.out | apply qg | apply qb | apply qf | refine qd ?_ GE1036.out) | exact HB.out)) hb); clear HO1024; clear HO1027; clear HO1031; clear HO1034; clear HO1040; clear HO1043; clear HO1047; clear HO1050; clear HO1054; clear BK1036; clear HB; have HO1024 := n0_; have HO1027 := n1_; have HO1031 := n2_; have HO1034 := n3_; have HO1040 := n4_; have HO1043 := n5_; have HO1047 := n6_; have HO1050 := n7_; have HO1054 := n8_; have HO1057 := n9_; have BK1036 := n10_; have HB := n11_; clear n0_ n1_ n2_ n3_ n4_ n5_ n6_ n7_ n8_ n9_ n10_ n11_; clear hb ho45; obtain ⟨Ao46, co46, eo46⟩ := Kd.zn HO1054.out; subst eo46; obtain ⟨Ao47, co47, eo47⟩ := Kd.zn HO1057.out; subst eo47) | (go_at_call 24; (with_reducible refine (qE.calls k _ _ t1052 _ _ y1055 true _ ?side1 ?side2 ?side3 ?side4 A13.out).mono ?_); (case side1 => repeat (first | exact (Kd.qH HO1054.out).2.2 | (with_reducible refine Kd.C_alloc ?_ _) | (with_reducible refine Kd.C_drewN ?_ _) | (with_reducible refine Kd.qQ ?_))); (case side2 => exact (Kd.qH HO1054.out).2.1); (case side3 => repeat (first | exact (Kd.qH HO1057.out).2.2 | (with_reducible refine Kd.C_alloc ?_ _) | (with_reducible refine Kd.C_drewN ?_ _) | (with_reducible refine Kd.qQ ?_))); (case side4 => exact (Kd.qH HO1057.out).2.1); rintro e w' ⟨rfl, ⟨nd, rfl⟩⟩; have hcz48_0 : w44.cell? ⟨gb1036, 0, none⟩ = some (.int .i64 t1028) := (qj BK1036.out 0).trans rfl; have hcz48_1 : w44.cell? ⟨gb1036, 1, none⟩ = some (.slice Ao29 t1029.length co29) := (qj BK1036.out 1).trans rfl; have hcz48_2 : w44.cell? ⟨gb1036, 2, none⟩ = some (.slice (some ad1037) t1032.length co30) := (qj BK1036.out 2).trans rfl; have hfz48_0 := qm BK1036.out 0; have hfz48_1 := qm BK1036.out 1; have hfz48_2 := qm BK1036.out 2) | (go_at_call 71; (with_reducible refine (qX.calls k t1028 _ _ t1029 _ _ t1032 true _ ?side1 ?side2 ?side3 ?side4 A15.out).mono ?_); (case side1 => repeat (first | exact (Kd.qH HO1031.out).2.2 | (with_reducible refine Kd.C_alloc ?_ _) | (with_reducible refine Kd.C_drewN ?_ _) | (with_reducible refine Kd.qQ ?_))); (case side2 => exact (Kd.qH HO1031.out).2.1); (case side3 => repeat (first | exact (Kd.qH HO1034.out).2.2 | (with_reducible refine Kd.C_alloc ?_ _) | (with_reducible refine Kd.C_drewN ?_ _) | (with_reducible refine Kd.qQ ?_))); (case side4 => exact (Kd.qH HO1034.out).2.1); rintro e w49 ⟨rfl, hb⟩; have n0_ := qa.mk (Kd.qL (by (with_reducible repeat (first | apply Kd.R_alloc | apply Kd.qo | apply Kd.qz)); exact HO1024.out) hb); have n1_ := qa.mk (Kd.qL (by (with_reducible repeat (first | apply Kd.R_alloc | apply Kd.qo | apply Kd.qz)); exact HO1027.out) hb); have n2_ := qa.mk (Kd.qL (by (with_reducible repeat (first | apply Kd.R_alloc | apply Kd.qo | apply Kd.qz)); exact HO1031.out) hb); have n3_ := qa.mk (Kd.qL (by (with_reducible repeat (first | apply Kd.R_alloc | apply Kd.qo | apply Kd.qz)); exact HO1034.out) hb); have n4_ := qa.mk (Kd.qL (by (with_reducible repeat (first | apply Kd.R_alloc | apply Kd.qo | apply Kd.qz)); exact HO1040.out) hb); have n5_ := qa.mk (Kd.qL (by (with_reducible repeat (first | apply Kd.R_alloc | apply Kd.qo | apply Kd.qz)); exact HO1043.out) hb); have n6_ := qa.mk (Kd.qL (by (with_reducible repeat (first | apply Kd.R_alloc | apply Kd.qo | apply Kd.qz)); exact HO1047.out) hb); have n7_ := qa.mk (Kd.qL (by (with_reducible repeat (first | apply Kd.R_alloc | apply Kd.qo | apply Kd.qz)); exact HO1050.out) hb); have n8_ := qa.mk (Kd.qL (by (with_reducible repeat (first | apply Kd.R_alloc | apply Kd.qo | apply Kd.qz)); exact HO1054.out) hb); have n9_ := qa.mk (Kd.qL (by (with_reducible repeat (first | apply Kd.R_alloc | apply Kd.qo | apply Kd.qz)); exact HO1057.out) hb); have n10_ := qa.mk (qB (g := gb1036) (o := .cells #[.int .i64 t1028, .slice Ao29 t1029.length co29, .slice (some ad1037) t1032.length co30] 25 (0, 0)) (by (with_reducible repeat (first | refine qi ?_ _ | refine ql ?_ | refine qh ?_ _)); exact BK1036.out) hb); have n11_ := qa.mk (qD (by repeat (first | (with_reducible first | exact HB.out | apply qg | apply qb | apply qf | refine qd ?_ GE1036.out) | exact HB.out)) hb); clear HO1024; clear HO1027; clear HO1031; clear HO1034; clear HO1040; clear HO1043; clear HO1047; clear HO1050; clear HO1054; clear HO1057; clear BK1036; clear HB; have HO1024 := n0_; have HO1027 := n1_; have HO1031 := n2_; have HO1034 := n3_; have HO1040 := n4_; have HO1043 := n5_; have HO1047 := n6_; have HO1050 := n7_; have HO1054 := n8_; have HO1057 := n9_; have BK1036 := n10_; have HB := n11_; clear n0_ n1_ n2_ n3_ n4_ n5_ n6_ n7_ n8_ n9_ n10_ n11_; (try clear hb); (try clear hb2); (try clear hk); (try clear hi); have hcz50_0 : w49.cell? ⟨gb1036, 0, none⟩ = some (.int .i64 t1028) := (qj BK1036.out 0).trans rfl; have hcz50_1 : w49.cell? ⟨gb1036, 1, none⟩ = some (.slice Ao29 t1029.length co29) := (qj BK1036.out 1).trans rfl; have hcz50_2 : w49.cell? ⟨gb1036, 2, none⟩ = some (.slice (some ad1037) t1032.length co30) := (qj BK1036.out 2).trans rfl; have hfz50_0 := qm BK1036.out 0; have hfz50_1 := qm BK1036.out 1; have hfz50_2 := qm BK1036.out 2) | (go_at_call 70; (with_reducible refine (vN.calls k t1028 _ _ t1029 _ _ t1032 1 t1060 _ ?side1 ?side2 ?side3 ?side4 A17.out).mono ?_); (case side1 => repeat (first | exact (Kd.qH HO1031.out).2.2 | (with_reducible refine Kd.C_alloc ?_ _) | (with_reducible refine Kd.C_drewN ?_ _) | (with_reducible refine Kd.qQ ?_))); (case side2 => exact (Kd.qH HO1031.out).2.1); (case side3 => repeat (first | exact (Kd.qH HO1034.out).2.2 | (with_reducible refine Kd.C_alloc ?_ _) | (with_reducible refine Kd.C_drewN ?_ _) | (with_reducible refine Kd.qQ ?_))); (case side4 => exact (Kd.qH HO1034.out).2.1); rintro e w51 ⟨v1061, rfl, ho0, hb⟩; have n0_ := qa.mk (Kd.qL (by (with_reducible repeat (first | apply Kd.R_alloc | apply Kd.qo | apply Kd.qz)); exact HO1024.out) hb); have n1_ := qa.mk (Kd.vv (by (with_reducible repeat (first | apply Kd.R_alloc | apply Kd.qo | apply Kd.qz)); exact HO1027.out) (Kd.vE ho0) hb); have n2_ := qa.mk (Kd.qL (by (with_reducible repeat (first | apply Kd.R_alloc | apply Kd.qo | apply Kd.qz)); exact HO1031.out) hb); have n3_ := qa.mk (Kd.vv (by (with_reducible repeat (first | apply Kd.R_alloc | apply Kd.qo | apply Kd.qz)); exact HO1034.out) (Kd.vE ho0) hb); have n4_ := qa.mk (Kd.qL (by (with_reducible repeat (first | apply Kd.R_alloc | apply Kd.qo | apply Kd.qz)); exact HO1040.out) hb); have n5_ := qa.mk (Kd.qL (by (with_reducible repeat (first | apply Kd.R_alloc | apply Kd.qo | apply Kd.qz)); exact HO1043.out) hb); have n6_ := qa.mk (Kd.qL (by (with_reducible repeat (first | apply Kd.R_alloc | apply Kd.qo | apply Kd.qz)); exact HO1047.out) hb); have n7_ := qa.mk (Kd.qL (by (with_reducible repeat (first | apply Kd.R_alloc | apply Kd.qo | apply Kd.qz)); exact HO1050.out) hb); have n8_ := qa.mk (Kd.qL (by (with_reducible repeat (first | apply Kd.R_alloc | apply Kd.qo | apply Kd.qz)); exact HO1054.out) hb); have n9_ := qa.mk (Kd.qL (by (with_reducible repeat (first | apply Kd.R_alloc | apply Kd.qo | apply Kd.qz)); exact HO1057.out) hb); have n10_ := qa.mk (Kd.vO (Kd.vR (Kd.vR ho0 (Kd.R_lt (by (with_reducible repeat (first | apply Kd.R_alloc | apply Kd.qo | apply Kd.qz)); exact HO1027.out))) (Kd.R_lt (by (with_reducible repeat (first | apply Kd.R_alloc | apply Kd.qo | apply Kd.qz)); exact HO1034.out))) (qA (by repeat (first | (with_reducible first | exact HB.out | apply qg | apply qb | apply qf | refine qd ?_ GE1036.out) | exact HB.out)))); have n11_ := qa.mk (qB (g := gb1036) (o := .cells #[.int .i64 t1028, .slice Ao29 t1029.length co29, .slice (some ad1037) t1032.length co30] 25 (0, 0)) (by (with_reducible repeat (first | refine qi ?_ _ | refine ql ?_ | refine qh ?_ _)); exact BK1036.out) hb); have n12_ := qa.mk (qD (by repeat (first | (with_reducible first | exact HB.out | apply qg | apply qb | apply qf | refine qd ?_ GE1036.out) | exact HB.out)) hb); clear HO1024; clear HO1027; clear HO1031; clear HO1034; clear HO1040; clear HO1043; clear HO1047; clear HO1050; clear HO1054; clear HO1057; clear BK1036; clear HB; have HO1024 := n0_; have HO1027 := n1_; have HO1031 := n2_; have HO1034 := n3_; have HO1040 := n4_; have HO1043 := n5_; have HO1047 := n6_; have HO1050 := n7_; have HO1054 := n8_; have HO1057 := n9_; have HO1062 := n10_; have BK1036 := n11_; have HB := n12_; clear n0_ n1_ n2_ n3_ n4_ n5_ n6_ n7_ n8_ n9_ n10_ n11_ n12_; (try clear hb); (try clear hb2); (try clear hk); (try clear hi); (try clear ho0); obtain ⟨Ao52, co52, eo52⟩ := Kd.zn HO1062.out; subst eo52) | (go_at_call 67; (refine (qK.calls k 0 _ _ ([] : List ByteArray) _ _ ([] : List (S55)) t1063 _ ?side1 ?side2 ?side3 ?side4 A19.out).mono ?_); (case side1 => exact Kd.kz _ _); (case side2 => exact Nat.le_refl _); (case side3 => exact Kd.kz _ _); (case side4 => exact Nat.le_refl _); rintro e w53 ⟨rfl, hb⟩; have n0_ := qa.mk (Kd.qL (by (with_reducible repeat (first | apply Kd.R_alloc | apply Kd.qo | apply Kd.qz)); exact HO1024.out) hb); have n1_ := qa.mk (Kd.qL (by (with_reducible repeat (first | apply Kd.R_alloc | apply Kd.qo | apply Kd.qz)); exact HO1027.out) hb); have n2_ := qa.mk (Kd.qL (by (with_reducible repeat (first | apply Kd.R_alloc | apply Kd.qo | apply Kd.qz)); exact HO1031.out) hb); have n3_ := qa.mk (Kd.qL (by (with_reducible repeat (first | apply Kd.R_alloc | apply Kd.qo | apply Kd.qz)); exact HO1034.out) hb); have n4_ := qa.mk (Kd.qL (by (with_reducible repeat (first | apply Kd.R_alloc | apply Kd.qo | apply Kd.qz)); exact HO1040.out) hb); have n5_ := qa.mk (Kd.qL (by (with_reducible repeat (first | apply Kd.R_alloc | apply Kd.qo | apply Kd.qz)); exact HO1043.out) hb); have n6_ := qa.mk (Kd.qL (by (with_reducible repeat (first | apply Kd.R_alloc | apply Kd.qo | apply Kd.qz)); exact HO1047.out) hb); have n7_ := qa.mk (Kd.qL (by (with_reducible repeat (first | apply Kd.R_alloc | apply Kd.qo | apply Kd.qz)); exact HO1050.out) hb); have n8_ := qa.mk (Kd.qL (by (with_reducible repeat (first | apply Kd.R_alloc | apply Kd.qo | apply Kd.qz)); exact HO1054.out) hb); have n9_ := qa.mk (Kd.qL (by (with_reducible repeat (first | apply Kd.R_alloc | apply Kd.qo | apply Kd.qz)); exact HO1057.out) hb); have n10_ := qa.mk (Kd.qL (by (with_reducible repeat (first | apply Kd.R_alloc | apply Kd.qo | apply Kd.qz)); exact HO1062.out) hb); have n11_ := qa.mk (qB (g := gb1036) (o := .cells #[.int .i64 t1028, .slice Ao29 t1029.length co29, .slice (some ad1037) t1032.length co30] 25 (0, 0)) (by (with_reducible repeat (first | refine qi ?_ _ | refine ql ?_ | refine qh ?_ _)); exact BK1036.out) hb); have n12_ := qa.mk (qD (by repeat (first | (with_reducible first | exact HB.out | apply qg | apply qb | apply qf | refine qd ?_ GE1036.out) | exact HB.out)) hb); clear HO1024; clear HO1027; clear HO1031; clear HO1034; clear HO1040; clear HO1043; clear HO1047; clear HO1050; clear HO1054; clear HO1057; clear HO1062; clear BK1036; clear HB; have HO1024 := n0_; have HO1027 := n1_; have HO1031 := n2_; have HO1034 := n3_; have HO1040 := n4_; have HO1043 := n5_; have HO1047 := n6_; have HO1050 := n7_; have HO1054 := n8_; have HO1057 := n9_; have HO1062 := n10_; have BK1036 := n11_; have HB := n12_; clear n0_ n1_ n2_ n3_ n4_ n5_ n6_ n7_ n8_ n9_ n10_ n11_ n12_; (try clear hb); (try clear hb2); (try clear hk); (try clear hi)))
          go_ret
          exact ⟨by first | rfl | (simp [errW_none, errW_some] <;> rfl) | (simp [*, errW_none, errW_some] <;> rfl), by repeat (first | (with_reducible first | exact HB.out | apply qg | apply qb | apply qf | refine qd ?_ GE1036.out) | exact HB.out)⟩
         ·rw [if_neg c18] at H
          exact absurd H (by simp)
        ·replace c16 := Bool.eq_false_iff.mpr c16
         subst c16
         have H1 : (none) = some r := by rw [if_neg (show ¬ (false = true) by decide)] at H; exact H
         clear H
         have H := H1
         clear H1
         exact absurd H (by simp)
       ·replace c14 := Bool.eq_false_iff.mpr c14
        subst c14
        have H1 : (none) = some r := by rw [if_neg (show ¬ (false = true) by decide)] at H; exact H
        clear H
        have H := H1
        clear H1
        exact absurd H (by simp)
      ·replace c11 := Bool.eq_false_iff.mpr c11
       subst c11
       have H1 : (none) = some r := by rw [if_neg (show ¬ (false = true) by decide)] at H; exact H
       clear H
       have H := H1
       clear H1
       exact absurd H (by simp)
     ·replace c8 := Bool.eq_false_iff.mpr c8
      subst c8
      have H1 : (none) = some r := by rw [if_neg (show ¬ (false = true) by decide)] at H; exact H
      clear H
      have H := H1
      clear H1
      exact absurd H (by simp)
    ·rw [if_neg c5] at H
     exact absurd H (by simp)
   ·rw [if_neg c4] at H
    exact absurd H (by simp)
  ·rw [if_neg c3] at H
   exact absurd H (by simp)
 ·rw [if_neg c2] at H
  exact absurd H (by simp)
end Go.Proofs.Ytcjbghmhdefdiaa.S
namespace Go.Proofs.Ytcjbghmhdefdiaa.S
open Go.RowKit Go.Proofs.YtcjbghmhdefdiaaW.PrintWords Go.Proofs.YtcjbghmhdefdiaaW.PrintLast Go.Proofs.YtcjbghmhdefdiaaW.PrintMore
set_option linter.unusedVariables false
set_option linter.unusedSimpArgs false
theorem sort26 : zx (wh [(⟨1, 0, 1⟩ : S55), ⟨0, 0, 1⟩, ⟨0, 0, 1⟩]) = [⟨0, 0, 1⟩, ⟨1, 0, 1⟩] := by
 rw [sortE_eq (l' := [⟨0, 0, 1⟩, ⟨0, 0, 1⟩, ⟨1, 0, 1⟩]) (by decide) (by decide)]
 decide
theorem may26 : mayF 3 [(⟨#[97]⟩ : ByteArray)] [⟨0, 0, 1⟩, ⟨1, 0, 1⟩] = true := by
 unfold mayF
 rw [labels_a]
 decide
theorem kG : qK.f 150 3 [(⟨#[97]⟩ : ByteArray)] [⟨0, 0, 1⟩, ⟨1, 0, 1⟩] = some 0 := by rw [jk _ _ _ _ (by omega), may26]; rfl
theorem sorted26 : zh.f 150 3 [(⟨#[97]⟩ : ByteArray)] [⟨1, 0, 1⟩, ⟨0, 0, 1⟩, ⟨0, 0, 1⟩] = some (3, [⟨#[97]⟩], [⟨0, 0, 1⟩, ⟨1, 0, 1⟩], 0) := by
 unfold zh.f
 rw [sort26, kG]
 rfl
theorem QG : qJ.f 150 3 [(⟨#[97]⟩ : ByteArray)] [⟨0, 0, 1⟩, ⟨1, 0, 1⟩] 0 = some [0, 1] := by
 unfold qJ.f
 rw [kG]
 kernel_rfl
theorem pred26 : vH.f 150 3 [(⟨#[97]⟩ : ByteArray)] [⟨0, 0, 1⟩, ⟨1, 0, 1⟩] 1 0 = some [0, 1] := by
 unfold vH.f
 rw [kG]
 kernel_rfl
theorem out26 (i : Int) : vN.f 150 3 [(⟨#[97]⟩ : ByteArray)] [⟨0, 0, 1⟩, ⟨1, 0, 1⟩] i = (zm.f 150 3 [(⟨#[97]⟩ : ByteArray)] [⟨0, 0, 1⟩, ⟨1, 0, 1⟩] i).bind fun t => (zl.f t).bind fun t => some t := by
 unfold vN.f
 rw [kG]
 rfl
theorem succ26 : vC.f 150 3 [(⟨#[97]⟩ : ByteArray)] [⟨0, 0, 1⟩, ⟨1, 0, 1⟩] 0 0 = some [1] := by
 unfold vC.f
 rw [out26]
 kernel_rfl
theorem single26 : qX.f 150 3 [(⟨#[97]⟩ : ByteArray)] [⟨0, 0, 1⟩, ⟨1, 0, 1⟩] = some true := by
 have h : qX.f 150 3 [(⟨#[97]⟩ : ByteArray)] [⟨0, 0, 1⟩, ⟨1, 0, 1⟩] = (qK.f 147 3 [(⟨#[97]⟩ : ByteArray)] [⟨0, 0, 1⟩, ⟨1, 0, 1⟩]).bind fun t => some (t == 0) := by kernel_rfl
 rw [h, jk _ _ _ _ (by omega), may26]
 rfl
theorem one26 : (vN.f 150 3 [(⟨#[97]⟩ : ByteArray)] [⟨0, 0, 1⟩, ⟨1, 0, 1⟩] 1) = some [⟨1, 0, 1⟩] := by
 rw [out26]
 kernel_rfl
theorem check0 : qK.f 150 0 [] [] = some 1 := by rw [jk _ _ _ _ (by omega)]; rfl
theorem same_a : qE.f 150 [0, 1] [0, 1] = some true := by kernel_rfl
theorem same_b : qE.f 150 [1] [1] = some true := by kernel_rfl
theorem awake26 : qO.f 150 = some true := by
 unfold qO.f
 rw [sorted26, Option.bind_some]
 simp only
 rw [QG, pred26, succ26, single26, one26, check0]
 simp only [Option.bind_some]
 rw [same_a, same_b]
 kernel_rfl
theorem Qc : Ev (fun k => qO.f k) true := Ev.Qn (fun k => qO.mono k) awake26
end Go.Proofs.Ytcjbghmhdefdiaa.S
