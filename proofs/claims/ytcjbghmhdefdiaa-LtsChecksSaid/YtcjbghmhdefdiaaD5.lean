/- Part 5 of a proof that a law of the program answers true for every input. -/
import Derived.Test.YtcjbghmhdefdiaaD2
import Derived.Test.YtcjbghmhdefdiaaD3
import Derived.Test.YtcjbghmhdefdiaaD4
set_option linter.unusedSimpArgs false
set_option linter.unusedVariables false
namespace Go.Proofs.Ytcjbghmhdefdiaa.S
open Go.RowKit Go.Proofs.YtcjbghmhdefdiaaW.PrintWords Go.Proofs.YtcjbghmhdefdiaaW.PrintLast Go.Proofs.YtcjbghmhdefdiaaW.PrintMore
attribute [local go_sem] vW vZ zi zk vL vK vY vV
set_option linter.unusedVariables false
set_option linter.unusedSimpArgs false
def qV.l0 : Nat → List ByteArray → List ByteArray → Int → Option (Bool)
 | 0, _, _, _ => none
 | k + 1, x0, x1, x5 => if x5 < (x0.length : Int) then (if 0 ≤ x5 then (if x5 < (x1.length : Int) then (if (rdOf ByteArray.empty x0 x5).toList = (rdOf ByteArray.empty x1 x5).toList then (qV.l0 k x0 x1 (wrap64 (x5 + 1))) else (some false)) else (none)) else (none)) else (some true)
def qV.f (k : Nat) (l0 : List ByteArray) (l1 : List ByteArray) : Option (Bool) := if (l0.length : Int) = (l1.length : Int) then (qV.l0 k l0 l1 0) else (some false)
set_option maxHeartbeats 8000000 in
set_option maxRecDepth 100000 in
theorem qV.calls (k : Nat) (A0 : Option Addr) (c0 : Nat) (l0 : List ByteArray) (A1 : Option Addr) (c1 : Nat) (l1 : List ByteArray) (r : Bool) (w : World) (hr0 : Kd.C Kd.string w A0 l0.length l0) (hc0 : l0.length ≤ c0) (hr1 : Kd.C Kd.string w A1 l1.length l1) (hc1 : l1.length ≤ c1) (h : qV.f k l0 l1 = some r) :
  Calls Try.prog 31 #[.slice A0 l0.length c0, .slice A1 l1.length c1] w fun e w' => e = .returned (.bool r) ∧ ve w w' := by
 have HR0 := qa.mk hr0
 have HC0 := qa.mk hc0
 clear hr0 hc0
 have HR1 := qa.mk hr1
 have HC1 := qa.mk hc1
 clear hr1 hc1
 have H : (if (l0.length : Int) = (l1.length : Int) then (qV.l0 k l0 l1 0) else (some false)) = some r := h
 clear h
 by_cases c3 : (l0.length : Int) = (l1.length : Int)
 ·rw [if_pos c3] at H
  have c3b0 : ((l0.length : Int) == (l1.length : Int)) = true := beq_iff_eq.mpr c3
  have c3b1 : ((l0.length : Int) != (l1.length : Int)) = false := bne_eq_false_iff_eq.mpr c3
  have c3b2 : (l0.length == l1.length) = true := by first | simpa using c3 | (simp at c3 ⊢; omega)
  clear c3
  have H' := qa.mk H
  clear H
  go_enter Try.func31, Try.ntmps31
  go_wp2
  repeat (go_quiet (fail); try go_wp2)
  go_loopg [5] k (fun kq v5 w' => ∃ (x5_1 : Int), v5 = .int .i64 x5_1 ∧ qa (qV.l0 kq l0 l1 x5_1 = some r) ∧ qa (kq ≤ k) ∧ ve w w')
  case atStart => exact ⟨(0), (by first | rfl | (simp; done) | (simp [*]; done)), H', ⟨Nat.le_refl _⟩, by repeat (first | exact ve.refl _ | apply ve.step)⟩
  case round =>
   clear H'
   try clear c1
   try clear p2
   try clear c3
   try clear c3b0
   try clear c3b1
   try clear c3b2
   obtain ⟨x5_1, rfl, HA, HK1, ⟨m1, rfl⟩⟩ := hrel
   cases gk with
   | zero => exact absurd HA.out (by simp [qV.l0])
   | succ k1 =>
    have H := HA.out
    clear HA
    simp only [qV.l0] at H
    by_cases c4 : x5_1 < (l0.length : Int)
    ·rw [if_pos c4] at H
     have c4b0 : decide (x5_1 < (l0.length : Int)) = true := decide_eq_true c4
     clear c4
     by_cases c5 : 0 ≤ x5_1
     ·rw [if_pos c5] at H
      have c5b0 : decide (0 ≤ x5_1) = true := decide_eq_true c5
      clear c5
      by_cases c6 : x5_1 < (l1.length : Int)
      ·rw [if_pos c6] at H
       have c6b0 : decide (x5_1 < (l1.length : Int)) = true := decide_eq_true c6
       clear c6
       by_cases c7 : (rdOf ByteArray.empty l0 x5_1).toList = (rdOf ByteArray.empty l1 x5_1).toList
       ·rw [if_pos c7] at H
        have c7b0 : ((rdOf ByteArray.empty l0 x5_1).toList == (rdOf ByteArray.empty l1 x5_1).toList) = true := beq_iff_eq.mpr c7
        have c7b1 : ((rdOf ByteArray.empty l0 x5_1).toList != (rdOf ByteArray.empty l1 x5_1).toList) = false := bne_eq_false_iff_eq.mpr c7
        clear c7
        have H' := qa.mk H
        clear H
        have p345 : 0 ≤ (x5_1 : Int) := of_decide_eq_true (by first | (with_reducible assumption) | assumption)
        have q345 : x5_1 < (l0.length : Int) := of_decide_eq_true (by first | (with_reducible assumption) | assumption)
        obtain ⟨ad345, e345, hx345_0⟩ := Kd.zy HR0.out x5_1 p345 q345
        cases e345
        replace p345 := eq_true p345
        replace q345 := eq_true q345
        have p346 : 0 ≤ (x5_1 : Int) := of_decide_eq_true (by first | (with_reducible assumption) | assumption)
        have q346 : x5_1 < (l1.length : Int) := of_decide_eq_true (by first | (with_reducible assumption) | assumption)
        obtain ⟨ad346, e346, hx346_0⟩ := Kd.zy HR1.out x5_1 p346 q346
        cases e346
        replace p346 := eq_true p346
        replace q346 := eq_true q346
        go_wp2
        repeat (go_quiet (fail); try go_wp2)
        go_roundg k1
        case measure => have := HK1.out; omega
        case rel => exact ⟨(wrap64 (x5_1 + 1)), (by first | rfl | (simp; done) | (simp [*]; done)), H', ⟨by have := HK1.out; omega⟩, by repeat (first | exact ve.refl _ | apply ve.step)⟩
       ·rw [if_neg c7] at H
        have c7b0 : ((rdOf ByteArray.empty l0 x5_1).toList == (rdOf ByteArray.empty l1 x5_1).toList) = false := beq_eq_false_iff_ne.mpr c7
        have c7b1 : ((rdOf ByteArray.empty l0 x5_1).toList != (rdOf ByteArray.empty l1 x5_1).toList) = true := bne_iff_ne.mpr c7
        obtain rfl := Option.some.inj H
        have p345 : 0 ≤ (x5_1 : Int) := of_decide_eq_true (by first | (with_reducible assumption) | assumption)
        have q345 : x5_1 < (l0.length : Int) := of_decide_eq_true (by first | (with_reducible assumption) | assumption)
        obtain ⟨ad345, e345, hx345_0⟩ := Kd.zy HR0.out x5_1 p345 q345
        cases e345
        replace p345 := eq_true p345
        replace q345 := eq_true q345
        have p346 : 0 ≤ (x5_1 : Int) := of_decide_eq_true (by first | (with_reducible assumption) | assumption)
        have q346 : x5_1 < (l1.length : Int) := of_decide_eq_true (by first | (with_reducible assumption) | assumption)
        obtain ⟨ad346, e346, hx346_0⟩ := Kd.zy HR1.out x5_1 p346 q346
        cases e346
        replace p346 := eq_true p346
        replace q346 := eq_true q346
        go_wp2
        repeat (go_quiet (fail); try go_wp2)
        go_ret
        exact ⟨by first | rfl | (simp; done) | (simp [*]; done), by repeat (first | exact ve.refl _ | apply ve.step)⟩
      ·rw [if_neg c6] at H
       exact absurd H (by simp)
     ·rw [if_neg c5] at H
      exact absurd H (by simp)
    ·rw [if_neg c4] at H
     have c4b0 : decide (x5_1 < (l0.length : Int)) = false := decide_eq_false c4
     clear c4
     obtain rfl := Option.some.inj H
     go_wp2
     repeat (go_quiet (fail); try go_wp2)
     go_ret
     exact ⟨by first | rfl | (simp; done) | (simp [*]; done), by repeat (first | exact ve.refl _ | apply ve.step)⟩
 ·rw [if_neg c3] at H
  have c3b0 : ((l0.length : Int) == (l1.length : Int)) = false := beq_eq_false_iff_ne.mpr c3
  have c3b1 : ((l0.length : Int) != (l1.length : Int)) = true := bne_iff_ne.mpr c3
  have c3b2 : (l0.length == l1.length) = false := by first | simpa using c3 | (simp at c3 ⊢; omega)
  obtain rfl := Option.some.inj H
  go_enter Try.func31, Try.ntmps31
  go_wp2
  repeat (go_quiet (fail); try go_wp2)
  go_ret
  exact ⟨by first | rfl | (simp; done) | (simp [*]; done), by repeat (first | exact ve.refl _ | apply ve.step)⟩
attribute [local go_sem] vW vZ zi zk vL vK vY vV
set_option linter.unusedVariables false
set_option linter.unusedSimpArgs false
attribute [local go_sem high] eqA55
mutual
def qI.j0 : Nat → Bool → Int → List ByteArray → List (S55) → Int → List ByteArray → List (S55) → Option (Bool)
 | 0, _, _, _, _, _, _, _ => none
 | k + 1, x27, x672000, x672001, x672002, x673000, x673001, x673002 => if x27 = true then (some false) else (qI.l0 k 0 x672000 x672001 x672002 x673000 x673001 x673002)
def qI.l0 : Nat → Int → Int → List ByteArray → List (S55) → Int → List ByteArray → List (S55) → Option (Bool)
 | 0, _, _, _, _, _, _, _ => none
 | k + 1, x5, x672000, x672001, x672002, x673000, x673001, x673002 => if x5 < (x672002.length : Int) then (if 0 ≤ x5 then (if x5 < (x673002.length : Int) then (if (!(((qc x672002 x5).f0) == ((qc x673002 x5).f0)) || (!(((qc x672002 x5).f1) == ((qc x673002 x5).f1)) || (!(((qc x672002 x5).f2) == ((qc x673002 x5).f2))))) = true then (some false) else (qI.l0 k (wrap64 (x5 + 1)) x672000 x672001 x672002 x673000 x673001 x673002)) else (none)) else (none)) else (some true)
end
def qI.f (k : Nat) (a0_0 : Int) (l0_1 : List ByteArray) (l0_2 : List (S55)) (a1_0 : Int) (l1_1 : List ByteArray) (l1_2 : List (S55)) : Option (Bool) := if a0_0 = a1_0 then ((qV.f k l0_1 l1_1).bind fun t673 => (if t673 = true then (qI.j0 k ((l0_2.length : Int) != (l1_2.length : Int)) a0_0 l0_1 l0_2 a1_0 l1_1 l1_2) else (qI.j0 k true a0_0 l0_1 l0_2 a1_0 l1_1 l1_2))) else (qI.j0 k true a0_0 l0_1 l0_2 a1_0 l1_1 l1_2)
set_option maxHeartbeats 8000000 in
set_option maxRecDepth 100000 in
theorem qI.calls (k : Nat) (a0_0 : Int) (A0_1 : Option Addr) (c0_1 : Nat) (l0_1 : List ByteArray) (A0_2 : Option Addr) (c0_2 : Nat) (l0_2 : List (S55)) (a1_0 : Int) (A1_1 : Option Addr) (c1_1 : Nat) (l1_1 : List ByteArray) (A1_2 : Option Addr) (c1_2 : Nat) (l1_2 : List (S55)) (r : Bool) (w : World) (hr0_1 : Kd.C Kd.string w A0_1 l0_1.length l0_1) (hc0_1 : l0_1.length ≤ c0_1) (hr0_2 : Kd.C k55 w A0_2 l0_2.length l0_2) (hc0_2 : l0_2.length ≤ c0_2) (hr1_1 : Kd.C Kd.string w A1_1 l1_1.length l1_1) (hc1_1 : l1_1.length ≤ c1_1) (hr1_2 : Kd.C k55 w A1_2 l1_2.length l1_2) (hc1_2 : l1_2.length ≤ c1_2) (h : qI.f k a0_0 l0_1 l0_2 a1_0 l1_1 l1_2 = some r) :
  Calls Try.prog 56 #[.agg #[.int .i64 a0_0, .slice A0_1 l0_1.length c0_1, .slice A0_2 l0_2.length c0_2], .agg #[.int .i64 a1_0, .slice A1_1 l1_1.length c1_1, .slice A1_2 l1_2.length c1_2]] w fun e w' => e = .returned (.bool r) ∧ Below w.heap.size w w' := by
 have hu25 := Try.underlying25
 have hu55 := Try.underlying55
 have HR0_1 := qa.mk hr0_1
 have HC0_1 := qa.mk hc0_1
 clear hr0_1 hc0_1
 have HR0_2 := qa.mk hr0_2
 have HC0_2 := qa.mk hc0_2
 clear hr0_2 hc0_2
 have HR1_1 := qa.mk hr1_1
 have HC1_1 := qa.mk hc1_1
 clear hr1_1 hc1_1
 have HR1_2 := qa.mk hr1_2
 have HC1_2 := qa.mk hc1_2
 clear hr1_2 hc1_2
 have HB := qa.mk (Below.refl w.heap.size w)
 have H : (if a0_0 = a1_0 then ((qV.f k l0_1 l1_1).bind fun t673 => (if t673 = true then (qI.j0 k ((l0_2.length : Int) != (l1_2.length : Int)) a0_0 l0_1 l0_2 a1_0 l1_1 l1_2) else (qI.j0 k true a0_0 l0_1 l0_2 a1_0 l1_1 l1_2))) else (qI.j0 k true a0_0 l0_1 l0_2 a1_0 l1_1 l1_2)) = some r := h
 clear h
 have HC3 := qa.mk H
 clear H
 go_enter Try.func56, Try.ntmps56
 go_upto_region 1 with (first | ((with_reducible refine qY (N := 2) rfl ?_); (try (refine zt (by rfl) ?_; dsimp only)); refine qZ ?hg (N := 2) ?hd (cs := #[.int .i64 a0_0, .slice A0_1 l0_1.length c0_1, .slice A0_2 l0_2.length c0_2]) (t := 25) ?hr ?_; (case hd => rfl); (case hg => rfl); (case hr => first | (go_simp; done) | (go_simp; rfl)); intro gb671 hg w4 hbox hb; have n0_ := qa.mk (qD (by repeat (first | (with_reducible first | exact HB.out | apply qg | apply qb | apply qf) | exact HB.out)) hb); have n1_ := qa.mk (hbox); have n2_ := qa.mk ((by rw [hg]; exact (qA (by repeat (first | (with_reducible first | exact HB.out | apply qg | apply qb | apply qf) | exact HB.out))) : w.heap.size ≤ gb671)); have n3_ := qa.mk ((by rw [hg]; exact (qA (by repeat (first | (with_reducible first | exact HB.out | apply qg | apply qb | apply qf) | exact HB.out))) : w.heap.size ≤ gb671)); clear HB; have HB := n0_; have BK671 := n1_; have GW671 := n2_; have GE671 := n3_; clear n0_ n1_ n2_ n3_; clear hb hbox hg) | ((with_reducible refine qY (N := 3) rfl ?_); (try (refine zt (by rfl) ?_; dsimp only)); refine qZ ?hg (N := 3) ?hd (cs := #[.int .i64 a1_0, .slice A1_1 l1_1.length c1_1, .slice A1_2 l1_2.length c1_2]) (t := 25) ?hr ?_; (case hd => rfl); (case hg => rfl); (case hr => first | (go_simp; done) | (go_simp; rfl)); intro gb672 hg w5 hbox hb; have n0_ := qa.mk (qB (g := gb671) (o := .cells #[.int .i64 a0_0, .slice A0_1 l0_1.length c0_1, .slice A0_2 l0_2.length c0_2] 25 (0, 0)) (by (with_reducible repeat (first | refine qi ?_ _ | refine ql ?_ | refine qh ?_ _)); exact BK671.out) hb); have n1_ := qa.mk (qD (by repeat (first | (with_reducible first | exact HB.out | apply qg | apply qb | apply qf | refine qd ?_ GE671.out) | exact HB.out)) hb); have n2_ := qa.mk (hbox); have n3_ := qa.mk ((by rw [hg]; exact (qA (by repeat (first | (with_reducible first | exact HB.out | apply qg | apply qb | apply qf | refine qd ?_ GE671.out) | exact HB.out))) : w.heap.size ≤ gb672)); have n4_ := qa.mk ((by rw [hg]; exact (qA (by repeat (first | (with_reducible first | exact HB.out | apply qg | apply qb | apply qf | refine qd ?_ GE671.out) | exact HB.out))) : w.heap.size ≤ gb672)); have n5_ := qa.mk ((by rw [hg]; exact Nat.ne_of_lt (vz (g := gb671) (o := .cells #[.int .i64 a0_0, .slice A0_1 l0_1.length c0_1, .slice A0_2 l0_2.length c0_2] 25 (0, 0)) (by (with_reducible repeat (first | refine qi ?_ _ | refine ql ?_ | refine qh ?_ _)); exact BK671.out)) : gb671 ≠ gb672)); have n6_ := qa.mk ((by rw [hg]; exact Nat.ne_of_gt (vz (g := gb671) (o := .cells #[.int .i64 a0_0, .slice A0_1 l0_1.length c0_1, .slice A0_2 l0_2.length c0_2] 25 (0, 0)) (by (with_reducible repeat (first | refine qi ?_ _ | refine ql ?_ | refine qh ?_ _)); exact BK671.out)) : gb672 ≠ gb671)); clear BK671; clear HB; have BK671 := n0_; have HB := n1_; have BK672 := n2_; have GW672 := n3_; have GE672 := n4_; have NB671_672 := n5_; have NB672_671 := n6_; clear n0_ n1_ n2_ n3_ n4_ n5_ n6_; clear hb hbox hg))
 repeat (go_quiet (first | ((with_reducible refine qY (N := 2) rfl ?_); (try (refine zt (by rfl) ?_; dsimp only)); refine qZ ?hg (N := 2) ?hd (cs := #[.int .i64 a0_0, .slice A0_1 l0_1.length c0_1, .slice A0_2 l0_2.length c0_2]) (t := 25) ?hr ?_; (case hd => rfl); (case hg => rfl); (case hr => first | (go_simp; done) | (go_simp; rfl)); intro gb671 hg w4 hbox hb; have n0_ := qa.mk (qD (by repeat (first | (with_reducible first | exact HB.out | apply qg | apply qb | apply qf) | exact HB.out)) hb); have n1_ := qa.mk (hbox); have n2_ := qa.mk ((by rw [hg]; exact (qA (by repeat (first | (with_reducible first | exact HB.out | apply qg | apply qb | apply qf) | exact HB.out))) : w.heap.size ≤ gb671)); have n3_ := qa.mk ((by rw [hg]; exact (qA (by repeat (first | (with_reducible first | exact HB.out | apply qg | apply qb | apply qf) | exact HB.out))) : w.heap.size ≤ gb671)); clear HB; have HB := n0_; have BK671 := n1_; have GW671 := n2_; have GE671 := n3_; clear n0_ n1_ n2_ n3_; clear hb hbox hg) | ((with_reducible refine qY (N := 3) rfl ?_); (try (refine zt (by rfl) ?_; dsimp only)); refine qZ ?hg (N := 3) ?hd (cs := #[.int .i64 a1_0, .slice A1_1 l1_1.length c1_1, .slice A1_2 l1_2.length c1_2]) (t := 25) ?hr ?_; (case hd => rfl); (case hg => rfl); (case hr => first | (go_simp; done) | (go_simp; rfl)); intro gb672 hg w5 hbox hb; have n0_ := qa.mk (qB (g := gb671) (o := .cells #[.int .i64 a0_0, .slice A0_1 l0_1.length c0_1, .slice A0_2 l0_2.length c0_2] 25 (0, 0)) (by (with_reducible repeat (first | refine qi ?_ _ | refine ql ?_ | refine qh ?_ _)); exact BK671.out) hb); have n1_ := qa.mk (qD (by repeat (first | (with_reducible first | exact HB.out | apply qg | apply qb | apply qf | refine qd ?_ GE671.out) | exact HB.out)) hb); have n2_ := qa.mk (hbox); have n3_ := qa.mk ((by rw [hg]; exact (qA (by repeat (first | (with_reducible first | exact HB.out | apply qg | apply qb | apply qf | refine qd ?_ GE671.out) | exact HB.out))) : w.heap.size ≤ gb672)); have n4_ := qa.mk ((by rw [hg]; exact (qA (by repeat (first | (with_reducible first | exact HB.out | apply qg | apply qb | apply qf | refine qd ?_ GE671.out) | exact HB.out))) : w.heap.size ≤ gb672)); have n5_ := qa.mk ((by rw [hg]; exact Nat.ne_of_lt (vz (g := gb671) (o := .cells #[.int .i64 a0_0, .slice A0_1 l0_1.length c0_1, .slice A0_2 l0_2.length c0_2] 25 (0, 0)) (by (with_reducible repeat (first | refine qi ?_ _ | refine ql ?_ | refine qh ?_ _)); exact BK671.out)) : gb671 ≠ gb672)); have n6_ := qa.mk ((by rw [hg]; exact Nat.ne_of_gt (vz (g := gb671) (o := .cells #[.int .i64 a0_0, .slice A0_1 l0_1.length c0_1, .slice A0_2 l0_2.length c0_2] 25 (0, 0)) (by (with_reducible repeat (first | refine qi ?_ _ | refine ql ?_ | refine qh ?_ _)); exact BK671.out)) : gb672 ≠ gb671)); clear BK671; clear HB; have BK671 := n0_; have HB := n1_; have BK672 := n2_; have GW672 := n3_; have GE672 := n4_; have NB671_672 := n5_; have NB672_671 := n6_; clear n0_ n1_ n2_ n3_ n4_ n5_ n6_; clear hb hbox hg)); go_upto_region 1 with (first | ((with_reducible refine qY (N := 2) rfl ?_); (try (refine zt (by rfl) ?_; dsimp only)); refine qZ ?hg (N := 2) ?hd (cs := #[.int .i64 a0_0, .slice A0_1 l0_1.length c0_1, .slice A0_2 l0_2.length c0_2]) (t := 25) ?hr ?_; (case hd => rfl); (case hg => rfl); (case hr => first | (go_simp; done) | (go_simp; rfl)); intro gb671 hg w4 hbox hb; have n0_ := qa.mk (qD (by repeat (first | (with_reducible first | exact HB.out | apply qg | apply qb | apply qf) | exact HB.out)) hb); have n1_ := qa.mk (hbox); have n2_ := qa.mk ((by rw [hg]; exact (qA (by repeat (first | (with_reducible first | exact HB.out | apply qg | apply qb | apply qf) | exact HB.out))) : w.heap.size ≤ gb671)); have n3_ := qa.mk ((by rw [hg]; exact (qA (by repeat (first | (with_reducible first | exact HB.out | apply qg | apply qb | apply qf) | exact HB.out))) : w.heap.size ≤ gb671)); clear HB; have HB := n0_; have BK671 := n1_; have GW671 := n2_; have GE671 := n3_; clear n0_ n1_ n2_ n3_; clear hb hbox hg) | ((with_reducible refine qY (N := 3) rfl ?_); (try (refine zt (by rfl) ?_; dsimp only)); refine qZ ?hg (N := 3) ?hd (cs := #[.int .i64 a1_0, .slice A1_1 l1_1.length c1_1, .slice A1_2 l1_2.length c1_2]) (t := 25) ?hr ?_; (case hd => rfl); (case hg => rfl); (case hr => first | (go_simp; done) | (go_simp; rfl)); intro gb672 hg w5 hbox hb; have n0_ := qa.mk (qB (g := gb671) (o := .cells #[.int .i64 a0_0, .slice A0_1 l0_1.length c0_1, .slice A0_2 l0_2.length c0_2] 25 (0, 0)) (by (with_reducible repeat (first | refine qi ?_ _ | refine ql ?_ | refine qh ?_ _)); exact BK671.out) hb); have n1_ := qa.mk (qD (by repeat (first | (with_reducible first | exact HB.out | apply qg | apply qb | apply qf | refine qd ?_ GE671.out) | exact HB.out)) hb); have n2_ := qa.mk (hbox); have n3_ := qa.mk ((by rw [hg]; exact (qA (by repeat (first | (with_reducible first | exact HB.out | apply qg | apply qb | apply qf | refine qd ?_ GE671.out) | exact HB.out))) : w.heap.size ≤ gb672)); have n4_ := qa.mk ((by rw [hg]; exact (qA (by repeat (first | (with_reducible first | exact HB.out | apply qg | apply qb | apply qf | refine qd ?_ GE671.out) | exact HB.out))) : w.heap.size ≤ gb672)); have n5_ := qa.mk ((by rw [hg]; exact Nat.ne_of_lt (vz (g := gb671) (o := .cells #[.int .i64 a0_0, .slice A0_1 l0_1.length c0_1, .slice A0_2 l0_2.length c0_2] 25 (0, 0)) (by (with_reducible repeat (first | refine qi ?_ _ | refine ql ?_ | refine qh ?_ _)); exact BK671.out)) : gb671 ≠ gb672)); have n6_ := qa.mk ((by rw [hg]; exact Nat.ne_of_gt (vz (g := gb671) (o := .cells #[.int .i64 a0_0, .slice A0_1 l0_1.length c0_1, .slice A0_2 l0_2.length c0_2] 25 (0, 0)) (by (with_reducible repeat (first | refine qi ?_ _ | refine ql ?_ | refine qh ?_ _)); exact BK671.out)) : gb672 ≠ gb671)); clear BK671; clear HB; have BK671 := n0_; have HB := n1_; have BK672 := n2_; have GW672 := n3_; have GE672 := n4_; have NB671_672 := n5_; have NB672_671 := n6_; clear n0_ n1_ n2_ n3_ n4_ n5_ n6_; clear hb hbox hg)))
 (try simp only [Act.put, List.setIfInBounds_toArray, List.set_cons_zero, List.set_cons_succ])
 go_cut [27] (fun v27 wc => ∃ (kq : Nat) (x27_2 : Bool), v27 = .bool x27_2 ∧ qa (qI.j0 kq x27_2 a0_0 l0_1 l0_2 a1_0 l1_1 l1_2 = some r) ∧ qa (kq ≤ k) ∧ qa (wc.heap[gb671]? = some (.cells #[.int .i64 a0_0, (.slice A0_1 l0_1.length c0_1), (.slice A0_2 l0_2.length c0_2)] 25 (0, 0))) ∧ qa (wc.heap[gb672]? = some (.cells #[.int .i64 a1_0, (.slice A1_1 l1_1.length c1_1), (.slice A1_2 l1_2.length c1_2)] 25 (0, 0))) ∧ qa (Below w.heap.size w wc))
 case first =>
  have H := HC3.out
  clear HC3
  by_cases c6 : a0_0 = a1_0
  ·rw [if_pos c6] at H
   have c6b0 : (a0_0 == a1_0) = true := beq_iff_eq.mpr c6
   have c6b1 : (a0_0 != a1_0) = false := bne_eq_false_iff_eq.mpr c6
   clear c6
   (first | rw [c6b0] | (simp only [qw, qx]; rw [c6b0]) | skip)
   replace H := Option.bind_eq_some_iff.mp H
   obtain ⟨t673, A70, H⟩ := H
   replace H : (if t673 = true then (qI.j0 k ((l0_2.length : Int) != (l1_2.length : Int)) a0_0 l0_1 l0_2 a1_0 l1_1 l1_2) else (qI.j0 k true a0_0 l0_1 l0_2 a1_0 l1_1 l1_2)) = some r := H
   have A7 := qa.mk A70
   clear A70
   by_cases c8 : t673 = true
   ·subst c8
    have H1 : (qI.j0 k ((l0_2.length : Int) != (l1_2.length : Int)) a0_0 l0_1 l0_2 a1_0 l1_1 l1_2) = some r := by rw [if_pos rfl] at H; exact H
    clear H
    have H := H1
    clear H1
    have H' := qa.mk H
    clear H
    have hnb9 := NB671_672.out
    have hnc9 := NB672_671.out
    have hcz10_0 : w5.cell? ⟨gb671, 0, none⟩ = some (.int .i64 a0_0) := (qj BK671.out 0).trans rfl
    have hcz10_1 : w5.cell? ⟨gb671, 1, none⟩ = some (.slice A0_1 l0_1.length c0_1) := (qj BK671.out 1).trans rfl
    have hcz10_2 : w5.cell? ⟨gb671, 2, none⟩ = some (.slice A0_2 l0_2.length c0_2) := (qj BK671.out 2).trans rfl
    have hfz10_0 := qm BK671.out 0
    have hfz10_1 := qm BK671.out 1
    have hfz10_2 := qm BK671.out 2
    have hcz11_0 : w5.cell? ⟨gb672, 0, none⟩ = some (.int .i64 a1_0) := (qj BK672.out 0).trans rfl
    have hcz11_1 : w5.cell? ⟨gb672, 1, none⟩ = some (.slice A1_1 l1_1.length c1_1) := (qj BK672.out 1).trans rfl
    have hcz11_2 : w5.cell? ⟨gb672, 2, none⟩ = some (.slice A1_2 l1_2.length c1_2) := (qj BK672.out 2).trans rfl
    have hfz11_0 := qm BK672.out 0
    have hfz11_1 := qm BK672.out 1
    have hfz11_2 := qm BK672.out 2
    go_wp2_with (first | (go_at_call 31; (with_reducible refine (qV.calls k _ _ l0_1 _ _ l1_1 true _ ?side1 ?side2 ?side3 ?side4 A7.out).mono ?_); (case side1 => repeat (first | exact (Kd.qU HR0_1.out HB.out) | (with_reducible refine Kd.C_alloc ?_ _) | (with_reducible refine Kd.C_drewN ?_ _) | (with_reducible refine Kd.qQ ?_))); (case side2 => exact HC0_1.out); (case side3 => repeat (first | exact (Kd.qU HR1_1.out HB.out) | (with_reducible refine Kd.C_alloc ?_ _) | (with_reducible refine Kd.C_drewN ?_ _) | (with_reducible refine Kd.qQ ?_))); (case side4 => exact HC1_1.out); rintro e w' ⟨rfl, ⟨nd, rfl⟩⟩; (try first | exact ⟨rfl, _, World.drewN_drewN _ _ _⟩ | exact ⟨rfl, _, Eq.trans (World.drewN_drewN _ _ _) (congrArg (World.drewN _) (Nat.add_assoc _ _ _))⟩)))
    repeat (go_quiet (first | (go_at_call 31; (with_reducible refine (qV.calls k _ _ l0_1 _ _ l1_1 true _ ?side1 ?side2 ?side3 ?side4 A7.out).mono ?_); (case side1 => repeat (first | exact (Kd.qU HR0_1.out HB.out) | (with_reducible refine Kd.C_alloc ?_ _) | (with_reducible refine Kd.C_drewN ?_ _) | (with_reducible refine Kd.qQ ?_))); (case side2 => exact HC0_1.out); (case side3 => repeat (first | exact (Kd.qU HR1_1.out HB.out) | (with_reducible refine Kd.C_alloc ?_ _) | (with_reducible refine Kd.C_drewN ?_ _) | (with_reducible refine Kd.qQ ?_))); (case side4 => exact HC1_1.out); rintro e w' ⟨rfl, ⟨nd, rfl⟩⟩; (try first | exact ⟨rfl, _, World.drewN_drewN _ _ _⟩ | exact ⟨rfl, _, Eq.trans (World.drewN_drewN _ _ _) (congrArg (World.drewN _) (Nat.add_assoc _ _ _))⟩))); try go_wp2_with (first | (go_at_call 31; (with_reducible refine (qV.calls k _ _ l0_1 _ _ l1_1 true _ ?side1 ?side2 ?side3 ?side4 A7.out).mono ?_); (case side1 => repeat (first | exact (Kd.qU HR0_1.out HB.out) | (with_reducible refine Kd.C_alloc ?_ _) | (with_reducible refine Kd.C_drewN ?_ _) | (with_reducible refine Kd.qQ ?_))); (case side2 => exact HC0_1.out); (case side3 => repeat (first | exact (Kd.qU HR1_1.out HB.out) | (with_reducible refine Kd.C_alloc ?_ _) | (with_reducible refine Kd.C_drewN ?_ _) | (with_reducible refine Kd.qQ ?_))); (case side4 => exact HC1_1.out); rintro e w' ⟨rfl, ⟨nd, rfl⟩⟩; (try first | exact ⟨rfl, _, World.drewN_drewN _ _ _⟩ | exact ⟨rfl, _, Eq.trans (World.drewN_drewN _ _ _) (congrArg (World.drewN _) (Nat.add_assoc _ _ _))⟩))))
    go_meet
    case rel => exact ⟨_, (((l0_2.length : Int) != (l1_2.length : Int))), (by first | rfl | (simp; done) | (simp [*]; done)), H', ⟨by first | omega | exact Nat.le_refl _⟩, ⟨by (with_reducible repeat (first | refine qi ?_ _ | refine ql ?_ | refine qh ?_ _)); exact BK671.out⟩, ⟨by (with_reducible repeat (first | refine qi ?_ _ | refine ql ?_ | refine qh ?_ _)); exact BK672.out⟩, ⟨by repeat (first | (with_reducible first | exact HB.out | apply qg | apply qb | apply qf | refine qd ?_ GE671.out | refine qd ?_ GE672.out) | exact HB.out)⟩⟩
   ·replace c8 := Bool.eq_false_iff.mpr c8
    subst c8
    have H1 : (qI.j0 k true a0_0 l0_1 l0_2 a1_0 l1_1 l1_2) = some r := by rw [if_neg (show ¬ (false = true) by decide)] at H; exact H
    clear H
    have H := H1
    clear H1
    have H' := qa.mk H
    clear H
    have hnb12 := NB671_672.out
    have hnc12 := NB672_671.out
    have hcz13_0 : w5.cell? ⟨gb671, 0, none⟩ = some (.int .i64 a0_0) := (qj BK671.out 0).trans rfl
    have hcz13_1 : w5.cell? ⟨gb671, 1, none⟩ = some (.slice A0_1 l0_1.length c0_1) := (qj BK671.out 1).trans rfl
    have hcz13_2 : w5.cell? ⟨gb671, 2, none⟩ = some (.slice A0_2 l0_2.length c0_2) := (qj BK671.out 2).trans rfl
    have hfz13_0 := qm BK671.out 0
    have hfz13_1 := qm BK671.out 1
    have hfz13_2 := qm BK671.out 2
    have hcz14_0 : w5.cell? ⟨gb672, 0, none⟩ = some (.int .i64 a1_0) := (qj BK672.out 0).trans rfl
    have hcz14_1 : w5.cell? ⟨gb672, 1, none⟩ = some (.slice A1_1 l1_1.length c1_1) := (qj BK672.out 1).trans rfl
    have hcz14_2 : w5.cell? ⟨gb672, 2, none⟩ = some (.slice A1_2 l1_2.length c1_2) := (qj BK672.out 2).trans rfl
    have hfz14_0 := qm BK672.out 0
    have hfz14_1 := qm BK672.out 1
    have hfz14_2 := qm BK672.out 2
    go_wp2_with (first | (go_at_call 31; (with_reducible refine (qV.calls k _ _ l0_1 _ _ l1_1 false _ ?side1 ?side2 ?side3 ?side4 A7.out).mono ?_); (case side1 => repeat (first | exact (Kd.qU HR0_1.out HB.out) | (with_reducible refine Kd.C_alloc ?_ _) | (with_reducible refine Kd.C_drewN ?_ _) | (with_reducible refine Kd.qQ ?_))); (case side2 => exact HC0_1.out); (case side3 => repeat (first | exact (Kd.qU HR1_1.out HB.out) | (with_reducible refine Kd.C_alloc ?_ _) | (with_reducible refine Kd.C_drewN ?_ _) | (with_reducible refine Kd.qQ ?_))); (case side4 => exact HC1_1.out); rintro e w' ⟨rfl, ⟨nd, rfl⟩⟩; (try first | exact ⟨rfl, _, World.drewN_drewN _ _ _⟩ | exact ⟨rfl, _, Eq.trans (World.drewN_drewN _ _ _) (congrArg (World.drewN _) (Nat.add_assoc _ _ _))⟩)))
    repeat (go_quiet (first | (go_at_call 31; (with_reducible refine (qV.calls k _ _ l0_1 _ _ l1_1 false _ ?side1 ?side2 ?side3 ?side4 A7.out).mono ?_); (case side1 => repeat (first | exact (Kd.qU HR0_1.out HB.out) | (with_reducible refine Kd.C_alloc ?_ _) | (with_reducible refine Kd.C_drewN ?_ _) | (with_reducible refine Kd.qQ ?_))); (case side2 => exact HC0_1.out); (case side3 => repeat (first | exact (Kd.qU HR1_1.out HB.out) | (with_reducible refine Kd.C_alloc ?_ _) | (with_reducible refine Kd.C_drewN ?_ _) | (with_reducible refine Kd.qQ ?_))); (case side4 => exact HC1_1.out); rintro e w' ⟨rfl, ⟨nd, rfl⟩⟩; (try first | exact ⟨rfl, _, World.drewN_drewN _ _ _⟩ | exact ⟨rfl, _, Eq.trans (World.drewN_drewN _ _ _) (congrArg (World.drewN _) (Nat.add_assoc _ _ _))⟩))); try go_wp2_with (first | (go_at_call 31; (with_reducible refine (qV.calls k _ _ l0_1 _ _ l1_1 false _ ?side1 ?side2 ?side3 ?side4 A7.out).mono ?_); (case side1 => repeat (first | exact (Kd.qU HR0_1.out HB.out) | (with_reducible refine Kd.C_alloc ?_ _) | (with_reducible refine Kd.C_drewN ?_ _) | (with_reducible refine Kd.qQ ?_))); (case side2 => exact HC0_1.out); (case side3 => repeat (first | exact (Kd.qU HR1_1.out HB.out) | (with_reducible refine Kd.C_alloc ?_ _) | (with_reducible refine Kd.C_drewN ?_ _) | (with_reducible refine Kd.qQ ?_))); (case side4 => exact HC1_1.out); rintro e w' ⟨rfl, ⟨nd, rfl⟩⟩; (try first | exact ⟨rfl, _, World.drewN_drewN _ _ _⟩ | exact ⟨rfl, _, Eq.trans (World.drewN_drewN _ _ _) (congrArg (World.drewN _) (Nat.add_assoc _ _ _))⟩))))
    go_meet
    case rel => exact ⟨_, (true), (by first | rfl | (simp; done) | (simp [*]; done)), H', ⟨by first | omega | exact Nat.le_refl _⟩, ⟨by (with_reducible repeat (first | refine qi ?_ _ | refine ql ?_ | refine qh ?_ _)); exact BK671.out⟩, ⟨by (with_reducible repeat (first | refine qi ?_ _ | refine ql ?_ | refine qh ?_ _)); exact BK672.out⟩, ⟨by repeat (first | (with_reducible first | exact HB.out | apply qg | apply qb | apply qf | refine qd ?_ GE671.out | refine qd ?_ GE672.out) | exact HB.out)⟩⟩
  ·rw [if_neg c6] at H
   have c6b0 : (a0_0 == a1_0) = false := beq_eq_false_iff_ne.mpr c6
   have c6b1 : (a0_0 != a1_0) = true := bne_iff_ne.mpr c6
   (first | rw [c6b0] | (simp only [qw, qx]; rw [c6b0]) | skip)
   have H' := qa.mk H
   clear H
   have hnb15 := NB671_672.out
   have hnc15 := NB672_671.out
   have hcz16_0 : w5.cell? ⟨gb671, 0, none⟩ = some (.int .i64 a0_0) := (qj BK671.out 0).trans rfl
   have hcz16_1 : w5.cell? ⟨gb671, 1, none⟩ = some (.slice A0_1 l0_1.length c0_1) := (qj BK671.out 1).trans rfl
   have hcz16_2 : w5.cell? ⟨gb671, 2, none⟩ = some (.slice A0_2 l0_2.length c0_2) := (qj BK671.out 2).trans rfl
   have hfz16_0 := qm BK671.out 0
   have hfz16_1 := qm BK671.out 1
   have hfz16_2 := qm BK671.out 2
   have hcz17_0 : w5.cell? ⟨gb672, 0, none⟩ = some (.int .i64 a1_0) := (qj BK672.out 0).trans rfl
   have hcz17_1 : w5.cell? ⟨gb672, 1, none⟩ = some (.slice A1_1 l1_1.length c1_1) := (qj BK672.out 1).trans rfl
   have hcz17_2 : w5.cell? ⟨gb672, 2, none⟩ = some (.slice A1_2 l1_2.length c1_2) := (qj BK672.out 2).trans rfl
   have hfz17_0 := qm BK672.out 0
   have hfz17_1 := qm BK672.out 1
   have hfz17_2 := qm BK672.out 2
   go_wp2
   repeat (go_quiet (fail); try go_wp2)
   go_meet
   case rel => exact ⟨_, (true), (by first | rfl | (simp; done) | (simp [*]; done)), H', ⟨by first | omega | exact Nat.le_refl _⟩, ⟨by (with_reducible repeat (first | refine qi ?_ _ | refine ql ?_ | refine qh ?_ _)); exact BK671.out⟩, ⟨by (with_reducible repeat (first | refine qi ?_ _ | refine ql ?_ | refine qh ?_ _)); exact BK672.out⟩, ⟨by repeat (first | (with_reducible first | exact HB.out | apply qg | apply qb | apply qf | refine qd ?_ GE671.out | refine qd ?_ GE672.out) | exact HB.out)⟩⟩
 case rest =>
  clear HC3
  try clear c1
  try clear p2
  try clear c5
  try clear c6
  try clear c6b0
  try clear c6b1
  try clear c8
  try clear c9
  try clear c12
  try clear c15
  try clear hcz10_0
  try clear hcz10_1
  try clear hcz10_2
  try clear hcz11_0
  try clear hcz11_1
  try clear hcz11_2
  try clear hcz13_0
  try clear hcz13_1
  try clear hcz13_2
  try clear hcz14_0
  try clear hcz14_1
  try clear hcz14_2
  try clear hcz16_0
  try clear hcz16_1
  try clear hcz16_2
  try clear hcz17_0
  try clear hcz17_1
  try clear hcz17_2
  try clear hfz10_0
  try clear hfz10_1
  try clear hfz10_2
  try clear hfz11_0
  try clear hfz11_1
  try clear hfz11_2
  try clear hfz13_0
  try clear hfz13_1
  try clear hfz13_2
  try clear hfz14_0
  try clear hfz14_1
  try clear hfz14_2
  try clear hfz16_0
  try clear hfz16_1
  try clear hfz16_2
  try clear hfz17_0
  try clear hfz17_1
  try clear hfz17_2
  obtain ⟨kq, x27_2, rfl, HA, HJ2, BK671, BK672, HB⟩ := hcut
  cases kq with
  | zero => exact absurd HA.out (by simp [qI.j0])
  | succ kj2 =>
   have H := HA.out
   clear HA
   simp only [qI.j0] at H
   by_cases c18 : x27_2 = true
   ·subst c18
    have H1 : (some false) = some r := by rw [if_pos rfl] at H; exact H
    clear H
    have H := H1
    clear H1
    obtain rfl := Option.some.inj H
    go_wp2
    repeat (go_quiet (fail); try go_wp2)
    go_ret
    exact ⟨by first | rfl | (simp [errW_none, errW_some] <;> rfl) | (simp [*, errW_none, errW_some] <;> rfl), by repeat (first | (with_reducible first | exact HB.out | apply qg | apply qb | apply qf | refine qd ?_ GE671.out | refine qd ?_ GE672.out) | exact HB.out)⟩
   ·replace c18 := Bool.eq_false_iff.mpr c18
    subst c18
    have H1 : (qI.l0 kj2 0 a0_0 l0_1 l0_2 a1_0 l1_1 l1_2) = some r := by rw [if_neg (show ¬ (false = true) by decide)] at H; exact H
    clear H
    have H := H1
    clear H1
    have H' := qa.mk H
    clear H
    go_wp2
    repeat (go_quiet (fail); try go_wp2)
    go_loopg [5] kj2 (fun kq v5 w' => ∃ (x5_2 : Int), v5 = .int .i64 x5_2 ∧ qa (qI.l0 kq x5_2 a0_0 l0_1 l0_2 a1_0 l1_1 l1_2 = some r) ∧ qa (kq ≤ kj2) ∧ qa (w'.heap[gb671]? = some (.cells #[.int .i64 a0_0, (.slice A0_1 l0_1.length c0_1), (.slice A0_2 l0_2.length c0_2)] 25 (0, 0))) ∧ qa (w'.heap[gb672]? = some (.cells #[.int .i64 a1_0, (.slice A1_1 l1_1.length c1_1), (.slice A1_2 l1_2.length c1_2)] 25 (0, 0))) ∧ qa (Below w.heap.size w w'))
    case atStart => exact ⟨(0), (by first | rfl | (simp; done) | (simp [*]; done)), H', ⟨Nat.le_refl _⟩, ⟨by (with_reducible repeat (first | refine qi ?_ _ | refine ql ?_ | refine qh ?_ _)); exact BK671.out⟩, ⟨by (with_reducible repeat (first | refine qi ?_ _ | refine ql ?_ | refine qh ?_ _)); exact BK672.out⟩, ⟨by repeat (first | (with_reducible first | exact HB.out | apply qg | apply qb | apply qf | refine qd ?_ GE671.out | refine qd ?_ GE672.out) | exact HB.out)⟩⟩
    case round =>
     clear H'
     try clear c1
     try clear p2
     try clear c5
     try clear c6
     try clear c6b0
     try clear c6b1
     try clear c8
     try clear c9
     try clear c12
     try clear c15
     try clear c18
     try clear hcz10_0
     try clear hcz10_1
     try clear hcz10_2
     try clear hcz11_0
     try clear hcz11_1
     try clear hcz11_2
     try clear hcz13_0
     try clear hcz13_1
     try clear hcz13_2
     try clear hcz14_0
     try clear hcz14_1
     try clear hcz14_2
     try clear hcz16_0
     try clear hcz16_1
     try clear hcz16_2
     try clear hcz17_0
     try clear hcz17_1
     try clear hcz17_2
     try clear hfz10_0
     try clear hfz10_1
     try clear hfz10_2
     try clear hfz11_0
     try clear hfz11_1
     try clear hfz11_2
     try clear hfz13_0
     try clear hfz13_1
     try clear hfz13_2
     try clear hfz14_0
     try clear hfz14_1
     try clear hfz14_2
     try clear hfz16_0
     try clear hfz16_1
     try clear hfz16_2
     try clear hfz17_0
     try clear hfz17_1
     try clear hfz17_2
     try clear p2
     obtain ⟨x5_2, rfl, HA, HK2, BK671, BK672, HB⟩ := hrel
     cases gk with
     | zero => exact absurd HA.out (by simp [qI.l0])
     | succ k2 =>
      have H := HA.out
      clear HA
      simp only [qI.l0] at H
      by_cases c19 : x5_2 < (l0_2.length : Int)
      ·rw [if_pos c19] at H
       have c19b0 : decide (x5_2 < (l0_2.length : Int)) = true := decide_eq_true c19
       clear c19
       by_cases c20 : 0 ≤ x5_2
       ·rw [if_pos c20] at H
        have c20b0 : decide (0 ≤ x5_2) = true := decide_eq_true c20
        clear c20
        by_cases c21 : x5_2 < (l1_2.length : Int)
        ·rw [if_pos c21] at H
         have c21b0 : decide (x5_2 < (l1_2.length : Int)) = true := decide_eq_true c21
         clear c21
         by_cases c22 : (!(((qc l0_2 x5_2).f0) == ((qc l1_2 x5_2).f0)) || (!(((qc l0_2 x5_2).f1) == ((qc l1_2 x5_2).f1)) || (!(((qc l0_2 x5_2).f2) == ((qc l1_2 x5_2).f2))))) = true
         ·rw [if_pos c22] at H
          have c22b0 : (!(((qc l0_2 x5_2).f0) == ((qc l1_2 x5_2).f0)) || (!(((qc l0_2 x5_2).f1) == ((qc l1_2 x5_2).f1)) || (!(((qc l0_2 x5_2).f2) == ((qc l1_2 x5_2).f2))))) = true := c22
          clear c22
          obtain rfl := Option.some.inj H
          have hnb23 := NB671_672.out
          have hnc23 := NB672_671.out
          have hcz24_0 : wr.cell? ⟨gb671, 0, none⟩ = some (.int .i64 a0_0) := (qj BK671.out 0).trans rfl
          have hcz24_1 : wr.cell? ⟨gb671, 1, none⟩ = some (.slice A0_1 l0_1.length c0_1) := (qj BK671.out 1).trans rfl
          have hcz24_2 : wr.cell? ⟨gb671, 2, none⟩ = some (.slice A0_2 l0_2.length c0_2) := (qj BK671.out 2).trans rfl
          have hfz24_0 := qm BK671.out 0
          have hfz24_1 := qm BK671.out 1
          have hfz24_2 := qm BK671.out 2
          have p674 : 0 ≤ (x5_2 : Int) := of_decide_eq_true (by first | (with_reducible assumption) | assumption)
          have q674 : x5_2 < (l0_2.length : Int) := of_decide_eq_true (by first | (with_reducible assumption) | assumption)
          obtain ⟨ad674, e674, hx674_0, hx674_1, hx674_2⟩ := vU HR0_2.out x5_2 p674 q674
          cases e674
          replace hx674_0 := (HB.out.cell (World.block_lt_of_cell? w _ hx674_0)).trans hx674_0
          replace hx674_1 := (HB.out.cell (World.block_lt_of_cell? w _ hx674_1)).trans hx674_1
          replace hx674_2 := (HB.out.cell (World.block_lt_of_cell? w _ hx674_2)).trans hx674_2
          replace p674 := eq_true p674
          replace q674 := eq_true q674
          have hcz25_0 : wr.cell? ⟨gb672, 0, none⟩ = some (.int .i64 a1_0) := (qj BK672.out 0).trans rfl
          have hcz25_1 : wr.cell? ⟨gb672, 1, none⟩ = some (.slice A1_1 l1_1.length c1_1) := (qj BK672.out 1).trans rfl
          have hcz25_2 : wr.cell? ⟨gb672, 2, none⟩ = some (.slice A1_2 l1_2.length c1_2) := (qj BK672.out 2).trans rfl
          have hfz25_0 := qm BK672.out 0
          have hfz25_1 := qm BK672.out 1
          have hfz25_2 := qm BK672.out 2
          have p675 : 0 ≤ (x5_2 : Int) := of_decide_eq_true (by first | (with_reducible assumption) | assumption)
          have q675 : x5_2 < (l1_2.length : Int) := of_decide_eq_true (by first | (with_reducible assumption) | assumption)
          obtain ⟨ad675, e675, hx675_0, hx675_1, hx675_2⟩ := vU HR1_2.out x5_2 p675 q675
          cases e675
          replace hx675_0 := (HB.out.cell (World.block_lt_of_cell? w _ hx675_0)).trans hx675_0
          replace hx675_1 := (HB.out.cell (World.block_lt_of_cell? w _ hx675_1)).trans hx675_1
          replace hx675_2 := (HB.out.cell (World.block_lt_of_cell? w _ hx675_2)).trans hx675_2
          replace p675 := eq_true p675
          replace q675 := eq_true q675
          go_wp2
          repeat (go_quiet (fail); try go_wp2)
          go_ret
          exact ⟨by first | rfl | (simp [errW_none, errW_some] <;> rfl) | (simp [*, errW_none, errW_some] <;> rfl), by repeat (first | (with_reducible first | exact HB.out | apply qg | apply qb | apply qf | refine qd ?_ GE671.out | refine qd ?_ GE672.out) | exact HB.out)⟩
         ·rw [if_neg c22] at H
          have c22b0 : (!(((qc l0_2 x5_2).f0) == ((qc l1_2 x5_2).f0)) || (!(((qc l0_2 x5_2).f1) == ((qc l1_2 x5_2).f1)) || (!(((qc l0_2 x5_2).f2) == ((qc l1_2 x5_2).f2))))) = false := by simpa using c22
          clear c22
          have H' := qa.mk H
          clear H
          have hnb26 := NB671_672.out
          have hnc26 := NB672_671.out
          have hcz27_0 : wr.cell? ⟨gb671, 0, none⟩ = some (.int .i64 a0_0) := (qj BK671.out 0).trans rfl
          have hcz27_1 : wr.cell? ⟨gb671, 1, none⟩ = some (.slice A0_1 l0_1.length c0_1) := (qj BK671.out 1).trans rfl
          have hcz27_2 : wr.cell? ⟨gb671, 2, none⟩ = some (.slice A0_2 l0_2.length c0_2) := (qj BK671.out 2).trans rfl
          have hfz27_0 := qm BK671.out 0
          have hfz27_1 := qm BK671.out 1
          have hfz27_2 := qm BK671.out 2
          have p674 : 0 ≤ (x5_2 : Int) := of_decide_eq_true (by first | (with_reducible assumption) | assumption)
          have q674 : x5_2 < (l0_2.length : Int) := of_decide_eq_true (by first | (with_reducible assumption) | assumption)
          obtain ⟨ad674, e674, hx674_0, hx674_1, hx674_2⟩ := vU HR0_2.out x5_2 p674 q674
          cases e674
          replace hx674_0 := (HB.out.cell (World.block_lt_of_cell? w _ hx674_0)).trans hx674_0
          replace hx674_1 := (HB.out.cell (World.block_lt_of_cell? w _ hx674_1)).trans hx674_1
          replace hx674_2 := (HB.out.cell (World.block_lt_of_cell? w _ hx674_2)).trans hx674_2
          replace p674 := eq_true p674
          replace q674 := eq_true q674
          have hcz28_0 : wr.cell? ⟨gb672, 0, none⟩ = some (.int .i64 a1_0) := (qj BK672.out 0).trans rfl
          have hcz28_1 : wr.cell? ⟨gb672, 1, none⟩ = some (.slice A1_1 l1_1.length c1_1) := (qj BK672.out 1).trans rfl
          have hcz28_2 : wr.cell? ⟨gb672, 2, none⟩ = some (.slice A1_2 l1_2.length c1_2) := (qj BK672.out 2).trans rfl
          have hfz28_0 := qm BK672.out 0
          have hfz28_1 := qm BK672.out 1
          have hfz28_2 := qm BK672.out 2
          have p675 : 0 ≤ (x5_2 : Int) := of_decide_eq_true (by first | (with_reducible assumption) | assumption)
          have q675 : x5_2 < (l1_2.length : Int) := of_decide_eq_true (by first | (with_reducible assumption) | assumption)
          obtain ⟨ad675, e675, hx675_0, hx675_1, hx675_2⟩ := vU HR1_2.out x5_2 p675 q675
          cases e675
          replace hx675_0 := (HB.out.cell (World.block_lt_of_cell? w _ hx675_0)).trans hx675_0
          replace hx675_1 := (HB.out.cell (World.block_lt_of_cell? w _ hx675_1)).trans hx675_1
          replace hx675_2 := (HB.out.cell (World.block_lt_of_cell? w _ hx675_2)).trans hx675_2
          replace p675 := eq_true p675
          replace q675 := eq_true q675
          go_wp2
          repeat (go_quiet (fail); try go_wp2)
          go_roundg k2
          case measure => have := HJ2.out; have := HK2.out; omega
          case rel => exact ⟨(wrap64 (x5_2 + 1)), (by first | rfl | (simp; done) | (simp [*]; done)), H', ⟨by have := HJ2.out; have := HK2.out; omega⟩, ⟨by (with_reducible repeat (first | refine qi ?_ _ | refine ql ?_ | refine qh ?_ _)); exact BK671.out⟩, ⟨by (with_reducible repeat (first | refine qi ?_ _ | refine ql ?_ | refine qh ?_ _)); exact BK672.out⟩, ⟨by repeat (first | (with_reducible first | exact HB.out | apply qg | apply qb | apply qf | refine qd ?_ GE671.out | refine qd ?_ GE672.out) | exact HB.out)⟩⟩
        ·rw [if_neg c21] at H
         exact absurd H (by simp)
       ·rw [if_neg c20] at H
        exact absurd H (by simp)
      ·rw [if_neg c19] at H
       have c19b0 : decide (x5_2 < (l0_2.length : Int)) = false := decide_eq_false c19
       clear c19
       obtain rfl := Option.some.inj H
       have hnb29 := NB671_672.out
       have hnc29 := NB672_671.out
       have hcz30_0 : wr.cell? ⟨gb671, 0, none⟩ = some (.int .i64 a0_0) := (qj BK671.out 0).trans rfl
       have hcz30_1 : wr.cell? ⟨gb671, 1, none⟩ = some (.slice A0_1 l0_1.length c0_1) := (qj BK671.out 1).trans rfl
       have hcz30_2 : wr.cell? ⟨gb671, 2, none⟩ = some (.slice A0_2 l0_2.length c0_2) := (qj BK671.out 2).trans rfl
       have hfz30_0 := qm BK671.out 0
       have hfz30_1 := qm BK671.out 1
       have hfz30_2 := qm BK671.out 2
       go_wp2
       repeat (go_quiet (fail); try go_wp2)
       go_ret
       exact ⟨by first | rfl | (simp [errW_none, errW_some] <;> rfl) | (simp [*, errW_none, errW_some] <;> rfl), by repeat (first | (with_reducible first | exact HB.out | apply qg | apply qb | apply qf | refine qd ?_ GE671.out | refine qd ?_ GE672.out) | exact HB.out)⟩
end Go.Proofs.Ytcjbghmhdefdiaa.S
namespace Go.Proofs.Ytcjbghmhdefdiaa.S
open Go.RowKit Go.Proofs.YtcjbghmhdefdiaaW.PrintWords Go.Proofs.YtcjbghmhdefdiaaW.PrintLast Go.Proofs.YtcjbghmhdefdiaaW.PrintMore
set_option linter.unusedVariables false
set_option linter.unusedSimpArgs false
def ltE (a b : S55) : Prop := leE a b = true ∧ a ≠ b
theorem Qt (a : S55) : cmpE a a = 0 := by unfold cmpE; repeat' split <;> omega
theorem yN (a b : S55) : cmpE a b < 0 ↔ ltE a b := by
 unfold ltE
 constructor
 ·intro h
  refine ⟨by unfold leE; exact decide_eq_true (by omega), fun e => ?_⟩
  rw [e, Qt] at h
  omega
 ·rintro ⟨h1, h2⟩
  unfold leE at h1
  have h1 := of_decide_eq_true h1
  rcases Int.lt_or_eq_of_le h1 with h | h
  ·exact h
  ·refine absurd ?_ h2
   unfold cmpE at h
   repeat' split at h
   all_goals first | omega | exact xg (by omega) (by omega) (by omega)
theorem cmpE_pos (a b : S55) (h1 : ¬ cmpE a b < 0) (h2 : a ≠ b) : ltE b a := by
 rw [yN] at h1
 have ht := wz a b
 refine ⟨?_, fun e => h2 e.symm⟩
 rcases h : leE a b with _ | _
 ·rw [h, Bool.false_or] at ht
  exact ht
 ·exact absurd ⟨h, h2⟩ h1
theorem kP (a b c : S55) (h1 : ltE a b) (h2 : ltE b c) : ltE a c :=
 ⟨wJ a b c h1.1 h2.1, fun e => by subst e; exact h1.2 (wB h1.1 h2.1)⟩
theorem xM {a b : List S55} (ha : a.Pairwise ltE) (hb : b.Pairwise ltE) (h : ∀ x, x ∈ a ↔ x ∈ b) : a = b := by
 have hp : a.Perm b := (List.perm_ext_iff_of_nodup (ha.imp (fun h => h.2)) (hb.imp (fun h => h.2))).2 h
 exact List.Perm.eq_of_pairwise (le := fun a b => leE a b = true) (fun a b _ _ h1 h2 => wB h1 h2) (ha.imp (fun h => h.1)) (hb.imp (fun h => h.1)) hp
theorem kM (es : List S55) : (zx (wh es)).Pairwise ltE ∧ ∀ x, x ∈ zx (wh es) ↔ x ∈ es := by
 have hs : (wh es).Pairwise fun a b => leE a b = true := List.pairwise_mergeSort (fun a b c => wJ a b c) (fun a b => wz a b) _
 have hc := jv (le := fun a b : S55 => leE a b = true) (fun a b c => wJ a b c) (fun a => by have := wz a a; simpa using this) (fun _ _ => wB) hs
 refine ⟨hc.1, fun x => ⟨fun h => (List.mergeSort_perm es leE).mem_iff.1 (yt h), fun h => hc.2 x ((List.mergeSort_perm es leE).mem_iff.2 h)⟩⟩
theorem ahead_at (a b : S55) : vw.f a.f0 a.f1 a.f2 b.f0 b.f1 b.f2 = some (decide (cmpE a b < 0)) := by
 unfold vw.f cmpE
 repeat' split
 all_goals first | omega | (congr 1; first | (apply decide_eq_decide.2; omega) | (symm; apply decide_eq_true; omega) | (symm; apply decide_eq_false; omega) | (apply decide_eq_true; omega) | (apply decide_eq_false; omega))
theorem yf (out : List S55) (e : S55) (at_ : Nat) (hs : out.Pairwise ltE) (hat : at_ ≤ out.length) (h1 : ∀ j (h : j < out.length), at_ ≤ j → ltE e out[j]) (h2 : ∀ j (h : j < out.length), j < at_ → ltE out[j] e) :
  (out.take at_ ++ [e] ++ out.drop at_).Pairwise ltE ∧ ∀ x, x ∈ out.take at_ ++ [e] ++ out.drop at_ ↔ x ∈ out ∨ x = e := by
 constructor
 ·rw [List.append_assoc, List.pairwise_append]
  refine ⟨hs.sublist (List.take_sublist _ _), ?_, ?_⟩
  ·rw [List.singleton_append, List.pairwise_cons]
   refine ⟨fun x hx => ?_, hs.sublist (List.drop_sublist _ _)⟩
   obtain ⟨i, hi, rfl⟩ := List.mem_iff_getElem.1 hx
   rw [List.length_drop] at hi
   rw [List.getElem_drop]
   exact h1 _ (by omega) (by omega)
  ·intro a ha b hb
   obtain ⟨i, hi, rfl⟩ := List.mem_iff_getElem.1 ha
   rw [List.length_take] at hi
   rw [List.getElem_take]
   have hae := h2 i (by omega) (by omega)
   rcases List.mem_append.1 hb with hb | hb
   ·obtain rfl := List.mem_singleton.1 hb
    exact hae
   ·obtain ⟨q, hq, rfl⟩ := List.mem_iff_getElem.1 hb
    rw [List.length_drop] at hq
    rw [List.getElem_drop]
    exact kP _ _ _ hae (h1 _ (by omega) (by omega))
 ·intro x
  rw [List.mem_append, List.mem_append, List.mem_singleton]
  have := List.take_append_drop at_ out
  constructor
  ·rintro ((h | h) | h)
   ·exact .inl (List.mem_of_mem_take h)
   ·exact .inr h
   ·exact .inl (List.mem_of_mem_drop h)
  ·rintro (h | h)
   ·rw [← this, List.mem_append] at h
    rcases h with h | h
    ·exact .inl (.inl h)
    ·exact .inr h
   ·exact .inl (.inr h)
theorem yU (out : List S55) (i : Nat) (n : Int) (ls : List ByteArray) (es : List S55) (e : S55) (hi : i < 300) (hs : out.Pairwise ltE) (hlo : out.length ≤ 300) :
  ∀ (at_ k : Nat), at_ ≤ out.length → at_ < k → (∀ j (h : j < out.length), at_ ≤ j → ltE e out[j]) →
   ∃ out' k', k ≤ k' + at_ + 1 ∧ qp.l1 k out (i : Int) (at_ : Int) n ls es e.f0 e.f1 e.f2 = qp.l0 k' out' ((i + 1 : Nat) : Int) n ls es ∧ out'.Pairwise ltE ∧ (∀ x, x ∈ out' ↔ x ∈ out ∨ x = e) ∧ out'.length ≤ out.length + 1
 | 0, k + 1, hat, hk, h1 => by
  refine ⟨out.take 0 ++ [e] ++ out.drop 0, k, by omega, ?_, (yf out e 0 hs (by omega) h1 (fun j _ h => by omega)).1, (yf out e 0 hs (by omega) h1 (fun j _ h => by omega)).2, by simp⟩
  rw [qp.l1, if_neg (by omega)]
  simp only [Option.bind_some, List.nil_append]
  rw [if_pos (by omega), if_pos (by omega), if_pos (by simp; omega), if_pos (by simp), if_pos (by simp), if_pos (by simp; omega), wy (by omega)]
  rfl
 | at_ + 1, k + 1, hat, hk, h1 => by
  have hw : wrap64 (((at_ + 1 : Nat) : Int) - 1) = (at_ : Int) := by rw [wrap_small (by omega) (by omega)]; omega
  have hg : qc out (at_ : Int) = out[at_] := jU (by omega)
  rw [qp.l1, if_pos (by omega), hw, if_pos (by omega), if_pos (by omega), ahead_at e (qc out (at_ : Int)), Option.bind_some, hg]
  by_cases hc : cmpE e out[at_] < 0
  ·rw [if_pos (decide_eq_true hc)]
   obtain ⟨out', k', a, b, c, d, f⟩ := yU out i n ls es e hi hs hlo at_ k (by omega) (by omega) (fun j h hj => by
    rcases Nat.lt_or_eq_of_le hj with h2 | h2
    ·exact h1 j h (by omega)
    ·subst h2; exact (yN _ _).1 hc)
   exact ⟨out', k', by omega, b, c, d, f⟩
  ·rw [if_neg (by simpa using hc)]
   by_cases he : out[at_] = e
   ·refine ⟨out, k, by omega, ?_, hs, fun x => ⟨.inl, fun h => h.elim id (fun h => by rw [h, ← he]; exact List.getElem_mem _)⟩, by omega⟩
    rw [he, if_pos (by simp), wy (by omega)]
   ·have hgt : ltE out[at_] e := cmpE_pos _ _ hc (fun h => he h.symm)
    have h2 : ∀ j (h : j < out.length), j < at_ + 1 → ltE out[j] e := fun j h hj => by
     rcases Nat.lt_or_eq_of_le (Nat.le_of_lt_succ hj) with h3 | h3
     ·exact kP _ _ _ (List.pairwise_iff_getElem.1 hs j at_ h (by omega) h3) hgt
     ·subst h3; exact hgt
    have hp := yf out e (at_ + 1) hs hat h1 h2
    refine ⟨out.take (at_ + 1) ++ [e] ++ out.drop (at_ + 1), k, by omega, ?_, hp.1, hp.2, by simp; omega⟩
    rw [if_neg]
    ·simp only [Option.bind_some, List.nil_append]
     rw [Int.toNat_natCast, if_pos (by omega), if_pos (by omega), if_pos (by simp; omega), if_pos (by simp; omega), if_pos (by simp; omega), if_pos (by simp; omega), wy (by omega)]
    ·intro hh
     simp only [Bool.and_eq_true, beq_iff_eq] at hh
     exact he (xg hh.1 hh.2.1 hh.2.2)
set_option maxRecDepth 100000 in
theorem Qx (n : Int) (ls : List ByteArray) (es : List S55) (hes : es.length ≤ 200) (m : Nat) : ∀ (k i : Nat) (out : List S55), i + m = es.length → m * 300 < k → out.Pairwise ltE → out.length ≤ i →
  ∃ R, qp.l0 k out (i : Int) n ls es = some (n, ls, R) ∧ R.Pairwise ltE ∧ ∀ x, x ∈ R ↔ x ∈ out ∨ x ∈ es.drop i := by
 induction m with
 | zero =>
  intro k i out h hk hs hl
  obtain ⟨k, rfl⟩ : ∃ k', k = k' + 1 := ⟨k - 1, by omega⟩
  refine ⟨out, by rw [qp.l0, if_neg (by omega)], hs, fun x => ?_⟩
  rw [List.drop_eq_nil_of_le (by omega)]
  simp
 | succ m ih =>
  intro k i out h hk hs hl
  obtain ⟨k, rfl⟩ : ∃ k', k = k' + 1 := ⟨k - 1, by omega⟩
  rw [qp.l0, if_pos (by omega), if_pos (by omega), jU (show i < es.length by omega)]
  obtain ⟨out', k', a, b, c, d, f⟩ := yU out i n ls es es[i] (by omega) hs (by omega) out.length k (Nat.le_refl _) (by omega) (fun j h1 h2 => by omega)
  rw [b]
  clear b
  have hk2 : m * 300 < k' := by
   clear c d f ih hs
   have : (m + 1) * 300 = m * 300 + 300 := Nat.succ_mul _ _
   rw [this] at hk
   generalize m * 300 = q at *
   omega
  obtain ⟨R, r1, r2, r3⟩ := ih k' (i + 1) out' (by omega) hk2 c (by omega)
  refine ⟨R, r1, r2, fun x => ?_⟩
  rw [r3, d, List.drop_eq_getElem_cons (show i < es.length by omega), List.mem_cons, or_assoc]
set_option maxRecDepth 100000 in
theorem refSort (n : Int) (ls : List ByteArray) (es : List S55) (hes : es.length ≤ 200) {K : Nat} (hK : 70000 ≤ K) : qp.f K n ls es = some (n, ls, zx (wh es)) := by
 obtain ⟨R, h1, h2, h3⟩ := Qx n ls es hes es.length K 0 [] (by omega) (by omega) List.Pairwise.nil (by simp)
 unfold qp.f
 rw [show ((0 : Nat) : Int) = 0 from rfl] at h1
 rw [h1, xM h2 (kM es).1 (fun x => by rw [h3, (kM es).2]; simp)]
theorem xG : ∀ (m k i : Nat) (ls : List ByteArray), i + m = ls.length → m < k → ls.length < 4611686018427387904 → qV.l0 k ls ls (i : Int) = some true
 | 0, k + 1, i, ls, h, _, _ => by rw [qV.l0, if_neg (by omega)]
 | m + 1, k + 1, i, ls, h, hk, hl => by
  rw [qV.l0, if_pos (by omega), if_pos (by omega), if_pos (by omega), if_pos rfl, wy (by omega)]
  exact xG m k (i + 1) ls (by omega) (by omega) hl
theorem kN : ∀ (m k i : Nat) (n : Int) (ls : List ByteArray) (es : List S55), i + m = es.length → m < k → es.length < 4611686018427387904 → qI.l0 k (i : Int) n ls es n ls es = some true
 | 0, k + 1, i, n, ls, es, h, _, _ => by rw [qI.l0, if_neg (by omega)]
 | m + 1, k + 1, i, n, ls, es, h, hk, hl => by
  rw [qI.l0, if_pos (by omega), if_pos (by omega), if_pos (by omega), if_neg (by simp), wy (by omega)]
  exact kN m k (i + 1) n ls es (by omega) (by omega) hl
theorem QC (n : Int) (ls : List ByteArray) (es : List S55) (k : Nat) (h1 : ls.length < k) (h2 : es.length + 1 < k) (h3 : ls.length < 4611686018427387904) (h4 : es.length < 4611686018427387904) : qI.f k n ls es n ls es = some true := by
 obtain ⟨k, rfl⟩ : ∃ k', k = k' + 1 := ⟨k - 1, by omega⟩
 unfold qI.f qV.f
 rw [if_pos rfl, if_pos rfl]
 have ht := xG ls.length (k + 1) 0 ls (by omega) (by omega) h3
 rw [show ((0 : Nat) : Int) = 0 from rfl] at ht
 rw [ht, Option.bind_some, if_pos rfl, show ((es.length : Int) != (es.length : Int)) = false by simp, qI.j0, if_neg (by decide)]
 exact kN es.length k 0 n ls es (by omega) (by omega) h4
end Go.Proofs.Ytcjbghmhdefdiaa.S
namespace Go.Proofs.Ytcjbghmhdefdiaa.S
open Go.RowKit Go.Proofs.YtcjbghmhdefdiaaW.PrintWords Go.Proofs.YtcjbghmhdefdiaaW.PrintLast Go.Proofs.YtcjbghmhdefdiaaW.PrintMore
attribute [local go_sem] vW vZ zi zk vL vK vY vV
set_option linter.unusedVariables false
set_option linter.unusedSimpArgs false
mutual
def qG.l0 : Nat → Int → Int → List ByteArray → List (S55) → Option (Bool)
 | 0, _, _, _, _ => none
 | k + 1, x3, x102000, x102001, x102002 => if x3 < (x102001.length : Int) then (qG.j1 k x3 (decide (x3 < 70)) x102000 x102001 x102002) else (qG.j1 k x3 false x102000 x102001 x102002)
def qG.j1 : Nat → Int → Bool → Int → List ByteArray → List (S55) → Option (Bool)
 | 0, _, _, _, _, _ => none
 | k + 1, x3, x12, x102000, x102001, x102002 => if x12 = true then (if 0 ≤ x3 then (if x3 < (x102001.length : Int) then (if ((rdOf ByteArray.empty x102001 x3).size : Int) > 300 then (some false) else (qG.l0 k (wrap64 (x3 + 1)) x102000 x102001 x102002)) else (none)) else (none)) else (if (x102001.length : Int) < 70 then (if (x102002.length : Int) ≤ 200 then (if x102000 ≤ 60 then (some true) else (some (decide (x102000 > 2048)))) else (some false)) else (some false))
end
def qG.f (k : Nat) (a0_0 : Int) (l0_1 : List ByteArray) (l0_2 : List (S55)) : Option (Bool) := qG.l0 k 0 a0_0 l0_1 l0_2
theorem qG.zA : ∀ k, (∀ y0 y1 y2 y3, LeO (qG.l0 k y0 y1 y2 y3) (qG.l0 (k + 1) y0 y1 y2 y3)) ∧ (∀ y0 y1 y2 y3 y4, LeO (qG.j1 k y0 y1 y2 y3 y4) (qG.j1 (k + 1) y0 y1 y2 y3 y4))
 | 0 => ⟨fun _ _ _ _ r h => by simp [qG.l0] at h, fun _ _ _ _ _ r h => by simp [qG.j1] at h⟩
 | k + 1 => by
  obtain ⟨ih0, ih1⟩ := qG.zA k
  refine ⟨?_, ?_⟩
  ·intro y0 y1 y2 y3
   unfold qG.l0
   repeat' first
   | (with_reducible exact ih0 _ _ _ _)
   | (with_reducible exact ih1 _ _ _ _ _)
   | (with_reducible exact LeO.refl _)
   | (with_reducible exact LeO.none _)
   | (with_reducible refine LeO.ite ?_ ?_)
   | (with_reducible refine LeO.bind ?_ (fun _ => ?_))
   | exact ih0 _ _ _ _
   | exact ih1 _ _ _ _ _
   | exact LeO.none _
   | refine LeO.ite ?_ ?_
   | refine LeO.bind ?_ (fun _ => ?_)
  ·intro y0 y1 y2 y3 y4
   unfold qG.j1
   repeat' first
   | (with_reducible exact ih0 _ _ _ _)
   | (with_reducible exact ih1 _ _ _ _ _)
   | (with_reducible exact LeO.refl _)
   | (with_reducible exact LeO.none _)
   | (with_reducible refine LeO.ite ?_ ?_)
   | (with_reducible refine LeO.bind ?_ (fun _ => ?_))
   | exact ih0 _ _ _ _
   | exact ih1 _ _ _ _ _
   | exact LeO.none _
   | refine LeO.ite ?_ ?_
   | refine LeO.bind ?_ (fun _ => ?_)
theorem qG.mono : ∀ a0 a1 a2 k, LeO (qG.f k a0 a1 a2) (qG.f (k + 1) a0 a1 a2) := by
 intro a0 a1 a2 k
 obtain ⟨ih0, ih1⟩ := qG.zA k
 unfold qG.f
 repeat' first
   | (with_reducible exact ih0 _ _ _ _)
   | (with_reducible exact ih1 _ _ _ _ _)
   | (with_reducible exact LeO.refl _)
   | (with_reducible exact LeO.none _)
   | (with_reducible refine LeO.ite ?_ ?_)
   | (with_reducible refine LeO.bind ?_ (fun _ => ?_))
   | exact ih0 _ _ _ _
   | exact ih1 _ _ _ _ _
   | exact LeO.none _
   | refine LeO.ite ?_ ?_
   | refine LeO.bind ?_ (fun _ => ?_)
set_option maxHeartbeats 8000000 in
set_option maxRecDepth 100000 in
theorem qG.calls (k : Nat) (a0_0 : Int) (A0_1 : Option Addr) (c0_1 : Nat) (l0_1 : List ByteArray) (A0_2 : Option Addr) (c0_2 : Nat) (l0_2 : List (S55)) (r : Bool) (w : World) (hr0_1 : Kd.C Kd.string w A0_1 l0_1.length l0_1) (hc0_1 : l0_1.length ≤ c0_1) (hr0_2 : Kd.C k55 w A0_2 l0_2.length l0_2) (hc0_2 : l0_2.length ≤ c0_2) (h : qG.f k a0_0 l0_1 l0_2 = some r) :
  Calls Try.prog 63 #[.agg #[.int .i64 a0_0, .slice A0_1 l0_1.length c0_1, .slice A0_2 l0_2.length c0_2]] w fun e w' => e = .returned (.bool r) ∧ Below w.heap.size w w' := by
 have hu25 := Try.underlying25
 have HR0_1 := qa.mk hr0_1
 have HC0_1 := qa.mk hc0_1
 clear hr0_1 hc0_1
 have HR0_2 := qa.mk hr0_2
 have HC0_2 := qa.mk hc0_2
 clear hr0_2 hc0_2
 have HB := qa.mk (Below.refl w.heap.size w)
 have H : (qG.l0 k 0 a0_0 l0_1 l0_2) = some r := h
 clear h
 have H' := qa.mk H
 clear H
 go_enter Try.func63, Try.ntmps63
 go_wp2_with (first | ((with_reducible refine qY (N := 1) rfl ?_); (try (refine zt (by rfl) ?_; dsimp only)); refine qZ ?hg (N := 1) ?hd (cs := #[.int .i64 a0_0, .slice A0_1 l0_1.length c0_1, .slice A0_2 l0_2.length c0_2]) (t := 25) ?hr ?_; (case hd => rfl); (case hg => rfl); (case hr => first | (go_simp; done) | (go_simp; rfl)); intro gb101 hg w2 hbox hb; have n0_ := qa.mk (qD (by repeat (first | (with_reducible first | exact HB.out | apply qg | apply qb | apply qf) | exact HB.out)) hb); have n1_ := qa.mk (hbox); have n2_ := qa.mk ((by rw [hg]; exact (qA (by repeat (first | (with_reducible first | exact HB.out | apply qg | apply qb | apply qf) | exact HB.out))) : w.heap.size ≤ gb101)); have n3_ := qa.mk ((by rw [hg]; exact (qA (by repeat (first | (with_reducible first | exact HB.out | apply qg | apply qb | apply qf) | exact HB.out))) : w.heap.size ≤ gb101)); clear HB; have HB := n0_; have BK101 := n1_; have GW101 := n2_; have GE101 := n3_; clear n0_ n1_ n2_ n3_; clear hb hbox hg))
 go_loopg [3] k (fun kq v3 w' => ∃ (x3_1 : Int), v3 = .int .i64 x3_1 ∧ qa (qG.l0 kq x3_1 a0_0 l0_1 l0_2 = some r) ∧ qa (kq ≤ k) ∧ qa (w'.heap[gb101]? = some (.cells #[.int .i64 a0_0, (.slice A0_1 l0_1.length c0_1), (.slice A0_2 l0_2.length c0_2)] 25 (0, 0))) ∧ qa (Below w.heap.size w w'))
 case atStart => exact ⟨(0), (by first | rfl | (simp; done) | (simp [*]; done)), H', ⟨Nat.le_refl _⟩, ⟨by (with_reducible repeat (first | refine qi ?_ _ | refine ql ?_ | refine qh ?_ _)); exact BK101.out⟩, ⟨by repeat (first | (with_reducible first | exact HB.out | apply qg | apply qb | apply qf | refine qd ?_ GE101.out) | exact HB.out)⟩⟩
 case round =>
  clear H'
  try clear p2
  obtain ⟨x3_1, rfl, HA, HK1, BK101, HB⟩ := hrel
  cases gk with
  | zero => exact absurd HA.out (by simp [qG.l0])
  | succ k1 =>
   have H := HA.out
   clear HA
   simp only [qG.l0] at H
   have HC3 := qa.mk H
   clear H
   go_upto_region 2 with (fail)
   go_cut [12] (fun v12 wc => ∃ (kq : Nat) (x12_2 : Bool), v12 = .bool x12_2 ∧ qa (qG.j1 kq x3_1 x12_2 a0_0 l0_1 l0_2 = some r) ∧ qa (kq ≤ k1) ∧ qa (wc.heap[gb101]? = some (.cells #[.int .i64 a0_0, (.slice A0_1 l0_1.length c0_1), (.slice A0_2 l0_2.length c0_2)] 25 (0, 0))) ∧ qa (Below w.heap.size w wc))
   case first =>
    have H := HC3.out
    clear HC3
    by_cases c4 : x3_1 < (l0_1.length : Int)
    ·rw [if_pos c4] at H
     have c4b0 : decide (x3_1 < (l0_1.length : Int)) = true := decide_eq_true c4
     clear c4
     (first | rw [c4b0] | (simp only [qw, qx]; rw [c4b0]) | skip)
     have H' := qa.mk H
     clear H
     have hcz5_0 : wr.cell? ⟨gb101, 0, none⟩ = some (.int .i64 a0_0) := (qj BK101.out 0).trans rfl
     have hcz5_1 : wr.cell? ⟨gb101, 1, none⟩ = some (.slice A0_1 l0_1.length c0_1) := (qj BK101.out 1).trans rfl
     have hcz5_2 : wr.cell? ⟨gb101, 2, none⟩ = some (.slice A0_2 l0_2.length c0_2) := (qj BK101.out 2).trans rfl
     have hfz5_0 := qm BK101.out 0
     have hfz5_1 := qm BK101.out 1
     have hfz5_2 := qm BK101.out 2
     go_wp2
     go_meet
     case rel => exact ⟨_, (decide (x3_1 < 70)), (by first | rfl | (simp; done) | (simp [*]; done)), H', ⟨by have := HK1.out; first | omega | exact Nat.le_refl _⟩, ⟨by (with_reducible repeat (first | refine qi ?_ _ | refine ql ?_ | refine qh ?_ _)); exact BK101.out⟩, ⟨by repeat (first | (with_reducible first | exact HB.out | apply qg | apply qb | apply qf | refine qd ?_ GE101.out) | exact HB.out)⟩⟩
    ·rw [if_neg c4] at H
     have c4b0 : decide (x3_1 < (l0_1.length : Int)) = false := decide_eq_false c4
     clear c4
     (first | rw [c4b0] | (simp only [qw, qx]; rw [c4b0]) | skip)
     have H' := qa.mk H
     clear H
     have hcz6_0 : wr.cell? ⟨gb101, 0, none⟩ = some (.int .i64 a0_0) := (qj BK101.out 0).trans rfl
     have hcz6_1 : wr.cell? ⟨gb101, 1, none⟩ = some (.slice A0_1 l0_1.length c0_1) := (qj BK101.out 1).trans rfl
     have hcz6_2 : wr.cell? ⟨gb101, 2, none⟩ = some (.slice A0_2 l0_2.length c0_2) := (qj BK101.out 2).trans rfl
     have hfz6_0 := qm BK101.out 0
     have hfz6_1 := qm BK101.out 1
     have hfz6_2 := qm BK101.out 2
     go_wp2
     go_meet
     case rel => exact ⟨_, (false), (by first | rfl | (simp; done) | (simp [*]; done)), H', ⟨by have := HK1.out; first | omega | exact Nat.le_refl _⟩, ⟨by (with_reducible repeat (first | refine qi ?_ _ | refine ql ?_ | refine qh ?_ _)); exact BK101.out⟩, ⟨by repeat (first | (with_reducible first | exact HB.out | apply qg | apply qb | apply qf | refine qd ?_ GE101.out) | exact HB.out)⟩⟩
   case rest =>
    clear HC3
    try clear p2
    try clear c4
    try clear c4b0
    try clear c6
    try clear hcz5_0
    try clear hcz5_1
    try clear hcz5_2
    try clear hcz6_0
    try clear hcz6_1
    try clear hcz6_2
    try clear hfz5_0
    try clear hfz5_1
    try clear hfz5_2
    try clear hfz6_0
    try clear hfz6_1
    try clear hfz6_2
    try clear p2
    obtain ⟨kq, x12_2, rfl, HA, HJ2, BK101, HB⟩ := hcut
    cases kq with
    | zero => exact absurd HA.out (by simp [qG.j1])
    | succ kj2 =>
     have H := HA.out
     clear HA
     simp only [qG.j1] at H
     by_cases c7 : x12_2 = true
     ·subst c7
      have H1 : (if 0 ≤ x3_1 then (if x3_1 < (l0_1.length : Int) then (if ((rdOf ByteArray.empty l0_1 x3_1).size : Int) > 300 then (some false) else (qG.l0 kj2 (wrap64 (x3_1 + 1)) a0_0 l0_1 l0_2)) else (none)) else (none)) = some r := by rw [if_pos rfl] at H; exact H
      clear H
      have H := H1
      clear H1
      by_cases c8 : 0 ≤ x3_1
      ·rw [if_pos c8] at H
       have c8b0 : decide (0 ≤ x3_1) = true := decide_eq_true c8
       clear c8
       by_cases c9 : x3_1 < (l0_1.length : Int)
       ·rw [if_pos c9] at H
        have c9b0 : decide (x3_1 < (l0_1.length : Int)) = true := decide_eq_true c9
        clear c9
        by_cases c10 : ((rdOf ByteArray.empty l0_1 x3_1).size : Int) > 300
        ·rw [if_pos c10] at H
         have c10b0 : decide (300 < ((rdOf ByteArray.empty l0_1 x3_1).size : Int)) = true := decide_eq_true c10
         have c10b1 : decide (300 < (rdOf ByteArray.empty l0_1 x3_1).size) = true := decide_eq_true (by omega)
         clear c10
         obtain rfl := Option.some.inj H
         have hcz11_0 : wc.cell? ⟨gb101, 0, none⟩ = some (.int .i64 a0_0) := (qj BK101.out 0).trans rfl
         have hcz11_1 : wc.cell? ⟨gb101, 1, none⟩ = some (.slice A0_1 l0_1.length c0_1) := (qj BK101.out 1).trans rfl
         have hcz11_2 : wc.cell? ⟨gb101, 2, none⟩ = some (.slice A0_2 l0_2.length c0_2) := (qj BK101.out 2).trans rfl
         have hfz11_0 := qm BK101.out 0
         have hfz11_1 := qm BK101.out 1
         have hfz11_2 := qm BK101.out 2
         have p102 : 0 ≤ (x3_1 : Int) := of_decide_eq_true (by first | (with_reducible assumption) | assumption)
         have q102 : x3_1 < (l0_1.length : Int) := of_decide_eq_true (by first | (with_reducible assumption) | assumption)
         obtain ⟨ad102, e102, hx102_0⟩ := Kd.zy HR0_1.out x3_1 p102 q102
         cases e102
         replace hx102_0 := (HB.out.cell (World.block_lt_of_cell? w _ hx102_0)).trans hx102_0
         replace p102 := eq_true p102
         replace q102 := eq_true q102
         go_wp2
         go_ret
         exact ⟨by first | rfl | (simp [errW_none, errW_some] <;> rfl) | (simp [*, errW_none, errW_some] <;> rfl), by repeat (first | (with_reducible first | exact HB.out | apply qg | apply qb | apply qf | refine qd ?_ GE101.out) | exact HB.out)⟩
        ·rw [if_neg c10] at H
         have c10b0 : decide (300 < ((rdOf ByteArray.empty l0_1 x3_1).size : Int)) = false := decide_eq_false c10
         have c10b1 : decide (300 < (rdOf ByteArray.empty l0_1 x3_1).size) = false := decide_eq_false (by omega)
         clear c10
         have H' := qa.mk H
         clear H
         have hcz12_0 : wc.cell? ⟨gb101, 0, none⟩ = some (.int .i64 a0_0) := (qj BK101.out 0).trans rfl
         have hcz12_1 : wc.cell? ⟨gb101, 1, none⟩ = some (.slice A0_1 l0_1.length c0_1) := (qj BK101.out 1).trans rfl
         have hcz12_2 : wc.cell? ⟨gb101, 2, none⟩ = some (.slice A0_2 l0_2.length c0_2) := (qj BK101.out 2).trans rfl
         have hfz12_0 := qm BK101.out 0
         have hfz12_1 := qm BK101.out 1
         have hfz12_2 := qm BK101.out 2
         have p102 : 0 ≤ (x3_1 : Int) := of_decide_eq_true (by first | (with_reducible assumption) | assumption)
         have q102 : x3_1 < (l0_1.length : Int) := of_decide_eq_true (by first | (with_reducible assumption) | assumption)
         obtain ⟨ad102, e102, hx102_0⟩ := Kd.zy HR0_1.out x3_1 p102 q102
         cases e102
         replace hx102_0 := (HB.out.cell (World.block_lt_of_cell? w _ hx102_0)).trans hx102_0
         replace p102 := eq_true p102
         replace q102 := eq_true q102
         go_wp2
         go_roundg kj2
         case measure => have := HK1.out; have := HJ2.out; omega
         case rel => exact ⟨(wrap64 (x3_1 + 1)), (by first | rfl | (simp; done) | (simp [*]; done)), H', ⟨by have := HK1.out; have := HJ2.out; omega⟩, ⟨by (with_reducible repeat (first | refine qi ?_ _ | refine ql ?_ | refine qh ?_ _)); exact BK101.out⟩, ⟨by repeat (first | (with_reducible first | exact HB.out | apply qg | apply qb | apply qf | refine qd ?_ GE101.out) | exact HB.out)⟩⟩
       ·rw [if_neg c9] at H
        exact absurd H (by simp)
      ·rw [if_neg c8] at H
       exact absurd H (by simp)
     ·replace c7 := Bool.eq_false_iff.mpr c7
      subst c7
      have H1 : (if (l0_1.length : Int) < 70 then (if (l0_2.length : Int) ≤ 200 then (if a0_0 ≤ 60 then (some true) else (some (decide (a0_0 > 2048)))) else (some false)) else (some false)) = some r := by rw [if_neg (show ¬ (false = true) by decide)] at H; exact H
      clear H
      have H := H1
      clear H1
      by_cases c13 : (l0_1.length : Int) < 70
      ·rw [if_pos c13] at H
       have c13b0 : decide ((l0_1.length : Int) < 70) = true := decide_eq_true c13
       have c13b1 : decide (l0_1.length < 70) = true := decide_eq_true (by omega)
       clear c13
       by_cases c14 : (l0_2.length : Int) ≤ 200
       ·rw [if_pos c14] at H
        have c14b0 : decide ((l0_2.length : Int) ≤ 200) = true := decide_eq_true c14
        have c14b1 : decide (l0_2.length ≤ 200) = true := decide_eq_true (by omega)
        clear c14
        by_cases c15 : a0_0 ≤ 60
        ·rw [if_pos c15] at H
         have c15b0 : decide (a0_0 ≤ 60) = true := decide_eq_true c15
         clear c15
         obtain rfl := Option.some.inj H
         have hcz16_0 : wc.cell? ⟨gb101, 0, none⟩ = some (.int .i64 a0_0) := (qj BK101.out 0).trans rfl
         have hcz16_1 : wc.cell? ⟨gb101, 1, none⟩ = some (.slice A0_1 l0_1.length c0_1) := (qj BK101.out 1).trans rfl
         have hcz16_2 : wc.cell? ⟨gb101, 2, none⟩ = some (.slice A0_2 l0_2.length c0_2) := (qj BK101.out 2).trans rfl
         have hfz16_0 := qm BK101.out 0
         have hfz16_1 := qm BK101.out 1
         have hfz16_2 := qm BK101.out 2
         go_wp2
         go_ret
         exact ⟨by first | rfl | (simp [errW_none, errW_some] <;> rfl) | (simp [*, errW_none, errW_some] <;> rfl), by repeat (first | (with_reducible first | exact HB.out | apply qg | apply qb | apply qf | refine qd ?_ GE101.out) | exact HB.out)⟩
        ·rw [if_neg c15] at H
         have c15b0 : decide (a0_0 ≤ 60) = false := decide_eq_false c15
         clear c15
         obtain rfl := Option.some.inj H
         have hcz17_0 : wc.cell? ⟨gb101, 0, none⟩ = some (.int .i64 a0_0) := (qj BK101.out 0).trans rfl
         have hcz17_1 : wc.cell? ⟨gb101, 1, none⟩ = some (.slice A0_1 l0_1.length c0_1) := (qj BK101.out 1).trans rfl
         have hcz17_2 : wc.cell? ⟨gb101, 2, none⟩ = some (.slice A0_2 l0_2.length c0_2) := (qj BK101.out 2).trans rfl
         have hfz17_0 := qm BK101.out 0
         have hfz17_1 := qm BK101.out 1
         have hfz17_2 := qm BK101.out 2
         go_wp2
         go_ret
         exact ⟨by first | rfl | (simp [errW_none, errW_some] <;> rfl) | (simp [*, errW_none, errW_some] <;> rfl), by repeat (first | (with_reducible first | exact HB.out | apply qg | apply qb | apply qf | refine qd ?_ GE101.out) | exact HB.out)⟩
       ·rw [if_neg c14] at H
        have c14b0 : decide ((l0_2.length : Int) ≤ 200) = false := decide_eq_false c14
        have c14b1 : decide (l0_2.length ≤ 200) = false := decide_eq_false (by omega)
        clear c14
        obtain rfl := Option.some.inj H
        have hcz18_0 : wc.cell? ⟨gb101, 0, none⟩ = some (.int .i64 a0_0) := (qj BK101.out 0).trans rfl
        have hcz18_1 : wc.cell? ⟨gb101, 1, none⟩ = some (.slice A0_1 l0_1.length c0_1) := (qj BK101.out 1).trans rfl
        have hcz18_2 : wc.cell? ⟨gb101, 2, none⟩ = some (.slice A0_2 l0_2.length c0_2) := (qj BK101.out 2).trans rfl
        have hfz18_0 := qm BK101.out 0
        have hfz18_1 := qm BK101.out 1
        have hfz18_2 := qm BK101.out 2
        go_wp2
        go_ret
        exact ⟨by first | rfl | (simp [errW_none, errW_some] <;> rfl) | (simp [*, errW_none, errW_some] <;> rfl), by repeat (first | (with_reducible first | exact HB.out | apply qg | apply qb | apply qf | refine qd ?_ GE101.out) | exact HB.out)⟩
      ·rw [if_neg c13] at H
       have c13b0 : decide ((l0_1.length : Int) < 70) = false := decide_eq_false c13
       have c13b1 : decide (l0_1.length < 70) = false := decide_eq_false (by omega)
       clear c13
       obtain rfl := Option.some.inj H
       have hcz19_0 : wc.cell? ⟨gb101, 0, none⟩ = some (.int .i64 a0_0) := (qj BK101.out 0).trans rfl
       have hcz19_1 : wc.cell? ⟨gb101, 1, none⟩ = some (.slice A0_1 l0_1.length c0_1) := (qj BK101.out 1).trans rfl
       have hcz19_2 : wc.cell? ⟨gb101, 2, none⟩ = some (.slice A0_2 l0_2.length c0_2) := (qj BK101.out 2).trans rfl
       have hfz19_0 := qm BK101.out 0
       have hfz19_1 := qm BK101.out 1
       have hfz19_2 := qm BK101.out 2
       go_wp2
       go_ret
       exact ⟨by first | rfl | (simp [errW_none, errW_some] <;> rfl) | (simp [*, errW_none, errW_some] <;> rfl), by repeat (first | (with_reducible first | exact HB.out | apply qg | apply qb | apply qf | refine qd ?_ GE101.out) | exact HB.out)⟩
end Go.Proofs.Ytcjbghmhdefdiaa.S
namespace Go.Proofs.Ytcjbghmhdefdiaa.S
open Go.RowKit Go.Proofs.YtcjbghmhdefdiaaW.PrintWords Go.Proofs.YtcjbghmhdefdiaaW.PrintLast Go.Proofs.YtcjbghmhdefdiaaW.PrintMore
set_option linter.unusedVariables false
set_option linter.unusedSimpArgs false
def Qv (n : Int) (ls : List ByteArray) (es : List S55) : Prop := ls.length < 70 ∧ es.length ≤ 200 ∧ (n ≤ 60 ∨ 2048 < n)
theorem light0 : ∀ (m k : Nat) (i : Nat) (n : Int) (ls : List ByteArray) (es : List S55), i + m = 71 → m * 2 + 2 < k → i ≤ ls.length → ∃ r, qG.l0 k (i : Int) n ls es = some r ∧ (r = true → Qv n ls es)
 | 0, k + 2, i, n, ls, es, h, hk, hi => by
  obtain rfl : i = 71 := by omega
  rw [qG.l0]
  by_cases h1 : ((71 : Nat) : Int) < (ls.length : Int)
  ·rw [if_pos h1, qG.j1, if_neg (by decide)]
   rw [if_neg (by omega)]
   exact ⟨_, rfl, fun h => by cases h⟩
  ·rw [if_neg h1, qG.j1, if_neg (by decide), if_neg (by omega)]
   exact ⟨_, rfl, fun h => by cases h⟩
 | m + 1, k + 2, i, n, ls, es, h, hk, hi => by
  have fin : ∃ r, (if (ls.length : Int) < 70 then (if (es.length : Int) ≤ 200 then (if n ≤ 60 then (some true) else (some (decide (n > 2048)))) else (some false)) else (some false)) = some r ∧ (r = true → Qv n ls es) := by
   by_cases h1 : (ls.length : Int) < 70
   ·rw [if_pos h1]
    by_cases h2 : (es.length : Int) ≤ 200
    ·rw [if_pos h2]
     by_cases h3 : n ≤ 60
     ·rw [if_pos h3]
      exact ⟨_, rfl, fun _ => ⟨by omega, by omega, .inl h3⟩⟩
     ·rw [if_neg h3]
      exact ⟨_, rfl, fun h => ⟨by omega, by omega, .inr (of_decide_eq_true h)⟩⟩
    ·rw [if_neg h2]
     exact ⟨_, rfl, fun h => by cases h⟩
   ·rw [if_neg h1]
    exact ⟨_, rfl, fun h => by cases h⟩
  rw [qG.l0]
  by_cases h1 : (i : Int) < (ls.length : Int)
  ·rw [if_pos h1, qG.j1]
   by_cases h2 : (i : Int) < 70
   ·rw [if_pos (decide_eq_true h2), if_pos (by omega), if_pos h1]
    by_cases h3 : ((rdOf ByteArray.empty ls (i : Int)).size : Int) > 300
    ·rw [if_pos h3]
     exact ⟨_, rfl, fun h => by cases h⟩
    ·rw [if_neg h3, wy (by omega)]
     exact light0 m k (i + 1) n ls es (by omega) (by omega) (by omega)
   ·rw [if_neg (by simpa using h2)]
    exact fin
  ·rw [if_neg h1, qG.j1, if_neg (by decide)]
   exact fin
theorem light_ev (n : Int) (ls : List ByteArray) (es : List S55) : ∃ r, Ev (fun k => qG.f k n ls es) r ∧ (r = true → Qv n ls es) := by
 obtain ⟨r, h1, h2⟩ := light0 71 200 0 n ls es (by omega) (by omega) (by omega)
 exact ⟨r, Ev.Qn (fun k => qG.mono n ls es k) h1, h2⟩
end Go.Proofs.Ytcjbghmhdefdiaa.S
namespace Go.Proofs.Ytcjbghmhdefdiaa.S
open Go.RowKit Go.Proofs.YtcjbghmhdefdiaaW.PrintWords Go.Proofs.YtcjbghmhdefdiaaW.PrintLast Go.Proofs.YtcjbghmhdefdiaaW.PrintMore
attribute [local go_sem] vW vZ zi zk vL vK vY vV
set_option linter.unusedVariables false
set_option linter.unusedSimpArgs false
def qE.l0 : Nat → List Int → List Int → Int → Option (Bool)
 | 0, _, _, _ => none
 | k + 1, x0, x1, x5 => if x5 < (x0.length : Int) then (if 0 ≤ x5 then (if x5 < (x1.length : Int) then (if (rd x0 x5) = (rd x1 x5) then (qE.l0 k x0 x1 (wrap64 (x5 + 1))) else (some false)) else (none)) else (none)) else (some true)
def qE.f (k : Nat) (l0 : List Int) (l1 : List Int) : Option (Bool) := if (l0.length : Int) = (l1.length : Int) then (qE.l0 k l0 l1 0) else (some false)
theorem qE.zA : ∀ k, (∀ y0 y1 y2, LeO (qE.l0 k y0 y1 y2) (qE.l0 (k + 1) y0 y1 y2))
 | 0 => fun _ _ _ r h => by simp [qE.l0] at h
 | k + 1 => by
  have ih0 := qE.zA k
  ·intro y0 y1 y2
   unfold qE.l0
   repeat' first
   | (with_reducible exact ih0 _ _ _)
   | (with_reducible exact LeO.refl _)
   | (with_reducible exact LeO.none _)
   | (with_reducible refine LeO.ite ?_ ?_)
   | (with_reducible refine LeO.bind ?_ (fun _ => ?_))
   | exact ih0 _ _ _
   | exact LeO.none _
   | refine LeO.ite ?_ ?_
   | refine LeO.bind ?_ (fun _ => ?_)
theorem qE.mono : ∀ a0 a1 k, LeO (qE.f k a0 a1) (qE.f (k + 1) a0 a1) := by
 intro a0 a1 k
 have ih0 := qE.zA k
 unfold qE.f
 repeat' first
   | (with_reducible exact ih0 _ _ _)
   | (with_reducible exact LeO.refl _)
   | (with_reducible exact LeO.none _)
   | (with_reducible refine LeO.ite ?_ ?_)
   | (with_reducible refine LeO.bind ?_ (fun _ => ?_))
   | exact ih0 _ _ _
   | exact LeO.none _
   | refine LeO.ite ?_ ?_
   | refine LeO.bind ?_ (fun _ => ?_)
set_option maxHeartbeats 8000000 in
set_option maxRecDepth 100000 in
theorem qE.calls (k : Nat) (A0 : Option Addr) (c0 : Nat) (l0 : List Int) (A1 : Option Addr) (c1 : Nat) (l1 : List Int) (r : Bool) (w : World) (hr0 : Kd.C (Kd.int .i64) w A0 l0.length l0) (hc0 : l0.length ≤ c0) (hr1 : Kd.C (Kd.int .i64) w A1 l1.length l1) (hc1 : l1.length ≤ c1) (h : qE.f k l0 l1 = some r) :
  Calls Try.prog 24 #[.slice A0 l0.length c0, .slice A1 l1.length c1] w fun e w' => e = .returned (.bool r) ∧ ve w w' := by
 have HR0 := qa.mk hr0
 have HC0 := qa.mk hc0
 clear hr0 hc0
 have HR1 := qa.mk hr1
 have HC1 := qa.mk hc1
 clear hr1 hc1
 have H : (if (l0.length : Int) = (l1.length : Int) then (qE.l0 k l0 l1 0) else (some false)) = some r := h
 clear h
 by_cases c3 : (l0.length : Int) = (l1.length : Int)
 ·rw [if_pos c3] at H
  have c3b0 : ((l0.length : Int) == (l1.length : Int)) = true := beq_iff_eq.mpr c3
  have c3b1 : ((l0.length : Int) != (l1.length : Int)) = false := bne_eq_false_iff_eq.mpr c3
  have c3b2 : (l0.length == l1.length) = true := by first | simpa using c3 | (simp at c3 ⊢; omega)
  clear c3
  have H' := qa.mk H
  clear H
  go_enter Try.func24, Try.ntmps24
  go_wp2
  repeat (go_quiet (fail); try go_wp2)
  go_loopg [5] k (fun kq v5 w' => ∃ (x5_1 : Int), v5 = .int .i64 x5_1 ∧ qa (qE.l0 kq l0 l1 x5_1 = some r) ∧ qa (kq ≤ k) ∧ ve w w')
  case atStart => exact ⟨(0), (by first | rfl | (simp; done) | (simp [*]; done)), H', ⟨Nat.le_refl _⟩, by repeat (first | exact ve.refl _ | apply ve.step)⟩
  case round =>
   clear H'
   try clear c1
   try clear c2
   try clear p2
   try clear c3
   try clear c3b0
   try clear c3b1
   try clear c3b2
   obtain ⟨x5_1, rfl, HA, HK1, ⟨m1, rfl⟩⟩ := hrel
   cases gk with
   | zero => exact absurd HA.out (by simp [qE.l0])
   | succ k1 =>
    have H := HA.out
    clear HA
    simp only [qE.l0] at H
    by_cases c4 : x5_1 < (l0.length : Int)
    ·rw [if_pos c4] at H
     have c4b0 : decide (x5_1 < (l0.length : Int)) = true := decide_eq_true c4
     clear c4
     by_cases c5 : 0 ≤ x5_1
     ·rw [if_pos c5] at H
      have c5b0 : decide (0 ≤ x5_1) = true := decide_eq_true c5
      clear c5
      by_cases c6 : x5_1 < (l1.length : Int)
      ·rw [if_pos c6] at H
       have c6b0 : decide (x5_1 < (l1.length : Int)) = true := decide_eq_true c6
       clear c6
       by_cases c7 : (rd l0 x5_1) = (rd l1 x5_1)
       ·rw [if_pos c7] at H
        have c7b0 : ((rd l0 x5_1) == (rd l1 x5_1)) = true := beq_iff_eq.mpr c7
        have c7b1 : ((rd l0 x5_1) != (rd l1 x5_1)) = false := bne_eq_false_iff_eq.mpr c7
        clear c7
        have H' := qa.mk H
        clear H
        have p271 : 0 ≤ (x5_1 : Int) := of_decide_eq_true (by first | (with_reducible assumption) | assumption)
        have q271 : x5_1 < (l0.length : Int) := of_decide_eq_true (by first | (with_reducible assumption) | assumption)
        obtain ⟨ad271, e271, hx271_0⟩ := Kd.j3 HR0.out x5_1 p271 q271
        cases e271
        replace p271 := eq_true p271
        replace q271 := eq_true q271
        have p272 : 0 ≤ (x5_1 : Int) := of_decide_eq_true (by first | (with_reducible assumption) | assumption)
        have q272 : x5_1 < (l1.length : Int) := of_decide_eq_true (by first | (with_reducible assumption) | assumption)
        obtain ⟨ad272, e272, hx272_0⟩ := Kd.j3 HR1.out x5_1 p272 q272
        cases e272
        replace p272 := eq_true p272
        replace q272 := eq_true q272
        go_wp2
        repeat (go_quiet (fail); try go_wp2)
        go_roundg k1
        case measure => have := HK1.out; omega
        case rel => exact ⟨(wrap64 (x5_1 + 1)), (by first | rfl | (simp; done) | (simp [*]; done)), H', ⟨by have := HK1.out; omega⟩, by repeat (first | exact ve.refl _ | apply ve.step)⟩
       ·rw [if_neg c7] at H
        have c7b0 : ((rd l0 x5_1) == (rd l1 x5_1)) = false := beq_eq_false_iff_ne.mpr c7
        have c7b1 : ((rd l0 x5_1) != (rd l1 x5_1)) = true := bne_iff_ne.mpr c7
        obtain rfl := Option.some.inj H
        have p271 : 0 ≤ (x5_1 : Int) := of_decide_eq_true (by first | (with_reducible assumption) | assumption)
        have q271 : x5_1 < (l0.length : Int) := of_decide_eq_true (by first | (with_reducible assumption) | assumption)
        obtain ⟨ad271, e271, hx271_0⟩ := Kd.j3 HR0.out x5_1 p271 q271
        cases e271
        replace p271 := eq_true p271
        replace q271 := eq_true q271
        have p272 : 0 ≤ (x5_1 : Int) := of_decide_eq_true (by first | (with_reducible assumption) | assumption)
        have q272 : x5_1 < (l1.length : Int) := of_decide_eq_true (by first | (with_reducible assumption) | assumption)
        obtain ⟨ad272, e272, hx272_0⟩ := Kd.j3 HR1.out x5_1 p272 q272
        cases e272
        replace p272 := eq_true p272
        replace q272 := eq_true q272
        go_wp2
        repeat (go_quiet (fail); try go_wp2)
        go_ret
        exact ⟨by first | rfl | (simp; done) | (simp [*]; done), by repeat (first | exact ve.refl _ | apply ve.step)⟩
      ·rw [if_neg c6] at H
       exact absurd H (by simp)
     ·rw [if_neg c5] at H
      exact absurd H (by simp)
    ·rw [if_neg c4] at H
     have c4b0 : decide (x5_1 < (l0.length : Int)) = false := decide_eq_false c4
     clear c4
     obtain rfl := Option.some.inj H
     go_wp2
     repeat (go_quiet (fail); try go_wp2)
     go_ret
     exact ⟨by first | rfl | (simp; done) | (simp [*]; done), by repeat (first | exact ve.refl _ | apply ve.step)⟩
 ·rw [if_neg c3] at H
  have c3b0 : ((l0.length : Int) == (l1.length : Int)) = false := beq_eq_false_iff_ne.mpr c3
  have c3b1 : ((l0.length : Int) != (l1.length : Int)) = true := bne_iff_ne.mpr c3
  have c3b2 : (l0.length == l1.length) = false := by first | simpa using c3 | (simp at c3 ⊢; omega)
  obtain rfl := Option.some.inj H
  go_enter Try.func24, Try.ntmps24
  go_wp2
  repeat (go_quiet (fail); try go_wp2)
  go_ret
  exact ⟨by first | rfl | (simp; done) | (simp [*]; done), by repeat (first | exact ve.refl _ | apply ve.step)⟩
attribute [local go_sem] vW vZ zi zk vL vK vY vV
set_option linter.unusedVariables false
set_option linter.unusedSimpArgs false
def vN.f (k : Nat) (a0_0 : Int) (l0_1 : List ByteArray) (l0_2 : List (S55)) (a1 : Int) : Option ((List (S55))) := (qK.f k a0_0 l0_1 l0_2).bind fun t972 => (if t972 = 0 then ((zm.f k a0_0 l0_1 l0_2 a1).bind fun t973 => ((zl.f t973).bind fun t976 => (some t976))) else (some ([] : List (S55))))
theorem vN.mono : ∀ a0 a1 a2 a3 k, LeO (vN.f k a0 a1 a2 a3) (vN.f (k + 1) a0 a1 a2 a3) := by
 intro a0 a1 a2 a3 k
 unfold vN.f
 repeat' first
   | (with_reducible exact qK.mono _ _ _ _)
   | (with_reducible exact zm.mono _ _ _ _ _)
   | (with_reducible exact LeO.refl _)
   | (with_reducible exact LeO.none _)
   | (with_reducible refine LeO.ite ?_ ?_)
   | (with_reducible refine LeO.bind ?_ (fun _ => ?_))
   | exact qK.mono _ _ _ _
   | exact zm.mono _ _ _ _ _
   | exact LeO.none _
   | refine LeO.ite ?_ ?_
   | refine LeO.bind ?_ (fun _ => ?_)
set_option maxHeartbeats 8000000 in
set_option maxRecDepth 100000 in
theorem vN.calls (k : Nat) (a0_0 : Int) (A0_1 : Option Addr) (c0_1 : Nat) (l0_1 : List ByteArray) (A0_2 : Option Addr) (c0_2 : Nat) (l0_2 : List (S55)) (a1 : Int) (r : List (S55)) (w : World) (hr0_1 : Kd.C Kd.string w A0_1 l0_1.length l0_1) (hc0_1 : l0_1.length ≤ c0_1) (hr0_2 : Kd.C k55 w A0_2 l0_2.length l0_2) (hc0_2 : l0_2.length ≤ c0_2) (h : vN.f k a0_0 l0_1 l0_2 a1 = some r) :
  Calls Try.prog 70 #[.agg #[.int .i64 a0_0, .slice A0_1 l0_1.length c0_1, .slice A0_2 l0_2.length c0_2], .int .i64 a1] w fun e w' => ∃ v0_ : Value, e = .returned (v0_) ∧ Kd.R k55 55 w' w.heap.size (fun _ => True) v0_ r ∧ Below w.heap.size w w' := by
 have hu25 := Try.underlying25
 have HR0_1 := qa.mk hr0_1
 have HC0_1 := qa.mk hc0_1
 clear hr0_1 hc0_1
 have HR0_2 := qa.mk hr0_2
 have HC0_2 := qa.mk hc0_2
 clear hr0_2 hc0_2
 have HB := qa.mk (Below.refl w.heap.size w)
 have H : ((qK.f k a0_0 l0_1 l0_2).bind fun t972 => (if t972 = 0 then ((zm.f k a0_0 l0_1 l0_2 a1).bind fun t973 => ((zl.f t973).bind fun t976 => (some t976))) else (some ([] : List (S55))))) = some r := h
 clear h
 replace H := Option.bind_eq_some_iff.mp H
 obtain ⟨t972, A30, H⟩ := H
 replace H : (if t972 = 0 then ((zm.f k a0_0 l0_1 l0_2 a1).bind fun t973 => ((zl.f t973).bind fun t976 => (some t976))) else (some ([] : List (S55)))) = some r := H
 have A3 := qa.mk A30
 clear A30
 by_cases c4 : t972 = 0
 ·rw [if_pos c4] at H
  have c4b0 : (t972 == 0) = true := beq_iff_eq.mpr c4
  have c4b1 : (t972 != 0) = false := bne_eq_false_iff_eq.mpr c4
  clear c4
  replace H := Option.bind_eq_some_iff.mp H
  obtain ⟨t973, A50, H⟩ := H
  replace H : ((zl.f t973).bind fun t976 => (some t976)) = some r := H
  have A5 := qa.mk A50
  clear A50
  replace H := Option.bind_eq_some_iff.mp H
  obtain ⟨t976, A60, H⟩ := H
  replace H : (some t976) = some r := H
  have A6 := qa.mk A60
  clear A60
  obtain rfl := Option.some.inj H
  go_enter Try.func70, Try.ntmps70
  go_wp2_with (first | ((with_reducible refine qY (N := 2) rfl ?_); refine qZ ?hg (N := 2) ?hd (cs := #[.int .i64 a0_0, .slice A0_1 l0_1.length c0_1, .slice A0_2 l0_2.length c0_2]) (t := 25) ?hr ?_; (case hd => rfl); (case hg => rfl); (case hr => first | (go_simp; done) | (go_simp; rfl)); intro gb971 hg w7 hbox hb; have n0_ := qa.mk (qD (by repeat (first | (with_reducible first | exact HB.out | apply qg | apply qb | apply qf) | exact HB.out)) hb); have n1_ := qa.mk (hbox); have n2_ := qa.mk ((by rw [hg]; exact (qA (by repeat (first | (with_reducible first | exact HB.out | apply qg | apply qb | apply qf) | exact HB.out))) : w.heap.size ≤ gb971)); have n3_ := qa.mk ((by rw [hg]; exact (qA (by repeat (first | (with_reducible first | exact HB.out | apply qg | apply qb | apply qf) | exact HB.out))) : w.heap.size ≤ gb971)); clear HB; have HB := n0_; have BK971 := n1_; have GW971 := n2_; have GE971 := n3_; clear n0_ n1_ n2_ n3_; clear hb hbox hg; have hcz8_0 : w7.cell? ⟨gb971, 0, none⟩ = some (.int .i64 a0_0) := (qj BK971.out 0).trans rfl; have hcz8_1 : w7.cell? ⟨gb971, 1, none⟩ = some (.slice A0_1 l0_1.length c0_1) := (qj BK971.out 1).trans rfl; have hcz8_2 : w7.cell? ⟨gb971, 2, none⟩ = some (.slice A0_2 l0_2.length c0_2) := (qj BK971.out 2).trans rfl; have hfz8_0 := qm BK971.out 0; have hfz8_1 := qm BK971.out 1; have hfz8_2 := qm BK971.out 2) | ((with_reducible refine qR (f := 67) rfl ?_); refine vP (some 6) rfl rfl Try.func67 (by kernel_rfl) rfl #[.agg #[.int .i64 a0_0, .slice A0_1 l0_1.length c0_1, .slice A0_2 l0_2.length c0_2]] rfl (by (try simp only [List.map_toArray, List.map_cons, List.map_nil]); first | done | rfl | (simp only [List.length_drop, List.length_take]; rfl)) ?_; (with_reducible refine (qK.calls k a0_0 _ _ l0_1 _ _ l0_2 t972 _ ?side1 ?side2 ?side3 ?side4 A3.out).mono ?_); (case side1 => repeat (first | exact (Kd.qU HR0_1.out HB.out) | (with_reducible refine Kd.C_alloc ?_ _) | (with_reducible refine Kd.C_drewN ?_ _) | (with_reducible refine Kd.qQ ?_))); (case side2 => exact HC0_1.out); (case side3 => repeat (first | exact (Kd.qU HR0_2.out HB.out) | (with_reducible refine Kd.C_alloc ?_ _) | (with_reducible refine Kd.C_drewN ?_ _) | (with_reducible refine Kd.qQ ?_))); (case side4 => exact HC0_2.out); rintro e w9 ⟨rfl, hb⟩; refine ⟨_, rfl, ?_⟩; have n0_ := qa.mk (qB (g := gb971) (o := .cells #[.int .i64 a0_0, .slice A0_1 l0_1.length c0_1, .slice A0_2 l0_2.length c0_2] 25 (0, 0)) (by (with_reducible repeat (first | refine qi ?_ _ | refine ql ?_ | refine qh ?_ _)); exact BK971.out) hb); have n1_ := qa.mk (qD (by repeat (first | (with_reducible first | exact HB.out | apply qg | apply qb | apply qf | refine qd ?_ GE971.out) | exact HB.out)) hb); clear BK971; clear HB; have BK971 := n0_; have HB := n1_; clear n0_ n1_; (try clear hb); (try clear hb2); (try clear hk); (try clear hi); have hcz10_0 : w9.cell? ⟨gb971, 0, none⟩ = some (.int .i64 a0_0) := (qj BK971.out 0).trans rfl; have hcz10_1 : w9.cell? ⟨gb971, 1, none⟩ = some (.slice A0_1 l0_1.length c0_1) := (qj BK971.out 1).trans rfl; have hcz10_2 : w9.cell? ⟨gb971, 2, none⟩ = some (.slice A0_2 l0_2.length c0_2) := (qj BK971.out 2).trans rfl; have hfz10_0 := qm BK971.out 0; have hfz10_1 := qm BK971.out 1; have hfz10_2 := qm BK971.out 2) | ((with_reducible refine qR (f := 131) rfl ?_); refine vP (some 10) rfl rfl Try.func131 (by kernel_rfl) rfl #[.agg #[.int .i64 a0_0, .slice A0_1 l0_1.length c0_1, .slice A0_2 l0_2.length c0_2], .int .i64 a1] rfl (by (try simp only [List.map_toArray, List.map_cons, List.map_nil]); first | done | rfl | (simp only [List.length_drop, List.length_take]; rfl)) ?_; (with_reducible refine (zm.calls k a0_0 _ _ l0_1 (fun k_ => k_ < w.heap.size) _ _ l0_2 a1 t973 _ ?side1 ?side2 ?side3 A5.out).mono ?_); (case side1 => repeat (first | exact (Kd.qU HR0_1.out HB.out) | (with_reducible refine Kd.C_alloc ?_ _) | (with_reducible refine Kd.C_drewN ?_ _) | (with_reducible refine Kd.qQ ?_))); (case side2 => exact HC0_1.out); (case side3 => exact Kd.V_mk HC0_2.out (Kd.jw (Kd.C_F yL HR0_2.out) (by repeat (first | (with_reducible first | exact HB.out | apply qg | apply qb | apply qf | refine qd ?_ GE971.out) | exact HB.out)))); rintro e w11 ⟨v974, rfl, ho0, hb⟩; refine ⟨_, rfl, ?_⟩; have n0_ := qa.mk (Kd.yg (Kd.zg (ok' := fun k_ => k_ ≠ gb971) ho0 (fun k_ hk_ => Or.elim hk_ (fun hs_ => fun e_ => Nat.not_le.2 hs_ (by rw [e_]; exact GW971.out)) (fun hn_ => (Kd.wD (g := gb971) (o := .cells #[.int .i64 a0_0, .slice A0_1 l0_1.length c0_1, .slice A0_2 l0_2.length c0_2] 25 (0, 0)) (by (with_reducible repeat (first | refine qi ?_ _ | refine ql ?_ | refine qh ?_ _)); exact BK971.out) k_ hn_)))) (qA (by repeat (first | (with_reducible first | exact HB.out | apply qg | apply qb | apply qf | refine qd ?_ GE971.out) | exact HB.out)))); have n1_ := qa.mk (qB (g := gb971) (o := .cells #[.int .i64 a0_0, .slice A0_1 l0_1.length c0_1, .slice A0_2 l0_2.length c0_2] 25 (0, 0)) (by (with_reducible repeat (first | refine qi ?_ _ | refine ql ?_ | refine qh ?_ _)); exact BK971.out) hb); have n2_ := qa.mk (qD (by repeat (first | (with_reducible first | exact HB.out | apply qg | apply qb | apply qf | refine qd ?_ GE971.out) | exact HB.out)) hb); clear BK971; clear HB; have HO975 := n0_; have BK971 := n1_; have HB := n2_; clear n0_ n1_ n2_; (try clear hb); (try clear hb2); (try clear hk); (try clear hi); (try clear ho0); obtain ⟨Ao12, co12, eo12⟩ := Kd.yD HO975.out; subst eo12) | ((with_reducible refine qR (f := 124) rfl ?_); refine vP (some 11) rfl rfl Try.func124 (by kernel_rfl) rfl #[.slice Ao12 t973.length co12] rfl (by (try simp only [List.map_toArray, List.map_cons, List.map_nil]); first | done | rfl | (simp only [List.length_drop, List.length_take]; rfl)) ?_; (with_reducible refine (zl.calls _ _ t973 t976 _ ?side1 ?side2 A6.out).mono ?_); (case side1 => repeat (first | exact (Kd.vX HO975.out).2.2 | (with_reducible refine Kd.C_alloc ?_ _) | (with_reducible refine Kd.C_drewN ?_ _) | (with_reducible refine Kd.qQ ?_))); (case side2 => exact (Kd.vX HO975.out).2.1); rintro e w13 ⟨v977, rfl, ho0, hb⟩; refine ⟨_, rfl, ?_⟩; have n0_ := qa.mk (Kd.zL (by (with_reducible repeat (first | apply Kd.V_alloc | apply Kd.V_drewN | apply Kd.vg)); exact HO975.out) (Kd.vE ho0) hb); have n1_ := qa.mk (Kd.vO ho0 (qA (by repeat (first | (with_reducible first | exact HB.out | apply qg | apply qb | apply qf | refine qd ?_ GE971.out) | exact HB.out)))); have n2_ := qa.mk (qB (g := gb971) (o := .cells #[.int .i64 a0_0, .slice A0_1 l0_1.length c0_1, .slice A0_2 l0_2.length c0_2] 25 (0, 0)) (by (with_reducible repeat (first | refine qi ?_ _ | refine ql ?_ | refine qh ?_ _)); exact BK971.out) hb); have n3_ := qa.mk (qD (by repeat (first | (with_reducible first | exact HB.out | apply qg | apply qb | apply qf | refine qd ?_ GE971.out) | exact HB.out)) hb); clear HO975; clear BK971; clear HB; have HO975 := n0_; have HO978 := n1_; have BK971 := n2_; have HB := n3_; clear n0_ n1_ n2_ n3_; (try clear hb); (try clear hb2); (try clear hk); (try clear hi); (try clear ho0)))
  go_ret
  exact ⟨_, by first | rfl | (simp [errW_none, errW_some] <;> rfl) | (simp [*, errW_none, errW_some] <;> rfl), by (with_reducible repeat (first | apply Kd.R_alloc | apply Kd.qo | apply Kd.qz)); exact HO978.out, by repeat (first | (with_reducible first | exact HB.out | apply qg | apply qb | apply qf | refine qd ?_ GE971.out) | exact HB.out)⟩
 ·rw [if_neg c4] at H
  have c4b0 : (t972 == 0) = false := beq_eq_false_iff_ne.mpr c4
  have c4b1 : (t972 != 0) = true := bne_iff_ne.mpr c4
  obtain rfl := Option.some.inj H
  go_enter Try.func70, Try.ntmps70
  go_wp2_with (first | ((with_reducible refine qY (N := 2) rfl ?_); refine qZ ?hg (N := 2) ?hd (cs := #[.int .i64 a0_0, .slice A0_1 l0_1.length c0_1, .slice A0_2 l0_2.length c0_2]) (t := 25) ?hr ?_; (case hd => rfl); (case hg => rfl); (case hr => first | (go_simp; done) | (go_simp; rfl)); intro gb971 hg w14 hbox hb; have n0_ := qa.mk (qD (by repeat (first | (with_reducible first | exact HB.out | apply qg | apply qb | apply qf) | exact HB.out)) hb); have n1_ := qa.mk (hbox); have n2_ := qa.mk ((by rw [hg]; exact (qA (by repeat (first | (with_reducible first | exact HB.out | apply qg | apply qb | apply qf) | exact HB.out))) : w.heap.size ≤ gb971)); have n3_ := qa.mk ((by rw [hg]; exact (qA (by repeat (first | (with_reducible first | exact HB.out | apply qg | apply qb | apply qf) | exact HB.out))) : w.heap.size ≤ gb971)); clear HB; have HB := n0_; have BK971 := n1_; have GW971 := n2_; have GE971 := n3_; clear n0_ n1_ n2_ n3_; clear hb hbox hg; have hcz15_0 : w14.cell? ⟨gb971, 0, none⟩ = some (.int .i64 a0_0) := (qj BK971.out 0).trans rfl; have hcz15_1 : w14.cell? ⟨gb971, 1, none⟩ = some (.slice A0_1 l0_1.length c0_1) := (qj BK971.out 1).trans rfl; have hcz15_2 : w14.cell? ⟨gb971, 2, none⟩ = some (.slice A0_2 l0_2.length c0_2) := (qj BK971.out 2).trans rfl; have hfz15_0 := qm BK971.out 0; have hfz15_1 := qm BK971.out 1; have hfz15_2 := qm BK971.out 2) | ((with_reducible refine qR (f := 67) rfl ?_); refine vP (some 6) rfl rfl Try.func67 (by kernel_rfl) rfl #[.agg #[.int .i64 a0_0, .slice A0_1 l0_1.length c0_1, .slice A0_2 l0_2.length c0_2]] rfl (by (try simp only [List.map_toArray, List.map_cons, List.map_nil]); first | done | rfl | (simp only [List.length_drop, List.length_take]; rfl)) ?_; (with_reducible refine (qK.calls k a0_0 _ _ l0_1 _ _ l0_2 t972 _ ?side1 ?side2 ?side3 ?side4 A3.out).mono ?_); (case side1 => repeat (first | exact (Kd.qU HR0_1.out HB.out) | (with_reducible refine Kd.C_alloc ?_ _) | (with_reducible refine Kd.C_drewN ?_ _) | (with_reducible refine Kd.qQ ?_))); (case side2 => exact HC0_1.out); (case side3 => repeat (first | exact (Kd.qU HR0_2.out HB.out) | (with_reducible refine Kd.C_alloc ?_ _) | (with_reducible refine Kd.C_drewN ?_ _) | (with_reducible refine Kd.qQ ?_))); (case side4 => exact HC0_2.out); rintro e w16 ⟨rfl, hb⟩; refine ⟨_, rfl, ?_⟩; have n0_ := qa.mk (qB (g := gb971) (o := .cells #[.int .i64 a0_0, .slice A0_1 l0_1.length c0_1, .slice A0_2 l0_2.length c0_2] 25 (0, 0)) (by (with_reducible repeat (first | refine qi ?_ _ | refine ql ?_ | refine qh ?_ _)); exact BK971.out) hb); have n1_ := qa.mk (qD (by repeat (first | (with_reducible first | exact HB.out | apply qg | apply qb | apply qf | refine qd ?_ GE971.out) | exact HB.out)) hb); clear BK971; clear HB; have BK971 := n0_; have HB := n1_; clear n0_ n1_; (try clear hb); (try clear hb2); (try clear hk); (try clear hi)))
  go_ret
  exact ⟨_, by first | rfl | (simp [errW_none, errW_some] <;> rfl) | (simp [*, errW_none, errW_some] <;> rfl), by first | exact Kd.jO _ _ _ _ _ | exact Kd.N_nil _ _ _ _ _ | exact Kd.V_nil _ _ _ _ _ | exact Kd.Q_nil _ _ _ _ _ | exact Kd.S_nil _ _ _ _ _, by repeat (first | (with_reducible first | exact HB.out | apply qg | apply qb | apply qf | refine qd ?_ GE971.out) | exact HB.out)⟩
attribute [local go_sem] vW vZ zi zk vL vK vY vV
set_option linter.unusedVariables false
set_option linter.unusedSimpArgs false
def vC.l0 : Nat → Int → List Int → List (S55) → Int → Int → Option (List Int)
 | 0, _, _, _, _, _ => none
 | k + 1, x2, x7, x12, x13, x14 => if x14 < x13 then (if 0 ≤ x14 then (if x14 < (x12.length : Int) then (if ((qc x12 x14).f1) = x2 then (if x7.length < 17592186044416 then (vC.l0 k x2 (x7 ++ [(qc x12 x14).f2]) x12 x13 (wrap64 (x14 + 1))) else (none)) else (vC.l0 k x2 x7 x12 x13 (wrap64 (x14 + 1)))) else (none)) else (none)) else (some x7)
def vC.f (k : Nat) (a0_0 : Int) (l0_1 : List ByteArray) (l0_2 : List (S55)) (a1 : Int) (a2 : Int) : Option (List Int) := (vN.f k a0_0 l0_1 l0_2 a1).bind fun t980 => (vC.l0 k a2 ([] : List Int) t980 (t980.length : Int) 0)
theorem vC.zA : ∀ k, (∀ y0 y1 y2 y3 y4, LeO (vC.l0 k y0 y1 y2 y3 y4) (vC.l0 (k + 1) y0 y1 y2 y3 y4))
 | 0 => fun _ _ _ _ _ r h => by simp [vC.l0] at h
 | k + 1 => by
  have ih0 := vC.zA k
  ·intro y0 y1 y2 y3 y4
   unfold vC.l0
   repeat' first
   | (with_reducible exact ih0 _ _ _ _ _)
   | (with_reducible exact vN.mono _ _ _ _ _)
   | (with_reducible exact LeO.refl _)
   | (with_reducible exact LeO.none _)
   | (with_reducible refine LeO.ite ?_ ?_)
   | (with_reducible refine LeO.bind ?_ (fun _ => ?_))
   | exact ih0 _ _ _ _ _
   | exact vN.mono _ _ _ _ _
   | exact LeO.none _
   | refine LeO.ite ?_ ?_
   | refine LeO.bind ?_ (fun _ => ?_)
theorem vC.mono : ∀ a0 a1 a2 a3 a4 k, LeO (vC.f k a0 a1 a2 a3 a4) (vC.f (k + 1) a0 a1 a2 a3 a4) := by
 intro a0 a1 a2 a3 a4 k
 have ih0 := vC.zA k
 unfold vC.f
 repeat' first
   | (with_reducible exact ih0 _ _ _ _ _)
   | (with_reducible exact vN.mono _ _ _ _ _)
   | (with_reducible exact LeO.refl _)
   | (with_reducible exact LeO.none _)
   | (with_reducible refine LeO.ite ?_ ?_)
   | (with_reducible refine LeO.bind ?_ (fun _ => ?_))
   | exact ih0 _ _ _ _ _
   | exact vN.mono _ _ _ _ _
   | exact LeO.none _
   | refine LeO.ite ?_ ?_
   | refine LeO.bind ?_ (fun _ => ?_)
set_option maxHeartbeats 8000000 in
set_option maxRecDepth 100000 in
theorem vC.calls (k : Nat) (a0_0 : Int) (A0_1 : Option Addr) (c0_1 : Nat) (l0_1 : List ByteArray) (A0_2 : Option Addr) (c0_2 : Nat) (l0_2 : List (S55)) (a1 : Int) (a2 : Int) (r : List Int) (w : World) (hr0_1 : Kd.C Kd.string w A0_1 l0_1.length l0_1) (hc0_1 : l0_1.length ≤ c0_1) (hr0_2 : Kd.C k55 w A0_2 l0_2.length l0_2) (hc0_2 : l0_2.length ≤ c0_2) (h : vC.f k a0_0 l0_1 l0_2 a1 a2 = some r) :
  Calls Try.prog 68 #[.agg #[.int .i64 a0_0, .slice A0_1 l0_1.length c0_1, .slice A0_2 l0_2.length c0_2], .int .i64 a1, .int .i64 a2] w fun e w' => ∃ v0_ : Value, e = .returned (v0_) ∧ Kd.R (Kd.int .i64) 3 w' w.heap.size (fun _ => True) v0_ r ∧ Below w.heap.size w w' := by
 have hu25 := Try.underlying25
 have hu55 := Try.underlying55
 have HR0_1 := qa.mk hr0_1
 have HC0_1 := qa.mk hc0_1
 clear hr0_1 hc0_1
 have HR0_2 := qa.mk hr0_2
 have HC0_2 := qa.mk hc0_2
 clear hr0_2 hc0_2
 have HB := qa.mk (Below.refl w.heap.size w)
 have H : ((vN.f k a0_0 l0_1 l0_2 a1).bind fun t980 => (vC.l0 k a2 ([] : List Int) t980 (t980.length : Int) 0)) = some r := h
 clear h
 replace H := Option.bind_eq_some_iff.mp H
 obtain ⟨t980, A40, H⟩ := H
 replace H : (vC.l0 k a2 ([] : List Int) t980 (t980.length : Int) 0) = some r := H
 have A4 := qa.mk A40
 clear A40
 have H' := qa.mk H
 clear H
 go_enter Try.func68, Try.ntmps68
 go_wp2_with (first | ((with_reducible refine qY (N := 3) rfl ?_); refine qZ ?hg (N := 3) ?hd (cs := #[.int .i64 a0_0, .slice A0_1 l0_1.length c0_1, .slice A0_2 l0_2.length c0_2]) (t := 25) ?hr ?_; (case hd => rfl); (case hg => rfl); (case hr => first | (go_simp; done) | (go_simp; rfl)); intro gb979 hg w5 hbox hb; have n0_ := qa.mk (qD (by repeat (first | (with_reducible first | exact HB.out | apply qg | apply qb | apply qf) | exact HB.out)) hb); have n1_ := qa.mk (hbox); have n2_ := qa.mk ((by rw [hg]; exact (qA (by repeat (first | (with_reducible first | exact HB.out | apply qg | apply qb | apply qf) | exact HB.out))) : w.heap.size ≤ gb979)); have n3_ := qa.mk ((by rw [hg]; exact (qA (by repeat (first | (with_reducible first | exact HB.out | apply qg | apply qb | apply qf) | exact HB.out))) : w.heap.size ≤ gb979)); clear HB; have HB := n0_; have BK979 := n1_; have GW979 := n2_; have GE979 := n3_; clear n0_ n1_ n2_ n3_; clear hb hbox hg; have hcz6_0 : w5.cell? ⟨gb979, 0, none⟩ = some (.int .i64 a0_0) := (qj BK979.out 0).trans rfl; have hcz6_1 : w5.cell? ⟨gb979, 1, none⟩ = some (.slice A0_1 l0_1.length c0_1) := (qj BK979.out 1).trans rfl; have hcz6_2 : w5.cell? ⟨gb979, 2, none⟩ = some (.slice A0_2 l0_2.length c0_2) := (qj BK979.out 2).trans rfl; have hfz6_0 := qm BK979.out 0; have hfz6_1 := qm BK979.out 1; have hfz6_2 := qm BK979.out 2) | ((with_reducible refine qR (f := 70) rfl ?_); refine vP (some 12) rfl rfl Try.func70 (by kernel_rfl) rfl #[.agg #[.int .i64 a0_0, .slice A0_1 l0_1.length c0_1, .slice A0_2 l0_2.length c0_2], .int .i64 a1] rfl (by (try simp only [List.map_toArray, List.map_cons, List.map_nil]); first | done | rfl | (simp only [List.length_drop, List.length_take]; rfl)) ?_; (with_reducible refine (vN.calls k a0_0 _ _ l0_1 _ _ l0_2 a1 t980 _ ?side1 ?side2 ?side3 ?side4 A4.out).mono ?_); (case side1 => repeat (first | exact (Kd.qU HR0_1.out HB.out) | (with_reducible refine Kd.C_alloc ?_ _) | (with_reducible refine Kd.C_drewN ?_ _) | (with_reducible refine Kd.qQ ?_))); (case side2 => exact HC0_1.out); (case side3 => repeat (first | exact (Kd.qU HR0_2.out HB.out) | (with_reducible refine Kd.C_alloc ?_ _) | (with_reducible refine Kd.C_drewN ?_ _) | (with_reducible refine Kd.qQ ?_))); (case side4 => exact HC0_2.out); rintro e w7 ⟨v981, rfl, ho0, hb⟩; refine ⟨_, rfl, ?_⟩; have n0_ := qa.mk (Kd.vO ho0 (qA (by repeat (first | (with_reducible first | exact HB.out | apply qg | apply qb | apply qf | refine qd ?_ GE979.out) | exact HB.out)))); have n1_ := qa.mk (qB (g := gb979) (o := .cells #[.int .i64 a0_0, .slice A0_1 l0_1.length c0_1, .slice A0_2 l0_2.length c0_2] 25 (0, 0)) (by (with_reducible repeat (first | refine qi ?_ _ | refine ql ?_ | refine qh ?_ _)); exact BK979.out) hb); have n2_ := qa.mk (qD (by repeat (first | (with_reducible first | exact HB.out | apply qg | apply qb | apply qf | refine qd ?_ GE979.out) | exact HB.out)) hb); clear BK979; clear HB; have HO982 := n0_; have BK979 := n1_; have HB := n2_; clear n0_ n1_ n2_; (try clear hb); (try clear hb2); (try clear hk); (try clear hi); (try clear ho0); obtain ⟨Ao8, co8, eo8⟩ := Kd.zn HO982.out; subst eo8))
 go_loopg [7, 14] k (fun kq v7 v14 w' => ∃ (x7_1 : List Int) (x14_1 : Int), v14 = .int .i64 x14_1 ∧ qa (vC.l0 kq a2 x7_1 t980 (t980.length : Int) x14_1 = some r) ∧ qa (kq ≤ k) ∧ qa (Kd.R (Kd.int .i64) 3 w' w.heap.size (fun _ => True) v7 x7_1) ∧ qa (Kd.R k55 55 w' w.heap.size (fun _ => True) (.slice Ao8 t980.length co8) t980) ∧ qa (w'.heap[gb979]? = some (.cells #[.int .i64 a0_0, (.slice A0_1 l0_1.length c0_1), (.slice A0_2 l0_2.length c0_2)] 25 (0, 0))) ∧ qa (Below w.heap.size w w'))
 case atStart => exact ⟨(([] : List Int)), (0), (by first | rfl | (simp; done) | (simp [*]; done)), H', ⟨Nat.le_refl _⟩, ⟨by first | exact Kd.jO _ _ _ _ _ | exact Kd.N_nil _ _ _ _ _ | exact Kd.V_nil _ _ _ _ _ | exact Kd.Q_nil _ _ _ _ _ | exact Kd.S_nil _ _ _ _ _⟩, ⟨by (with_reducible repeat (first | apply Kd.R_alloc | apply Kd.qo | apply Kd.qz)); exact HO982.out⟩, ⟨by (with_reducible repeat (first | refine qi ?_ _ | refine ql ?_ | refine qh ?_ _)); exact BK979.out⟩, ⟨by repeat (first | (with_reducible first | exact HB.out | apply qg | apply qb | apply qf | refine qd ?_ GE979.out) | exact HB.out)⟩⟩
 case round =>
  clear H'
  try clear p2
  try clear c6
  try clear c7
  try clear hcz6_0
  try clear hcz6_1
  try clear hcz6_2
  try clear hfz6_0
  try clear hfz6_1
  try clear hfz6_2
  obtain ⟨x7_1, x14_1, rfl, HA, HK1, HO_7, HO_12, BK979, HB⟩ := hrel
  cases gk with
  | zero => exact absurd HA.out (by simp [vC.l0])
  | succ k1 =>
   have H := HA.out
   clear HA
   simp only [vC.l0] at H
   by_cases c9 : x14_1 < (t980.length : Int)
   ·rw [if_pos c9] at H
    have c9b0 : decide (x14_1 < (t980.length : Int)) = true := decide_eq_true c9
    clear c9
    by_cases c10 : 0 ≤ x14_1
    ·rw [if_pos c10] at H
     have c10b0 : decide (0 ≤ x14_1) = true := decide_eq_true c10
     clear c10
     by_cases c11 : x14_1 < (t980.length : Int)
     ·rw [if_pos c11] at H
      have c11b0 : decide (x14_1 < (t980.length : Int)) = true := decide_eq_true c11
      clear c11
      by_cases c12 : ((qc t980 x14_1).f1) = a2
      ·rw [if_pos c12] at H
       have c12b0 : (((qc t980 x14_1).f1) == a2) = true := beq_iff_eq.mpr c12
       have c12b1 : (((qc t980 x14_1).f1) != a2) = false := bne_eq_false_iff_eq.mpr c12
       clear c12
       by_cases c13 : x7_1.length < 17592186044416
       ·rw [if_pos c13] at H
        have LMc13 := qa.mk c13
        clear c13
        obtain ⟨y985, hy985⟩ : ∃ y_ : List Int, y_ = (x7_1 ++ [(qc t980 x14_1).f2]) := ⟨_, rfl⟩
        replace H : (vC.l0 k1 a2 y985 t980 (t980.length : Int) (wrap64 (x14_1 + 1))) = some r := by first | (rw [hy985]; with_reducible exact H) | (have H2_ := (Option.bind_some _ _).symm.trans H; rw [hy985]; with_reducible exact H2_) | (have H2_ := (Option.bind_some _ _).symm.trans H; with_reducible exact H2_) | with_reducible exact H | (rw [hy985]; exact H) | exact H
        have Ny985 := qa.mk hy985
        clear hy985
        have H' := qa.mk H
        clear H
        have p983 : 0 ≤ (x14_1 : Int) := of_decide_eq_true (by first | (with_reducible assumption) | assumption)
        have q983 : x14_1 < (t980.length : Int) := of_decide_eq_true (by first | (with_reducible assumption) | assumption)
        obtain ⟨ad983, e983, hx983_0, hx983_1, hx983_2⟩ := vU (Kd.qH HO_12.out).2.2 x14_1 p983 q983
        cases e983
        replace p983 := eq_true p983
        replace q983 := eq_true q983
        go_wp2_with (first | ((with_reducible refine qY (N := 9) rfl ?_); refine qZ ?hg (N := 9) ?hd (cs := #[.int .i64 0, .int .i64 0, .int .i64 0]) (t := 55) ?hr ?_; (case hd => rfl); (case hg => rfl); (case hr => first | (go_simp; done) | (go_simp; rfl)); intro gb984 hg w14 hbox hb; have n0_ := qa.mk (Kd.qL (by (with_reducible repeat (first | apply Kd.R_alloc | apply Kd.qo | apply Kd.qz)); exact HO_7.out) hb); have n1_ := qa.mk (Kd.qL (Kd.kF (by (with_reducible repeat (first | apply Kd.R_alloc | apply Kd.qo | apply Kd.qz)); exact HO_12.out) gb984 (Nat.le_of_eq hg.symm)) hb); have n2_ := qa.mk (qB (g := gb979) (o := .cells #[.int .i64 a0_0, .slice A0_1 l0_1.length c0_1, .slice A0_2 l0_2.length c0_2] 25 (0, 0)) (by (with_reducible repeat (first | refine qi ?_ _ | refine ql ?_ | refine qh ?_ _)); exact BK979.out) hb); have n3_ := qa.mk (qD (by repeat (first | (with_reducible first | exact HB.out | apply qg | apply qb | apply qf | refine qd ?_ GE979.out) | exact HB.out)) hb); have n4_ := qa.mk (hbox); have n5_ := qa.mk ((by rw [hg]; exact (qA (by repeat (first | (with_reducible first | exact HB.out | apply qg | apply qb | apply qf | refine qd ?_ GE979.out) | exact HB.out))) : w.heap.size ≤ gb984)); have n6_ := qa.mk ((by rw [hg]; exact (qA (by repeat (first | (with_reducible first | exact HB.out | apply qg | apply qb | apply qf | refine qd ?_ GE979.out) | exact HB.out))) : w.heap.size ≤ gb984)); have n7_ := qa.mk ((by rw [hg]; exact Nat.ne_of_lt (vz (g := gb979) (o := .cells #[.int .i64 a0_0, .slice A0_1 l0_1.length c0_1, .slice A0_2 l0_2.length c0_2] 25 (0, 0)) (by (with_reducible repeat (first | refine qi ?_ _ | refine ql ?_ | refine qh ?_ _)); exact BK979.out)) : gb979 ≠ gb984)); have n8_ := qa.mk ((by rw [hg]; exact Nat.ne_of_gt (vz (g := gb979) (o := .cells #[.int .i64 a0_0, .slice A0_1 l0_1.length c0_1, .slice A0_2 l0_2.length c0_2] 25 (0, 0)) (by (with_reducible repeat (first | refine qi ?_ _ | refine ql ?_ | refine qh ?_ _)); exact BK979.out)) : gb984 ≠ gb979)); clear HO_7; clear HO_12; clear BK979; clear HB; have HO_7 := n0_; have HO_12 := n1_; have BK979 := n2_; have HB := n3_; have BK984 := n4_; have GW984 := n5_; have GE984 := n6_; have NB979_984 := n7_; have NB984_979 := n8_; clear n0_ n1_ n2_ n3_ n4_ n5_ n6_ n7_ n8_; clear hb hbox hg; have hnb15 := NB984_979.out; have hnc15 := NB979_984.out; have hcz16_0 : w14.cell? ⟨gb984, 0, none⟩ = some (.int .i64 0) := (qj BK984.out 0).trans rfl; have hcz16_1 : w14.cell? ⟨gb984, 1, none⟩ = some (.int .i64 0) := (qj BK984.out 1).trans rfl; have hcz16_2 : w14.cell? ⟨gb984, 2, none⟩ = some (.int .i64 0) := (qj BK984.out 2).trans rfl; have hfz16_0 := qm BK984.out 0; have hfz16_1 := qm BK984.out 1; have hfz16_2 := qm BK984.out 2) | ((with_reducible refine zz (b := .append) (xs := #[.tmp 22, .tmp 25]) rfl ?_); at_builtin; refine Kd.xQ (Kd.int .i64) (w0 := w) w.heap.size rfl (.tmp 22) (.tmp 25) 28 3 (.int .i64 0) 8 rfl Try.underlying28 info3 rfl (by decide) (by omega) u7 x7_1 ((qc t980 x14_1).f2) [.int .i64 ((qc t980 x14_1).f2)] (fun _ => True) (fun _ => False) rfl (by first | (go_simp; done) | (go_simp; rfl)) ?aP (fun _ hk => hk.elim) ?aF ?aO ?aB ?aS ?aL ?_; (case aP => exact rfl); (case aB => exact (by repeat (first | (with_reducible first | exact HB.out | apply qg | apply qb | apply qf | refine qd ?_ GE979.out | refine qd ?_ GE984.out) | exact HB.out))); (case aF => exact (fun _ _ => trivial)); (case aO => exact (by (with_reducible repeat (first | apply Kd.R_alloc | apply Kd.qo | apply Kd.qz)); exact Kd.qW (Kd.vT (p := ⟨gb984, 2, none⟩) (Kd.vT (p := ⟨gb984, 1, none⟩) (Kd.vT (p := ⟨gb984, 0, none⟩) (Kd.zD HO_7.out BK984.out (by decide)) (fun _ hk => hk.2) (.int .i64 ((qc t980 x14_1).f0))) (fun _ hk => hk.2) (.int .i64 ((qc t980 x14_1).f1))) (fun _ hk => hk.2) (.int .i64 ((qc t980 x14_1).f2))) (fun _ hk => trivial))); (case aS => exact (qA (by repeat (first | (with_reducible first | exact HB.out | apply qg | apply qb | apply qf | refine qd ?_ GE979.out | refine qd ?_ GE984.out) | exact HB.out)))); (case aL => have := LMc13.out; omega); intro v986 w17 ho hb hg hat; rw [← Ny985.out] at ho; have n0_ := qa.mk (Kd.yo (by (with_reducible repeat (first | apply Kd.R_alloc | apply Kd.qo | apply Kd.qz)); exact (Kd.qW (Kd.vT (p := ⟨gb984, 2, none⟩) (Kd.vT (p := ⟨gb984, 1, none⟩) (Kd.vT (p := ⟨gb984, 0, none⟩) (Kd.qW HO_12.out (fun k_ hk => (⟨hk, hk.2⟩ : _ ∧ k_ ≠ gb984))) (fun _ hk => hk.2) (.int .i64 ((qc t980 x14_1).f0))) (fun _ hk => hk.2) (.int .i64 ((qc t980 x14_1).f1))) (fun _ hk => hk.2) (.int .i64 ((qc t980 x14_1).f2))) (fun _ h_ => h_.1))) (Kd.yh (by (with_reducible repeat (first | apply Kd.R_alloc | apply Kd.qo | apply Kd.qz)); exact (Kd.qW (Kd.vT (p := ⟨gb984, 2, none⟩) (Kd.vT (p := ⟨gb984, 1, none⟩) (Kd.vT (p := ⟨gb984, 0, none⟩) (Kd.zD HO_7.out BK984.out (by decide)) (fun _ hk => hk.2) (.int .i64 ((qc t980 x14_1).f0))) (fun _ hk => hk.2) (.int .i64 ((qc t980 x14_1).f1))) (fun _ hk => hk.2) (.int .i64 ((qc t980 x14_1).f2))) (fun _ h_ => h_.1)))) (by decide) hg); have n1_ := qa.mk (q9 (g := gb979) (o := .cells #[.int .i64 a0_0, .slice A0_1 l0_1.length c0_1, .slice A0_2 l0_2.length c0_2] 25 (0, 0)) (by (with_reducible repeat (first | refine qi ?_ _ | refine ql ?_ | refine qh ?_ _)); refine vG ?_ NB979_984.out _; (with_reducible repeat (first | refine qi ?_ _ | refine ql ?_ | refine qh ?_ _)); refine vG ?_ NB979_984.out _; (with_reducible repeat (first | refine qi ?_ _ | refine ql ?_ | refine qh ?_ _)); refine vG ?_ NB979_984.out _; (with_reducible repeat (first | refine qi ?_ _ | refine ql ?_ | refine qh ?_ _)); exact BK979.out) hg (Kd.R_ne HO_7.out BK979.out (by decide))); have n2_ := qa.mk (q9 (g := gb984) (o := .cells #[.int .i64 ((qc t980 x14_1).f0), .int .i64 ((qc t980 x14_1).f1), .int .i64 ((qc t980 x14_1).f2)] 55 (0, 0)) (by (with_reducible repeat (first | refine qi ?_ _ | refine ql ?_ | refine qh ?_ _)); refine zq (cs := #[.int .i64 ((qc t980 x14_1).f0), .int .i64 ((qc t980 x14_1).f1), .int .i64 0]) ?_ 2 _ rfl; (with_reducible repeat (first | refine qi ?_ _ | refine ql ?_ | refine qh ?_ _)); refine zq (cs := #[.int .i64 ((qc t980 x14_1).f0), .int .i64 0, .int .i64 0]) ?_ 1 _ rfl; (with_reducible repeat (first | refine qi ?_ _ | refine ql ?_ | refine qh ?_ _)); refine zq (cs := #[.int .i64 0, .int .i64 0, .int .i64 0]) ?_ 0 _ rfl; (with_reducible repeat (first | refine qi ?_ _ | refine ql ?_ | refine qh ?_ _)); exact BK984.out) hg (Kd.R_ne HO_7.out BK984.out (by decide))); have n3_ := qa.mk (hb); have n4_ := qa.mk (ho); clear HO_12; clear BK979; clear BK984; clear HB; clear HO_7; have HO_12 := n0_; have BK979 := n1_; have BK984 := n2_; have HB := n3_; have HO987 := n4_; clear n0_ n1_ n2_ n3_ n4_; clear ho hb hg hat))
        go_roundg k1
        case measure => have := HK1.out; omega
        case rel => exact ⟨(y985), (wrap64 (x14_1 + 1)), (by first | rfl | (simp; done) | (simp [*]; done)), H', ⟨by have := HK1.out; omega⟩, ⟨by (with_reducible repeat (first | apply Kd.R_alloc | apply Kd.qo | apply Kd.qz)); exact HO987.out⟩, ⟨by (with_reducible repeat (first | apply Kd.R_alloc | apply Kd.qo | apply Kd.qz)); exact Kd.qW HO_12.out (fun _ hk => trivial)⟩, ⟨by (with_reducible repeat (first | refine qi ?_ _ | refine ql ?_ | refine qh ?_ _)); exact BK979.out⟩, ⟨by repeat (first | (with_reducible first | exact HB.out | apply qg | apply qb | apply qf | refine qd ?_ GE979.out | refine qd ?_ GE984.out) | exact HB.out)⟩⟩
       ·rw [if_neg c13] at H
        exact absurd H (by simp)
      ·rw [if_neg c12] at H
       have c12b0 : (((qc t980 x14_1).f1) == a2) = false := beq_eq_false_iff_ne.mpr c12
       have c12b1 : (((qc t980 x14_1).f1) != a2) = true := bne_iff_ne.mpr c12
       have H' := qa.mk H
       clear H
       have p983 : 0 ≤ (x14_1 : Int) := of_decide_eq_true (by first | (with_reducible assumption) | assumption)
       have q983 : x14_1 < (t980.length : Int) := of_decide_eq_true (by first | (with_reducible assumption) | assumption)
       obtain ⟨ad983, e983, hx983_0, hx983_1, hx983_2⟩ := vU (Kd.qH HO_12.out).2.2 x14_1 p983 q983
       cases e983
       replace p983 := eq_true p983
       replace q983 := eq_true q983
       go_wp2_with (first | ((with_reducible refine qY (N := 9) rfl ?_); refine qZ ?hg (N := 9) ?hd (cs := #[.int .i64 0, .int .i64 0, .int .i64 0]) (t := 55) ?hr ?_; (case hd => rfl); (case hg => rfl); (case hr => first | (go_simp; done) | (go_simp; rfl)); intro gb984 hg w18 hbox hb; have n0_ := qa.mk (Kd.qL (by (with_reducible repeat (first | apply Kd.R_alloc | apply Kd.qo | apply Kd.qz)); exact HO_7.out) hb); have n1_ := qa.mk (Kd.qL (Kd.kF (by (with_reducible repeat (first | apply Kd.R_alloc | apply Kd.qo | apply Kd.qz)); exact HO_12.out) gb984 (Nat.le_of_eq hg.symm)) hb); have n2_ := qa.mk (qB (g := gb979) (o := .cells #[.int .i64 a0_0, .slice A0_1 l0_1.length c0_1, .slice A0_2 l0_2.length c0_2] 25 (0, 0)) (by (with_reducible repeat (first | refine qi ?_ _ | refine ql ?_ | refine qh ?_ _)); exact BK979.out) hb); have n3_ := qa.mk (qD (by repeat (first | (with_reducible first | exact HB.out | apply qg | apply qb | apply qf | refine qd ?_ GE979.out) | exact HB.out)) hb); have n4_ := qa.mk (hbox); have n5_ := qa.mk ((by rw [hg]; exact (qA (by repeat (first | (with_reducible first | exact HB.out | apply qg | apply qb | apply qf | refine qd ?_ GE979.out) | exact HB.out))) : w.heap.size ≤ gb984)); have n6_ := qa.mk ((by rw [hg]; exact (qA (by repeat (first | (with_reducible first | exact HB.out | apply qg | apply qb | apply qf | refine qd ?_ GE979.out) | exact HB.out))) : w.heap.size ≤ gb984)); have n7_ := qa.mk ((by rw [hg]; exact Nat.ne_of_lt (vz (g := gb979) (o := .cells #[.int .i64 a0_0, .slice A0_1 l0_1.length c0_1, .slice A0_2 l0_2.length c0_2] 25 (0, 0)) (by (with_reducible repeat (first | refine qi ?_ _ | refine ql ?_ | refine qh ?_ _)); exact BK979.out)) : gb979 ≠ gb984)); have n8_ := qa.mk ((by rw [hg]; exact Nat.ne_of_gt (vz (g := gb979) (o := .cells #[.int .i64 a0_0, .slice A0_1 l0_1.length c0_1, .slice A0_2 l0_2.length c0_2] 25 (0, 0)) (by (with_reducible repeat (first | refine qi ?_ _ | refine ql ?_ | refine qh ?_ _)); exact BK979.out)) : gb984 ≠ gb979)); clear HO_7; clear HO_12; clear BK979; clear HB; have HO_7 := n0_; have HO_12 := n1_; have BK979 := n2_; have HB := n3_; have BK984 := n4_; have GW984 := n5_; have GE984 := n6_; have NB979_984 := n7_; have NB984_979 := n8_; clear n0_ n1_ n2_ n3_ n4_ n5_ n6_ n7_ n8_; clear hb hbox hg; have hnb19 := NB984_979.out; have hnc19 := NB979_984.out; have hcz20_0 : w18.cell? ⟨gb984, 0, none⟩ = some (.int .i64 0) := (qj BK984.out 0).trans rfl; have hcz20_1 : w18.cell? ⟨gb984, 1, none⟩ = some (.int .i64 0) := (qj BK984.out 1).trans rfl; have hcz20_2 : w18.cell? ⟨gb984, 2, none⟩ = some (.int .i64 0) := (qj BK984.out 2).trans rfl; have hfz20_0 := qm BK984.out 0; have hfz20_1 := qm BK984.out 1; have hfz20_2 := qm BK984.out 2))
       go_roundg k1
       case measure => have := HK1.out; omega
       case rel => exact ⟨(x7_1), (wrap64 (x14_1 + 1)), (by first | rfl | (simp; done) | (simp [*]; done)), H', ⟨by have := HK1.out; omega⟩, ⟨by (with_reducible repeat (first | apply Kd.R_alloc | apply Kd.qo | apply Kd.qz)); exact Kd.qW (Kd.vT (p := ⟨gb984, 2, none⟩) (Kd.vT (p := ⟨gb984, 1, none⟩) (Kd.vT (p := ⟨gb984, 0, none⟩) (Kd.zD HO_7.out BK984.out (by decide)) (fun _ hk => hk.2) (.int .i64 ((qc t980 x14_1).f0))) (fun _ hk => hk.2) (.int .i64 ((qc t980 x14_1).f1))) (fun _ hk => hk.2) (.int .i64 ((qc t980 x14_1).f2))) (fun _ hk => trivial)⟩, ⟨by (with_reducible repeat (first | apply Kd.R_alloc | apply Kd.qo | apply Kd.qz)); exact Kd.qW (Kd.vT (p := ⟨gb984, 2, none⟩) (Kd.vT (p := ⟨gb984, 1, none⟩) (Kd.vT (p := ⟨gb984, 0, none⟩) (Kd.qW HO_12.out (fun k_ hk => (⟨hk, hk.2⟩ : _ ∧ k_ ≠ gb984))) (fun _ hk => hk.2) (.int .i64 ((qc t980 x14_1).f0))) (fun _ hk => hk.2) (.int .i64 ((qc t980 x14_1).f1))) (fun _ hk => hk.2) (.int .i64 ((qc t980 x14_1).f2))) (fun _ hk => trivial)⟩, ⟨by (with_reducible repeat (first | refine qi ?_ _ | refine ql ?_ | refine qh ?_ _)); refine vG ?_ NB979_984.out _; (with_reducible repeat (first | refine qi ?_ _ | refine ql ?_ | refine qh ?_ _)); refine vG ?_ NB979_984.out _; (with_reducible repeat (first | refine qi ?_ _ | refine ql ?_ | refine qh ?_ _)); refine vG ?_ NB979_984.out _; (with_reducible repeat (first | refine qi ?_ _ | refine ql ?_ | refine qh ?_ _)); exact BK979.out⟩, ⟨by repeat (first | (with_reducible first | exact HB.out | apply qg | apply qb | apply qf | refine qd ?_ GE979.out | refine qd ?_ GE984.out) | exact HB.out)⟩⟩
     ·rw [if_neg c11] at H
      exact absurd H (by simp)
    ·rw [if_neg c10] at H
     exact absurd H (by simp)
   ·rw [if_neg c9] at H
    have c9b0 : decide (x14_1 < (t980.length : Int)) = false := decide_eq_false c9
    clear c9
    obtain rfl := Option.some.inj H
    go_wp2
    go_ret
    exact ⟨_, by first | rfl | (simp [errW_none, errW_some] <;> rfl) | (simp [*, errW_none, errW_some] <;> rfl), by (with_reducible repeat (first | apply Kd.R_alloc | apply Kd.qo | apply Kd.qz)); exact HO_7.out, by repeat (first | (with_reducible first | exact HB.out | apply qg | apply qb | apply qf | refine qd ?_ GE979.out) | exact HB.out)⟩
attribute [local go_sem] vW vZ zi zk vL vK vY vV
set_option linter.unusedVariables false
set_option linter.unusedSimpArgs false
def vH.l0 : Nat → Int → Int → List Int → List (S55) → Int → Int → Option (List Int)
 | 0, _, _, _, _, _, _ => none
 | k + 1, x1, x2, x7, x14, x15, x16 => if x16 < x15 then (if 0 ≤ x16 then (if x16 < (x14.length : Int) then (if ((qc x14 x16).f2) = x1 then (if ((qc x14 x16).f1) = x2 then (if x7.length < 17592186044416 then (vH.l0 k x1 x2 (x7 ++ [(qc x14 x16).f0]) x14 x15 (wrap64 (x16 + 1))) else (none)) else (vH.l0 k x1 x2 x7 x14 x15 (wrap64 (x16 + 1)))) else (vH.l0 k x1 x2 x7 x14 x15 (wrap64 (x16 + 1)))) else (none)) else (none)) else (some x7)
def vH.f (k : Nat) (a0_0 : Int) (l0_1 : List ByteArray) (l0_2 : List (S55)) (a1 : Int) (a2 : Int) : Option (List Int) := (qK.f k a0_0 l0_1 l0_2).bind fun t989 => (if t989 = 0 then (vH.l0 k a1 a2 ([] : List Int) l0_2 (l0_2.length : Int) 0) else (some ([] : List Int)))
theorem vH.zA : ∀ k, (∀ y0 y1 y2 y3 y4 y5, LeO (vH.l0 k y0 y1 y2 y3 y4 y5) (vH.l0 (k + 1) y0 y1 y2 y3 y4 y5))
 | 0 => fun _ _ _ _ _ _ r h => by simp [vH.l0] at h
 | k + 1 => by
  have ih0 := vH.zA k
  ·intro y0 y1 y2 y3 y4 y5
   unfold vH.l0
   repeat' first
   | (with_reducible exact ih0 _ _ _ _ _ _)
   | (with_reducible exact qK.mono _ _ _ _)
   | (with_reducible exact LeO.refl _)
   | (with_reducible exact LeO.none _)
   | (with_reducible refine LeO.ite ?_ ?_)
   | (with_reducible refine LeO.bind ?_ (fun _ => ?_))
   | exact ih0 _ _ _ _ _ _
   | exact qK.mono _ _ _ _
   | exact LeO.none _
   | refine LeO.ite ?_ ?_
   | refine LeO.bind ?_ (fun _ => ?_)
theorem vH.mono : ∀ a0 a1 a2 a3 a4 k, LeO (vH.f k a0 a1 a2 a3 a4) (vH.f (k + 1) a0 a1 a2 a3 a4) := by
 intro a0 a1 a2 a3 a4 k
 have ih0 := vH.zA k
 unfold vH.f
 repeat' first
   | (with_reducible exact ih0 _ _ _ _ _ _)
   | (with_reducible exact qK.mono _ _ _ _)
   | (with_reducible exact LeO.refl _)
   | (with_reducible exact LeO.none _)
   | (with_reducible refine LeO.ite ?_ ?_)
   | (with_reducible refine LeO.bind ?_ (fun _ => ?_))
   | exact ih0 _ _ _ _ _ _
   | exact qK.mono _ _ _ _
   | exact LeO.none _
   | refine LeO.ite ?_ ?_
   | refine LeO.bind ?_ (fun _ => ?_)
set_option maxHeartbeats 8000000 in
set_option maxRecDepth 100000 in
theorem vH.calls (k : Nat) (a0_0 : Int) (A0_1 : Option Addr) (c0_1 : Nat) (l0_1 : List ByteArray) (A0_2 : Option Addr) (c0_2 : Nat) (l0_2 : List (S55)) (a1 : Int) (a2 : Int) (r : List Int) (w : World) (hr0_1 : Kd.C Kd.string w A0_1 l0_1.length l0_1) (hc0_1 : l0_1.length ≤ c0_1) (hr0_2 : Kd.C k55 w A0_2 l0_2.length l0_2) (hc0_2 : l0_2.length ≤ c0_2) (h : vH.f k a0_0 l0_1 l0_2 a1 a2 = some r) :
  Calls Try.prog 69 #[.agg #[.int .i64 a0_0, .slice A0_1 l0_1.length c0_1, .slice A0_2 l0_2.length c0_2], .int .i64 a1, .int .i64 a2] w fun e w' => ∃ v0_ : Value, e = .returned (v0_) ∧ Kd.R (Kd.int .i64) 3 w' w.heap.size (fun _ => True) v0_ r ∧ Below w.heap.size w w' := by
 have hu25 := Try.underlying25
 have hu55 := Try.underlying55
 have HR0_1 := qa.mk hr0_1
 have HC0_1 := qa.mk hc0_1
 clear hr0_1 hc0_1
 have HR0_2 := qa.mk hr0_2
 have HC0_2 := qa.mk hc0_2
 clear hr0_2 hc0_2
 have HB := qa.mk (Below.refl w.heap.size w)
 have H : ((qK.f k a0_0 l0_1 l0_2).bind fun t989 => (if t989 = 0 then (vH.l0 k a1 a2 ([] : List Int) l0_2 (l0_2.length : Int) 0) else (some ([] : List Int)))) = some r := h
 clear h
 replace H := Option.bind_eq_some_iff.mp H
 obtain ⟨t989, A40, H⟩ := H
 replace H : (if t989 = 0 then (vH.l0 k a1 a2 ([] : List Int) l0_2 (l0_2.length : Int) 0) else (some ([] : List Int))) = some r := H
 have A4 := qa.mk A40
 clear A40
 by_cases c5 : t989 = 0
 ·rw [if_pos c5] at H
  have c5b0 : (t989 == 0) = true := beq_iff_eq.mpr c5
  have c5b1 : (t989 != 0) = false := bne_eq_false_iff_eq.mpr c5
  clear c5
  have H' := qa.mk H
  clear H
  go_enter Try.func69, Try.ntmps69
  go_wp2_with (first | ((with_reducible refine qY (N := 3) rfl ?_); refine qZ ?hg (N := 3) ?hd (cs := #[.int .i64 a0_0, .slice A0_1 l0_1.length c0_1, .slice A0_2 l0_2.length c0_2]) (t := 25) ?hr ?_; (case hd => rfl); (case hg => rfl); (case hr => first | (go_simp; done) | (go_simp; rfl)); intro gb988 hg w6 hbox hb; have n0_ := qa.mk (qD (by repeat (first | (with_reducible first | exact HB.out | apply qg | apply qb | apply qf) | exact HB.out)) hb); have n1_ := qa.mk (hbox); have n2_ := qa.mk ((by rw [hg]; exact (qA (by repeat (first | (with_reducible first | exact HB.out | apply qg | apply qb | apply qf) | exact HB.out))) : w.heap.size ≤ gb988)); have n3_ := qa.mk ((by rw [hg]; exact (qA (by repeat (first | (with_reducible first | exact HB.out | apply qg | apply qb | apply qf) | exact HB.out))) : w.heap.size ≤ gb988)); clear HB; have HB := n0_; have BK988 := n1_; have GW988 := n2_; have GE988 := n3_; clear n0_ n1_ n2_ n3_; clear hb hbox hg; have hcz7_0 : w6.cell? ⟨gb988, 0, none⟩ = some (.int .i64 a0_0) := (qj BK988.out 0).trans rfl; have hcz7_1 : w6.cell? ⟨gb988, 1, none⟩ = some (.slice A0_1 l0_1.length c0_1) := (qj BK988.out 1).trans rfl; have hcz7_2 : w6.cell? ⟨gb988, 2, none⟩ = some (.slice A0_2 l0_2.length c0_2) := (qj BK988.out 2).trans rfl; have hfz7_0 := qm BK988.out 0; have hfz7_1 := qm BK988.out 1; have hfz7_2 := qm BK988.out 2) | ((with_reducible refine qR (f := 67) rfl ?_); refine vP (some 11) rfl rfl Try.func67 (by kernel_rfl) rfl #[.agg #[.int .i64 a0_0, .slice A0_1 l0_1.length c0_1, .slice A0_2 l0_2.length c0_2]] rfl (by (try simp only [List.map_toArray, List.map_cons, List.map_nil]); first | done | rfl | (simp only [List.length_drop, List.length_take]; rfl)) ?_; (with_reducible refine (qK.calls k a0_0 _ _ l0_1 _ _ l0_2 t989 _ ?side1 ?side2 ?side3 ?side4 A4.out).mono ?_); (case side1 => repeat (first | exact (Kd.qU HR0_1.out HB.out) | (with_reducible refine Kd.C_alloc ?_ _) | (with_reducible refine Kd.C_drewN ?_ _) | (with_reducible refine Kd.qQ ?_))); (case side2 => exact HC0_1.out); (case side3 => repeat (first | exact (Kd.qU HR0_2.out HB.out) | (with_reducible refine Kd.C_alloc ?_ _) | (with_reducible refine Kd.C_drewN ?_ _) | (with_reducible refine Kd.qQ ?_))); (case side4 => exact HC0_2.out); rintro e w8 ⟨rfl, hb⟩; refine ⟨_, rfl, ?_⟩; have n0_ := qa.mk (qB (g := gb988) (o := .cells #[.int .i64 a0_0, .slice A0_1 l0_1.length c0_1, .slice A0_2 l0_2.length c0_2] 25 (0, 0)) (by (with_reducible repeat (first | refine qi ?_ _ | refine ql ?_ | refine qh ?_ _)); exact BK988.out) hb); have n1_ := qa.mk (qD (by repeat (first | (with_reducible first | exact HB.out | apply qg | apply qb | apply qf | refine qd ?_ GE988.out) | exact HB.out)) hb); clear BK988; clear HB; have BK988 := n0_; have HB := n1_; clear n0_ n1_; (try clear hb); (try clear hb2); (try clear hk); (try clear hi); have hcz9_0 : w8.cell? ⟨gb988, 0, none⟩ = some (.int .i64 a0_0) := (qj BK988.out 0).trans rfl; have hcz9_1 : w8.cell? ⟨gb988, 1, none⟩ = some (.slice A0_1 l0_1.length c0_1) := (qj BK988.out 1).trans rfl; have hcz9_2 : w8.cell? ⟨gb988, 2, none⟩ = some (.slice A0_2 l0_2.length c0_2) := (qj BK988.out 2).trans rfl; have hfz9_0 := qm BK988.out 0; have hfz9_1 := qm BK988.out 1; have hfz9_2 := qm BK988.out 2))
  go_loopg [7, 16] k (fun kq v7 v16 w' => ∃ (x7_1 : List Int) (x16_1 : Int), v16 = .int .i64 x16_1 ∧ qa (vH.l0 kq a1 a2 x7_1 l0_2 (l0_2.length : Int) x16_1 = some r) ∧ qa (kq ≤ k) ∧ qa (Kd.R (Kd.int .i64) 3 w' w.heap.size (fun _ => True) v7 x7_1) ∧ qa (w'.heap[gb988]? = some (.cells #[.int .i64 a0_0, (.slice A0_1 l0_1.length c0_1), (.slice A0_2 l0_2.length c0_2)] 25 (0, 0))) ∧ qa (Below w.heap.size w w'))
  case atStart => exact ⟨(([] : List Int)), (0), (by first | rfl | (simp; done) | (simp [*]; done)), H', ⟨Nat.le_refl _⟩, ⟨by first | exact Kd.jO _ _ _ _ _ | exact Kd.N_nil _ _ _ _ _ | exact Kd.V_nil _ _ _ _ _ | exact Kd.Q_nil _ _ _ _ _ | exact Kd.S_nil _ _ _ _ _⟩, ⟨by (with_reducible repeat (first | refine qi ?_ _ | refine ql ?_ | refine qh ?_ _)); exact BK988.out⟩, ⟨by repeat (first | (with_reducible first | exact HB.out | apply qg | apply qb | apply qf | refine qd ?_ GE988.out) | exact HB.out)⟩⟩
  case round =>
   clear H'
   try clear p2
   try clear c5
   try clear c5b0
   try clear c5b1
   try clear c6
   try clear hcz7_0
   try clear hcz7_1
   try clear hcz7_2
   try clear hcz9_0
   try clear hcz9_1
   try clear hcz9_2
   try clear hfz7_0
   try clear hfz7_1
   try clear hfz7_2
   try clear hfz9_0
   try clear hfz9_1
   try clear hfz9_2
   obtain ⟨x7_1, x16_1, rfl, HA, HK1, HO_7, BK988, HB⟩ := hrel
   cases gk with
   | zero => exact absurd HA.out (by simp [vH.l0])
   | succ k1 =>
    have H := HA.out
    clear HA
    simp only [vH.l0] at H
    by_cases c10 : x16_1 < (l0_2.length : Int)
    ·rw [if_pos c10] at H
     have c10b0 : decide (x16_1 < (l0_2.length : Int)) = true := decide_eq_true c10
     clear c10
     by_cases c11 : 0 ≤ x16_1
     ·rw [if_pos c11] at H
      have c11b0 : decide (0 ≤ x16_1) = true := decide_eq_true c11
      clear c11
      by_cases c12 : x16_1 < (l0_2.length : Int)
      ·rw [if_pos c12] at H
       have c12b0 : decide (x16_1 < (l0_2.length : Int)) = true := decide_eq_true c12
       clear c12
       by_cases c13 : ((qc l0_2 x16_1).f2) = a1
       ·rw [if_pos c13] at H
        have c13b0 : (((qc l0_2 x16_1).f2) == a1) = true := beq_iff_eq.mpr c13
        have c13b1 : (((qc l0_2 x16_1).f2) != a1) = false := bne_eq_false_iff_eq.mpr c13
        clear c13
        by_cases c14 : ((qc l0_2 x16_1).f1) = a2
        ·rw [if_pos c14] at H
         have c14b0 : (((qc l0_2 x16_1).f1) == a2) = true := beq_iff_eq.mpr c14
         have c14b1 : (((qc l0_2 x16_1).f1) != a2) = false := bne_eq_false_iff_eq.mpr c14
         clear c14
         by_cases c15 : x7_1.length < 17592186044416
         ·rw [if_pos c15] at H
          have LMc15 := qa.mk c15
          clear c15
          obtain ⟨y992, hy992⟩ : ∃ y_ : List Int, y_ = (x7_1 ++ [(qc l0_2 x16_1).f0]) := ⟨_, rfl⟩
          replace H : (vH.l0 k1 a1 a2 y992 l0_2 (l0_2.length : Int) (wrap64 (x16_1 + 1))) = some r := by first | (rw [hy992]; with_reducible exact H) | (have H2_ := (Option.bind_some _ _).symm.trans H; rw [hy992]; with_reducible exact H2_) | (have H2_ := (Option.bind_some _ _).symm.trans H; with_reducible exact H2_) | with_reducible exact H | (rw [hy992]; exact H) | exact H
          have Ny992 := qa.mk hy992
          clear hy992
          have H' := qa.mk H
          clear H
          have p990 : 0 ≤ (x16_1 : Int) := of_decide_eq_true (by first | (with_reducible assumption) | assumption)
          have q990 : x16_1 < (l0_2.length : Int) := of_decide_eq_true (by first | (with_reducible assumption) | assumption)
          obtain ⟨ad990, e990, hx990_0, hx990_1, hx990_2⟩ := vU HR0_2.out x16_1 p990 q990
          cases e990
          replace hx990_0 := (HB.out.cell (World.block_lt_of_cell? w _ hx990_0)).trans hx990_0
          replace hx990_1 := (HB.out.cell (World.block_lt_of_cell? w _ hx990_1)).trans hx990_1
          replace hx990_2 := (HB.out.cell (World.block_lt_of_cell? w _ hx990_2)).trans hx990_2
          replace p990 := eq_true p990
          replace q990 := eq_true q990
          go_wp2_with (first | ((with_reducible refine qY (N := 9) rfl ?_); refine qZ ?hg (N := 9) ?hd (cs := #[.int .i64 0, .int .i64 0, .int .i64 0]) (t := 55) ?hr ?_; (case hd => rfl); (case hg => rfl); (case hr => first | (go_simp; done) | (go_simp; rfl)); intro gb991 hg w16 hbox hb; have n0_ := qa.mk (Kd.qL (by (with_reducible repeat (first | apply Kd.R_alloc | apply Kd.qo | apply Kd.qz)); exact HO_7.out) hb); have n1_ := qa.mk (qB (g := gb988) (o := .cells #[.int .i64 a0_0, .slice A0_1 l0_1.length c0_1, .slice (some ad990) l0_2.length c0_2] 25 (0, 0)) (by (with_reducible repeat (first | refine qi ?_ _ | refine ql ?_ | refine qh ?_ _)); exact BK988.out) hb); have n2_ := qa.mk (qD (by repeat (first | (with_reducible first | exact HB.out | apply qg | apply qb | apply qf | refine qd ?_ GE988.out) | exact HB.out)) hb); have n3_ := qa.mk (hbox); have n4_ := qa.mk ((by rw [hg]; exact (qA (by repeat (first | (with_reducible first | exact HB.out | apply qg | apply qb | apply qf | refine qd ?_ GE988.out) | exact HB.out))) : w.heap.size ≤ gb991)); have n5_ := qa.mk ((by rw [hg]; exact (qA (by repeat (first | (with_reducible first | exact HB.out | apply qg | apply qb | apply qf | refine qd ?_ GE988.out) | exact HB.out))) : w.heap.size ≤ gb991)); have n6_ := qa.mk ((by rw [hg]; exact Nat.ne_of_lt (vz (g := gb988) (o := .cells #[.int .i64 a0_0, .slice A0_1 l0_1.length c0_1, .slice (some ad990) l0_2.length c0_2] 25 (0, 0)) (by (with_reducible repeat (first | refine qi ?_ _ | refine ql ?_ | refine qh ?_ _)); exact BK988.out)) : gb988 ≠ gb991)); have n7_ := qa.mk ((by rw [hg]; exact Nat.ne_of_gt (vz (g := gb988) (o := .cells #[.int .i64 a0_0, .slice A0_1 l0_1.length c0_1, .slice (some ad990) l0_2.length c0_2] 25 (0, 0)) (by (with_reducible repeat (first | refine qi ?_ _ | refine ql ?_ | refine qh ?_ _)); exact BK988.out)) : gb991 ≠ gb988)); clear HO_7; clear BK988; clear HB; have HO_7 := n0_; have BK988 := n1_; have HB := n2_; have BK991 := n3_; have GW991 := n4_; have GE991 := n5_; have NB988_991 := n6_; have NB991_988 := n7_; clear n0_ n1_ n2_ n3_ n4_ n5_ n6_ n7_; clear hb hbox hg; have hnb17 := NB991_988.out; have hnc17 := NB988_991.out; have hcz18_0 : w16.cell? ⟨gb991, 0, none⟩ = some (.int .i64 0) := (qj BK991.out 0).trans rfl; have hcz18_1 : w16.cell? ⟨gb991, 1, none⟩ = some (.int .i64 0) := (qj BK991.out 1).trans rfl; have hcz18_2 : w16.cell? ⟨gb991, 2, none⟩ = some (.int .i64 0) := (qj BK991.out 2).trans rfl; have hfz18_0 := qm BK991.out 0; have hfz18_1 := qm BK991.out 1; have hfz18_2 := qm BK991.out 2) | ((with_reducible refine zz (b := .append) (xs := #[.tmp 30, .tmp 33]) rfl ?_); at_builtin; refine Kd.xQ (Kd.int .i64) (w0 := w) w.heap.size rfl (.tmp 30) (.tmp 33) 28 3 (.int .i64 0) 8 rfl Try.underlying28 info3 rfl (by decide) (by omega) u7 x7_1 ((qc l0_2 x16_1).f0) [.int .i64 ((qc l0_2 x16_1).f0)] (fun _ => True) (fun _ => False) rfl (by first | (go_simp; done) | (go_simp; rfl)) ?aP (fun _ hk => hk.elim) ?aF ?aO ?aB ?aS ?aL ?_; (case aP => exact rfl); (case aB => exact (by repeat (first | (with_reducible first | exact HB.out | apply qg | apply qb | apply qf | refine qd ?_ GE988.out | refine qd ?_ GE991.out) | exact HB.out))); (case aF => exact (fun _ _ => trivial)); (case aO => exact (by (with_reducible repeat (first | apply Kd.R_alloc | apply Kd.qo | apply Kd.qz)); exact Kd.qW (Kd.vT (p := ⟨gb991, 2, none⟩) (Kd.vT (p := ⟨gb991, 1, none⟩) (Kd.vT (p := ⟨gb991, 0, none⟩) (Kd.zD HO_7.out BK991.out (by decide)) (fun _ hk => hk.2) (.int .i64 ((qc l0_2 x16_1).f0))) (fun _ hk => hk.2) (.int .i64 ((qc l0_2 x16_1).f1))) (fun _ hk => hk.2) (.int .i64 ((qc l0_2 x16_1).f2))) (fun _ hk => trivial))); (case aS => exact (qA (by repeat (first | (with_reducible first | exact HB.out | apply qg | apply qb | apply qf | refine qd ?_ GE988.out | refine qd ?_ GE991.out) | exact HB.out)))); (case aL => have := LMc15.out; omega); intro v993 w19 ho hb hg hat; rw [← Ny992.out] at ho; have n0_ := qa.mk (q9 (g := gb988) (o := .cells #[.int .i64 a0_0, .slice A0_1 l0_1.length c0_1, .slice (some ad990) l0_2.length c0_2] 25 (0, 0)) (by (with_reducible repeat (first | refine qi ?_ _ | refine ql ?_ | refine qh ?_ _)); refine vG ?_ NB988_991.out _; (with_reducible repeat (first | refine qi ?_ _ | refine ql ?_ | refine qh ?_ _)); refine vG ?_ NB988_991.out _; (with_reducible repeat (first | refine qi ?_ _ | refine ql ?_ | refine qh ?_ _)); refine vG ?_ NB988_991.out _; (with_reducible repeat (first | refine qi ?_ _ | refine ql ?_ | refine qh ?_ _)); exact BK988.out) hg (Kd.R_ne HO_7.out BK988.out (by decide))); have n1_ := qa.mk (q9 (g := gb991) (o := .cells #[.int .i64 ((qc l0_2 x16_1).f0), .int .i64 ((qc l0_2 x16_1).f1), .int .i64 ((qc l0_2 x16_1).f2)] 55 (0, 0)) (by (with_reducible repeat (first | refine qi ?_ _ | refine ql ?_ | refine qh ?_ _)); refine zq (cs := #[.int .i64 ((qc l0_2 x16_1).f0), .int .i64 ((qc l0_2 x16_1).f1), .int .i64 0]) ?_ 2 _ rfl; (with_reducible repeat (first | refine qi ?_ _ | refine ql ?_ | refine qh ?_ _)); refine zq (cs := #[.int .i64 ((qc l0_2 x16_1).f0), .int .i64 0, .int .i64 0]) ?_ 1 _ rfl; (with_reducible repeat (first | refine qi ?_ _ | refine ql ?_ | refine qh ?_ _)); refine zq (cs := #[.int .i64 0, .int .i64 0, .int .i64 0]) ?_ 0 _ rfl; (with_reducible repeat (first | refine qi ?_ _ | refine ql ?_ | refine qh ?_ _)); exact BK991.out) hg (Kd.R_ne HO_7.out BK991.out (by decide))); have n2_ := qa.mk (hb); have n3_ := qa.mk (ho); clear BK988; clear BK991; clear HB; clear HO_7; have BK988 := n0_; have BK991 := n1_; have HB := n2_; have HO994 := n3_; clear n0_ n1_ n2_ n3_; clear ho hb hg hat))
          go_roundg k1
          case measure => have := HK1.out; omega
          case rel => exact ⟨(y992), (wrap64 (x16_1 + 1)), (by first | rfl | (simp; done) | (simp [*]; done)), H', ⟨by have := HK1.out; omega⟩, ⟨by (with_reducible repeat (first | apply Kd.R_alloc | apply Kd.qo | apply Kd.qz)); exact HO994.out⟩, ⟨by (with_reducible repeat (first | refine qi ?_ _ | refine ql ?_ | refine qh ?_ _)); exact BK988.out⟩, ⟨by repeat (first | (with_reducible first | exact HB.out | apply qg | apply qb | apply qf | refine qd ?_ GE988.out | refine qd ?_ GE991.out) | exact HB.out)⟩⟩
         ·rw [if_neg c15] at H
          exact absurd H (by simp)
        ·rw [if_neg c14] at H
         have c14b0 : (((qc l0_2 x16_1).f1) == a2) = false := beq_eq_false_iff_ne.mpr c14
         have c14b1 : (((qc l0_2 x16_1).f1) != a2) = true := bne_iff_ne.mpr c14
         have H' := qa.mk H
         clear H
         have p990 : 0 ≤ (x16_1 : Int) := of_decide_eq_true (by first | (with_reducible assumption) | assumption)
         have q990 : x16_1 < (l0_2.length : Int) := of_decide_eq_true (by first | (with_reducible assumption) | assumption)
         obtain ⟨ad990, e990, hx990_0, hx990_1, hx990_2⟩ := vU HR0_2.out x16_1 p990 q990
         cases e990
         replace hx990_0 := (HB.out.cell (World.block_lt_of_cell? w _ hx990_0)).trans hx990_0
         replace hx990_1 := (HB.out.cell (World.block_lt_of_cell? w _ hx990_1)).trans hx990_1
         replace hx990_2 := (HB.out.cell (World.block_lt_of_cell? w _ hx990_2)).trans hx990_2
         replace p990 := eq_true p990
         replace q990 := eq_true q990
         go_wp2_with (first | ((with_reducible refine qY (N := 9) rfl ?_); refine qZ ?hg (N := 9) ?hd (cs := #[.int .i64 0, .int .i64 0, .int .i64 0]) (t := 55) ?hr ?_; (case hd => rfl); (case hg => rfl); (case hr => first | (go_simp; done) | (go_simp; rfl)); intro gb991 hg w20 hbox hb; have n0_ := qa.mk (Kd.qL (by (with_reducible repeat (first | apply Kd.R_alloc | apply Kd.qo | apply Kd.qz)); exact HO_7.out) hb); have n1_ := qa.mk (qB (g := gb988) (o := .cells #[.int .i64 a0_0, .slice A0_1 l0_1.length c0_1, .slice (some ad990) l0_2.length c0_2] 25 (0, 0)) (by (with_reducible repeat (first | refine qi ?_ _ | refine ql ?_ | refine qh ?_ _)); exact BK988.out) hb); have n2_ := qa.mk (qD (by repeat (first | (with_reducible first | exact HB.out | apply qg | apply qb | apply qf | refine qd ?_ GE988.out) | exact HB.out)) hb); have n3_ := qa.mk (hbox); have n4_ := qa.mk ((by rw [hg]; exact (qA (by repeat (first | (with_reducible first | exact HB.out | apply qg | apply qb | apply qf | refine qd ?_ GE988.out) | exact HB.out))) : w.heap.size ≤ gb991)); have n5_ := qa.mk ((by rw [hg]; exact (qA (by repeat (first | (with_reducible first | exact HB.out | apply qg | apply qb | apply qf | refine qd ?_ GE988.out) | exact HB.out))) : w.heap.size ≤ gb991)); have n6_ := qa.mk ((by rw [hg]; exact Nat.ne_of_lt (vz (g := gb988) (o := .cells #[.int .i64 a0_0, .slice A0_1 l0_1.length c0_1, .slice (some ad990) l0_2.length c0_2] 25 (0, 0)) (by (with_reducible repeat (first | refine qi ?_ _ | refine ql ?_ | refine qh ?_ _)); exact BK988.out)) : gb988 ≠ gb991)); have n7_ := qa.mk ((by rw [hg]; exact Nat.ne_of_gt (vz (g := gb988) (o := .cells #[.int .i64 a0_0, .slice A0_1 l0_1.length c0_1, .slice (some ad990) l0_2.length c0_2] 25 (0, 0)) (by (with_reducible repeat (first | refine qi ?_ _ | refine ql ?_ | refine qh ?_ _)); exact BK988.out)) : gb991 ≠ gb988)); clear HO_7; clear BK988; clear HB; have HO_7 := n0_; have BK988 := n1_; have HB := n2_; have BK991 := n3_; have GW991 := n4_; have GE991 := n5_; have NB988_991 := n6_; have NB991_988 := n7_; clear n0_ n1_ n2_ n3_ n4_ n5_ n6_ n7_; clear hb hbox hg; have hnb21 := NB991_988.out; have hnc21 := NB988_991.out; have hcz22_0 : w20.cell? ⟨gb991, 0, none⟩ = some (.int .i64 0) := (qj BK991.out 0).trans rfl; have hcz22_1 : w20.cell? ⟨gb991, 1, none⟩ = some (.int .i64 0) := (qj BK991.out 1).trans rfl; have hcz22_2 : w20.cell? ⟨gb991, 2, none⟩ = some (.int .i64 0) := (qj BK991.out 2).trans rfl; have hfz22_0 := qm BK991.out 0; have hfz22_1 := qm BK991.out 1; have hfz22_2 := qm BK991.out 2))
         go_roundg k1
         case measure => have := HK1.out; omega
         case rel => exact ⟨(x7_1), (wrap64 (x16_1 + 1)), (by first | rfl | (simp; done) | (simp [*]; done)), H', ⟨by have := HK1.out; omega⟩, ⟨by (with_reducible repeat (first | apply Kd.R_alloc | apply Kd.qo | apply Kd.qz)); exact Kd.qW (Kd.vT (p := ⟨gb991, 2, none⟩) (Kd.vT (p := ⟨gb991, 1, none⟩) (Kd.vT (p := ⟨gb991, 0, none⟩) (Kd.zD HO_7.out BK991.out (by decide)) (fun _ hk => hk.2) (.int .i64 ((qc l0_2 x16_1).f0))) (fun _ hk => hk.2) (.int .i64 ((qc l0_2 x16_1).f1))) (fun _ hk => hk.2) (.int .i64 ((qc l0_2 x16_1).f2))) (fun _ hk => trivial)⟩, ⟨by (with_reducible repeat (first | refine qi ?_ _ | refine ql ?_ | refine qh ?_ _)); refine vG ?_ NB988_991.out _; (with_reducible repeat (first | refine qi ?_ _ | refine ql ?_ | refine qh ?_ _)); refine vG ?_ NB988_991.out _; (with_reducible repeat (first | refine qi ?_ _ | refine ql ?_ | refine qh ?_ _)); refine vG ?_ NB988_991.out _; (with_reducible repeat (first | refine qi ?_ _ | refine ql ?_ | refine qh ?_ _)); exact BK988.out⟩, ⟨by repeat (first | (with_reducible first | exact HB.out | apply qg | apply qb | apply qf | refine qd ?_ GE988.out | refine qd ?_ GE991.out) | exact HB.out)⟩⟩
       ·rw [if_neg c13] at H
        have c13b0 : (((qc l0_2 x16_1).f2) == a1) = false := beq_eq_false_iff_ne.mpr c13
        have c13b1 : (((qc l0_2 x16_1).f2) != a1) = true := bne_iff_ne.mpr c13
        have H' := qa.mk H
        clear H
        have p990 : 0 ≤ (x16_1 : Int) := of_decide_eq_true (by first | (with_reducible assumption) | assumption)
        have q990 : x16_1 < (l0_2.length : Int) := of_decide_eq_true (by first | (with_reducible assumption) | assumption)
        obtain ⟨ad990, e990, hx990_0, hx990_1, hx990_2⟩ := vU HR0_2.out x16_1 p990 q990
        cases e990
        replace hx990_0 := (HB.out.cell (World.block_lt_of_cell? w _ hx990_0)).trans hx990_0
        replace hx990_1 := (HB.out.cell (World.block_lt_of_cell? w _ hx990_1)).trans hx990_1
        replace hx990_2 := (HB.out.cell (World.block_lt_of_cell? w _ hx990_2)).trans hx990_2
        replace p990 := eq_true p990
        replace q990 := eq_true q990
        go_wp2_with (first | ((with_reducible refine qY (N := 9) rfl ?_); refine qZ ?hg (N := 9) ?hd (cs := #[.int .i64 0, .int .i64 0, .int .i64 0]) (t := 55) ?hr ?_; (case hd => rfl); (case hg => rfl); (case hr => first | (go_simp; done) | (go_simp; rfl)); intro gb991 hg w23 hbox hb; have n0_ := qa.mk (Kd.qL (by (with_reducible repeat (first | apply Kd.R_alloc | apply Kd.qo | apply Kd.qz)); exact HO_7.out) hb); have n1_ := qa.mk (qB (g := gb988) (o := .cells #[.int .i64 a0_0, .slice A0_1 l0_1.length c0_1, .slice (some ad990) l0_2.length c0_2] 25 (0, 0)) (by (with_reducible repeat (first | refine qi ?_ _ | refine ql ?_ | refine qh ?_ _)); exact BK988.out) hb); have n2_ := qa.mk (qD (by repeat (first | (with_reducible first | exact HB.out | apply qg | apply qb | apply qf | refine qd ?_ GE988.out) | exact HB.out)) hb); have n3_ := qa.mk (hbox); have n4_ := qa.mk ((by rw [hg]; exact (qA (by repeat (first | (with_reducible first | exact HB.out | apply qg | apply qb | apply qf | refine qd ?_ GE988.out) | exact HB.out))) : w.heap.size ≤ gb991)); have n5_ := qa.mk ((by rw [hg]; exact (qA (by repeat (first | (with_reducible first | exact HB.out | apply qg | apply qb | apply qf | refine qd ?_ GE988.out) | exact HB.out))) : w.heap.size ≤ gb991)); have n6_ := qa.mk ((by rw [hg]; exact Nat.ne_of_lt (vz (g := gb988) (o := .cells #[.int .i64 a0_0, .slice A0_1 l0_1.length c0_1, .slice (some ad990) l0_2.length c0_2] 25 (0, 0)) (by (with_reducible repeat (first | refine qi ?_ _ | refine ql ?_ | refine qh ?_ _)); exact BK988.out)) : gb988 ≠ gb991)); have n7_ := qa.mk ((by rw [hg]; exact Nat.ne_of_gt (vz (g := gb988) (o := .cells #[.int .i64 a0_0, .slice A0_1 l0_1.length c0_1, .slice (some ad990) l0_2.length c0_2] 25 (0, 0)) (by (with_reducible repeat (first | refine qi ?_ _ | refine ql ?_ | refine qh ?_ _)); exact BK988.out)) : gb991 ≠ gb988)); clear HO_7; clear BK988; clear HB; have HO_7 := n0_; have BK988 := n1_; have HB := n2_; have BK991 := n3_; have GW991 := n4_; have GE991 := n5_; have NB988_991 := n6_; have NB991_988 := n7_; clear n0_ n1_ n2_ n3_ n4_ n5_ n6_ n7_; clear hb hbox hg; have hnb24 := NB991_988.out; have hnc24 := NB988_991.out; have hcz25_0 : w23.cell? ⟨gb991, 0, none⟩ = some (.int .i64 0) := (qj BK991.out 0).trans rfl; have hcz25_1 : w23.cell? ⟨gb991, 1, none⟩ = some (.int .i64 0) := (qj BK991.out 1).trans rfl; have hcz25_2 : w23.cell? ⟨gb991, 2, none⟩ = some (.int .i64 0) := (qj BK991.out 2).trans rfl; have hfz25_0 := qm BK991.out 0; have hfz25_1 := qm BK991.out 1; have hfz25_2 := qm BK991.out 2))
        go_roundg k1
        case measure => have := HK1.out; omega
        case rel => exact ⟨(x7_1), (wrap64 (x16_1 + 1)), (by first | rfl | (simp; done) | (simp [*]; done)), H', ⟨by have := HK1.out; omega⟩, ⟨by (with_reducible repeat (first | apply Kd.R_alloc | apply Kd.qo | apply Kd.qz)); exact Kd.qW (Kd.vT (p := ⟨gb991, 2, none⟩) (Kd.vT (p := ⟨gb991, 1, none⟩) (Kd.vT (p := ⟨gb991, 0, none⟩) (Kd.zD HO_7.out BK991.out (by decide)) (fun _ hk => hk.2) (.int .i64 ((qc l0_2 x16_1).f0))) (fun _ hk => hk.2) (.int .i64 ((qc l0_2 x16_1).f1))) (fun _ hk => hk.2) (.int .i64 ((qc l0_2 x16_1).f2))) (fun _ hk => trivial)⟩, ⟨by (with_reducible repeat (first | refine qi ?_ _ | refine ql ?_ | refine qh ?_ _)); refine vG ?_ NB988_991.out _; (with_reducible repeat (first | refine qi ?_ _ | refine ql ?_ | refine qh ?_ _)); refine vG ?_ NB988_991.out _; (with_reducible repeat (first | refine qi ?_ _ | refine ql ?_ | refine qh ?_ _)); refine vG ?_ NB988_991.out _; (with_reducible repeat (first | refine qi ?_ _ | refine ql ?_ | refine qh ?_ _)); exact BK988.out⟩, ⟨by repeat (first | (with_reducible first | exact HB.out | apply qg | apply qb | apply qf | refine qd ?_ GE988.out | refine qd ?_ GE991.out) | exact HB.out)⟩⟩
      ·rw [if_neg c12] at H
       exact absurd H (by simp)
     ·rw [if_neg c11] at H
      exact absurd H (by simp)
    ·rw [if_neg c10] at H
     have c10b0 : decide (x16_1 < (l0_2.length : Int)) = false := decide_eq_false c10
     clear c10
     obtain rfl := Option.some.inj H
     go_wp2
     go_ret
     exact ⟨_, by first | rfl | (simp [errW_none, errW_some] <;> rfl) | (simp [*, errW_none, errW_some] <;> rfl), by (with_reducible repeat (first | apply Kd.R_alloc | apply Kd.qo | apply Kd.qz)); exact HO_7.out, by repeat (first | (with_reducible first | exact HB.out | apply qg | apply qb | apply qf | refine qd ?_ GE988.out) | exact HB.out)⟩
 ·rw [if_neg c5] at H
  have c5b0 : (t989 == 0) = false := beq_eq_false_iff_ne.mpr c5
  have c5b1 : (t989 != 0) = true := bne_iff_ne.mpr c5
  obtain rfl := Option.some.inj H
  go_enter Try.func69, Try.ntmps69
  go_wp2_with (first | ((with_reducible refine qY (N := 3) rfl ?_); refine qZ ?hg (N := 3) ?hd (cs := #[.int .i64 a0_0, .slice A0_1 l0_1.length c0_1, .slice A0_2 l0_2.length c0_2]) (t := 25) ?hr ?_; (case hd => rfl); (case hg => rfl); (case hr => first | (go_simp; done) | (go_simp; rfl)); intro gb988 hg w26 hbox hb; have n0_ := qa.mk (qD (by repeat (first | (with_reducible first | exact HB.out | apply qg | apply qb | apply qf) | exact HB.out)) hb); have n1_ := qa.mk (hbox); have n2_ := qa.mk ((by rw [hg]; exact (qA (by repeat (first | (with_reducible first | exact HB.out | apply qg | apply qb | apply qf) | exact HB.out))) : w.heap.size ≤ gb988)); have n3_ := qa.mk ((by rw [hg]; exact (qA (by repeat (first | (with_reducible first | exact HB.out | apply qg | apply qb | apply qf) | exact HB.out))) : w.heap.size ≤ gb988)); clear HB; have HB := n0_; have BK988 := n1_; have GW988 := n2_; have GE988 := n3_; clear n0_ n1_ n2_ n3_; clear hb hbox hg; have hcz27_0 : w26.cell? ⟨gb988, 0, none⟩ = some (.int .i64 a0_0) := (qj BK988.out 0).trans rfl; have hcz27_1 : w26.cell? ⟨gb988, 1, none⟩ = some (.slice A0_1 l0_1.length c0_1) := (qj BK988.out 1).trans rfl; have hcz27_2 : w26.cell? ⟨gb988, 2, none⟩ = some (.slice A0_2 l0_2.length c0_2) := (qj BK988.out 2).trans rfl; have hfz27_0 := qm BK988.out 0; have hfz27_1 := qm BK988.out 1; have hfz27_2 := qm BK988.out 2) | ((with_reducible refine qR (f := 67) rfl ?_); refine vP (some 11) rfl rfl Try.func67 (by kernel_rfl) rfl #[.agg #[.int .i64 a0_0, .slice A0_1 l0_1.length c0_1, .slice A0_2 l0_2.length c0_2]] rfl (by (try simp only [List.map_toArray, List.map_cons, List.map_nil]); first | done | rfl | (simp only [List.length_drop, List.length_take]; rfl)) ?_; (with_reducible refine (qK.calls k a0_0 _ _ l0_1 _ _ l0_2 t989 _ ?side1 ?side2 ?side3 ?side4 A4.out).mono ?_); (case side1 => repeat (first | exact (Kd.qU HR0_1.out HB.out) | (with_reducible refine Kd.C_alloc ?_ _) | (with_reducible refine Kd.C_drewN ?_ _) | (with_reducible refine Kd.qQ ?_))); (case side2 => exact HC0_1.out); (case side3 => repeat (first | exact (Kd.qU HR0_2.out HB.out) | (with_reducible refine Kd.C_alloc ?_ _) | (with_reducible refine Kd.C_drewN ?_ _) | (with_reducible refine Kd.qQ ?_))); (case side4 => exact HC0_2.out); rintro e w28 ⟨rfl, hb⟩; refine ⟨_, rfl, ?_⟩; have n0_ := qa.mk (qB (g := gb988) (o := .cells #[.int .i64 a0_0, .slice A0_1 l0_1.length c0_1, .slice A0_2 l0_2.length c0_2] 25 (0, 0)) (by (with_reducible repeat (first | refine qi ?_ _ | refine ql ?_ | refine qh ?_ _)); exact BK988.out) hb); have n1_ := qa.mk (qD (by repeat (first | (with_reducible first | exact HB.out | apply qg | apply qb | apply qf | refine qd ?_ GE988.out) | exact HB.out)) hb); clear BK988; clear HB; have BK988 := n0_; have HB := n1_; clear n0_ n1_; (try clear hb); (try clear hb2); (try clear hk); (try clear hi)))
  go_ret
  exact ⟨_, by first | rfl | (simp [errW_none, errW_some] <;> rfl) | (simp [*, errW_none, errW_some] <;> rfl), by first | exact Kd.jO _ _ _ _ _ | exact Kd.N_nil _ _ _ _ _ | exact Kd.V_nil _ _ _ _ _ | exact Kd.Q_nil _ _ _ _ _ | exact Kd.S_nil _ _ _ _ _, by repeat (first | (with_reducible first | exact HB.out | apply qg | apply qb | apply qf | refine qd ?_ GE988.out) | exact HB.out)⟩
attribute [local go_sem] vW vZ zi zk vL vK vY vV
set_option linter.unusedVariables false
set_option linter.unusedSimpArgs false
def qX.l0 : Nat → List (S55) → Int → Int → Int → List ByteArray → List (S55) → Option (Bool)
 | 0, _, _, _, _, _, _ => none
 | k + 1, x6, x7, x8, x433000, x433001, x433002 => if x8 < x7 then (if 0 ≤ x8 then (if x8 < (x6.length : Int) then (if x8 > 0 then (if 0 ≤ (wrap64 (x8 - 1)) then (if (wrap64 (x8 - 1)) < (x433002.length : Int) then (if ((qc x433002 (wrap64 (x8 - 1))).f0) = ((qc x6 x8).f0) then (if ((qc x433002 (wrap64 (x8 - 1))).f1) = ((qc x6 x8).f1) then (some false) else (qX.l0 k x6 x7 (wrap64 (x8 + 1)) x433000 x433001 x433002)) else (qX.l0 k x6 x7 (wrap64 (x8 + 1)) x433000 x433001 x433002)) else (none)) else (none)) else (qX.l0 k x6 x7 (wrap64 (x8 + 1)) x433000 x433001 x433002)) else (none)) else (none)) else ((qK.f k x433000 x433001 x433002).bind fun t437 => (some (t437 == 0)))
def qX.f (k : Nat) (a0_0 : Int) (l0_1 : List ByteArray) (l0_2 : List (S55)) : Option (Bool) := qX.l0 k l0_2 (l0_2.length : Int) 0 a0_0 l0_1 l0_2
theorem qX.zA : ∀ k, (∀ y0 y1 y2 y3 y4 y5, LeO (qX.l0 k y0 y1 y2 y3 y4 y5) (qX.l0 (k + 1) y0 y1 y2 y3 y4 y5))
 | 0 => fun _ _ _ _ _ _ r h => by simp [qX.l0] at h
 | k + 1 => by
  have ih0 := qX.zA k
  ·intro y0 y1 y2 y3 y4 y5
   unfold qX.l0
   repeat' first
   | (with_reducible exact ih0 _ _ _ _ _ _)
   | (with_reducible exact qK.mono _ _ _ _)
   | (with_reducible exact LeO.refl _)
   | (with_reducible exact LeO.none _)
   | (with_reducible refine LeO.ite ?_ ?_)
   | (with_reducible refine LeO.bind ?_ (fun _ => ?_))
   | exact ih0 _ _ _ _ _ _
   | exact qK.mono _ _ _ _
   | exact LeO.none _
   | refine LeO.ite ?_ ?_
   | refine LeO.bind ?_ (fun _ => ?_)
theorem qX.mono : ∀ a0 a1 a2 k, LeO (qX.f k a0 a1 a2) (qX.f (k + 1) a0 a1 a2) := by
 intro a0 a1 a2 k
 have ih0 := qX.zA k
 unfold qX.f
 repeat' first
   | (with_reducible exact ih0 _ _ _ _ _ _)
   | (with_reducible exact qK.mono _ _ _ _)
   | (with_reducible exact LeO.refl _)
   | (with_reducible exact LeO.none _)
   | (with_reducible refine LeO.ite ?_ ?_)
   | (with_reducible refine LeO.bind ?_ (fun _ => ?_))
   | exact ih0 _ _ _ _ _ _
   | exact qK.mono _ _ _ _
   | exact LeO.none _
   | refine LeO.ite ?_ ?_
   | refine LeO.bind ?_ (fun _ => ?_)
set_option maxHeartbeats 8000000 in
set_option maxRecDepth 100000 in
theorem qX.calls (k : Nat) (a0_0 : Int) (A0_1 : Option Addr) (c0_1 : Nat) (l0_1 : List ByteArray) (A0_2 : Option Addr) (c0_2 : Nat) (l0_2 : List (S55)) (r : Bool) (w : World) (hr0_1 : Kd.C Kd.string w A0_1 l0_1.length l0_1) (hc0_1 : l0_1.length ≤ c0_1) (hr0_2 : Kd.C k55 w A0_2 l0_2.length l0_2) (hc0_2 : l0_2.length ≤ c0_2) (h : qX.f k a0_0 l0_1 l0_2 = some r) :
  Calls Try.prog 71 #[.agg #[.int .i64 a0_0, .slice A0_1 l0_1.length c0_1, .slice A0_2 l0_2.length c0_2]] w fun e w' => e = .returned (.bool r) ∧ Below w.heap.size w w' := by
 have hu25 := Try.underlying25
 have hu55 := Try.underlying55
 have HR0_1 := qa.mk hr0_1
 have HC0_1 := qa.mk hc0_1
 clear hr0_1 hc0_1
 have HR0_2 := qa.mk hr0_2
 have HC0_2 := qa.mk hc0_2
 clear hr0_2 hc0_2
 have HB := qa.mk (Below.refl w.heap.size w)
 have H : (qX.l0 k l0_2 (l0_2.length : Int) 0 a0_0 l0_1 l0_2) = some r := h
 clear h
 have H' := qa.mk H
 clear H
 go_enter Try.func71, Try.ntmps71
 go_wp2_with (first | ((with_reducible refine qY (N := 1) rfl ?_); refine qZ ?hg (N := 1) ?hd (cs := #[.int .i64 a0_0, .slice A0_1 l0_1.length c0_1, .slice A0_2 l0_2.length c0_2]) (t := 25) ?hr ?_; (case hd => rfl); (case hg => rfl); (case hr => first | (go_simp; done) | (go_simp; rfl)); intro gb432 hg w2 hbox hb; have n0_ := qa.mk (qD (by repeat (first | (with_reducible first | exact HB.out | apply qg | apply qb | apply qf) | exact HB.out)) hb); have n1_ := qa.mk (hbox); have n2_ := qa.mk ((by rw [hg]; exact (qA (by repeat (first | (with_reducible first | exact HB.out | apply qg | apply qb | apply qf) | exact HB.out))) : w.heap.size ≤ gb432)); have n3_ := qa.mk ((by rw [hg]; exact (qA (by repeat (first | (with_reducible first | exact HB.out | apply qg | apply qb | apply qf) | exact HB.out))) : w.heap.size ≤ gb432)); clear HB; have HB := n0_; have BK432 := n1_; have GW432 := n2_; have GE432 := n3_; clear n0_ n1_ n2_ n3_; clear hb hbox hg; have hcz3_0 : w2.cell? ⟨gb432, 0, none⟩ = some (.int .i64 a0_0) := (qj BK432.out 0).trans rfl; have hcz3_1 : w2.cell? ⟨gb432, 1, none⟩ = some (.slice A0_1 l0_1.length c0_1) := (qj BK432.out 1).trans rfl; have hcz3_2 : w2.cell? ⟨gb432, 2, none⟩ = some (.slice A0_2 l0_2.length c0_2) := (qj BK432.out 2).trans rfl; have hfz3_0 := qm BK432.out 0; have hfz3_1 := qm BK432.out 1; have hfz3_2 := qm BK432.out 2))
 repeat (go_quiet (first | ((with_reducible refine qY (N := 1) rfl ?_); refine qZ ?hg (N := 1) ?hd (cs := #[.int .i64 a0_0, .slice A0_1 l0_1.length c0_1, .slice A0_2 l0_2.length c0_2]) (t := 25) ?hr ?_; (case hd => rfl); (case hg => rfl); (case hr => first | (go_simp; done) | (go_simp; rfl)); intro gb432 hg w2 hbox hb; have n0_ := qa.mk (qD (by repeat (first | (with_reducible first | exact HB.out | apply qg | apply qb | apply qf) | exact HB.out)) hb); have n1_ := qa.mk (hbox); have n2_ := qa.mk ((by rw [hg]; exact (qA (by repeat (first | (with_reducible first | exact HB.out | apply qg | apply qb | apply qf) | exact HB.out))) : w.heap.size ≤ gb432)); have n3_ := qa.mk ((by rw [hg]; exact (qA (by repeat (first | (with_reducible first | exact HB.out | apply qg | apply qb | apply qf) | exact HB.out))) : w.heap.size ≤ gb432)); clear HB; have HB := n0_; have BK432 := n1_; have GW432 := n2_; have GE432 := n3_; clear n0_ n1_ n2_ n3_; clear hb hbox hg; have hcz3_0 : w2.cell? ⟨gb432, 0, none⟩ = some (.int .i64 a0_0) := (qj BK432.out 0).trans rfl; have hcz3_1 : w2.cell? ⟨gb432, 1, none⟩ = some (.slice A0_1 l0_1.length c0_1) := (qj BK432.out 1).trans rfl; have hcz3_2 : w2.cell? ⟨gb432, 2, none⟩ = some (.slice A0_2 l0_2.length c0_2) := (qj BK432.out 2).trans rfl; have hfz3_0 := qm BK432.out 0; have hfz3_1 := qm BK432.out 1; have hfz3_2 := qm BK432.out 2)); try go_wp2_with (first | ((with_reducible refine qY (N := 1) rfl ?_); refine qZ ?hg (N := 1) ?hd (cs := #[.int .i64 a0_0, .slice A0_1 l0_1.length c0_1, .slice A0_2 l0_2.length c0_2]) (t := 25) ?hr ?_; (case hd => rfl); (case hg => rfl); (case hr => first | (go_simp; done) | (go_simp; rfl)); intro gb432 hg w2 hbox hb; have n0_ := qa.mk (qD (by repeat (first | (with_reducible first | exact HB.out | apply qg | apply qb | apply qf) | exact HB.out)) hb); have n1_ := qa.mk (hbox); have n2_ := qa.mk ((by rw [hg]; exact (qA (by repeat (first | (with_reducible first | exact HB.out | apply qg | apply qb | apply qf) | exact HB.out))) : w.heap.size ≤ gb432)); have n3_ := qa.mk ((by rw [hg]; exact (qA (by repeat (first | (with_reducible first | exact HB.out | apply qg | apply qb | apply qf) | exact HB.out))) : w.heap.size ≤ gb432)); clear HB; have HB := n0_; have BK432 := n1_; have GW432 := n2_; have GE432 := n3_; clear n0_ n1_ n2_ n3_; clear hb hbox hg; have hcz3_0 : w2.cell? ⟨gb432, 0, none⟩ = some (.int .i64 a0_0) := (qj BK432.out 0).trans rfl; have hcz3_1 : w2.cell? ⟨gb432, 1, none⟩ = some (.slice A0_1 l0_1.length c0_1) := (qj BK432.out 1).trans rfl; have hcz3_2 : w2.cell? ⟨gb432, 2, none⟩ = some (.slice A0_2 l0_2.length c0_2) := (qj BK432.out 2).trans rfl; have hfz3_0 := qm BK432.out 0; have hfz3_1 := qm BK432.out 1; have hfz3_2 := qm BK432.out 2)))
 go_loopg [8] k (fun kq v8 w' => ∃ (x8_1 : Int), v8 = .int .i64 x8_1 ∧ qa (qX.l0 kq l0_2 (l0_2.length : Int) x8_1 a0_0 l0_1 l0_2 = some r) ∧ qa (kq ≤ k) ∧ qa (w'.heap[gb432]? = some (.cells #[.int .i64 a0_0, (.slice A0_1 l0_1.length c0_1), (.slice A0_2 l0_2.length c0_2)] 25 (0, 0))) ∧ qa (Below w.heap.size w w'))
 case atStart => exact ⟨(0), (by first | rfl | (simp; done) | (simp [*]; done)), H', ⟨Nat.le_refl _⟩, ⟨by (with_reducible repeat (first | refine qi ?_ _ | refine ql ?_ | refine qh ?_ _)); exact BK432.out⟩, ⟨by repeat (first | (with_reducible first | exact HB.out | apply qg | apply qb | apply qf | refine qd ?_ GE432.out) | exact HB.out)⟩⟩
 case round =>
  clear H'
  try clear p2
  try clear hcz3_0
  try clear hcz3_1
  try clear hcz3_2
  try clear hfz3_0
  try clear hfz3_1
  try clear hfz3_2
  obtain ⟨x8_1, rfl, HA, HK1, BK432, HB⟩ := hrel
  cases gk with
  | zero => exact absurd HA.out (by simp [qX.l0])
  | succ k1 =>
   have H := HA.out
   clear HA
   simp only [qX.l0] at H
   by_cases c4 : x8_1 < (l0_2.length : Int)
   ·rw [if_pos c4] at H
    have c4b0 : decide (x8_1 < (l0_2.length : Int)) = true := decide_eq_true c4
    clear c4
    by_cases c5 : 0 ≤ x8_1
    ·rw [if_pos c5] at H
     have c5b0 : decide (0 ≤ x8_1) = true := decide_eq_true c5
     clear c5
     by_cases c6 : x8_1 < (l0_2.length : Int)
     ·rw [if_pos c6] at H
      have c6b0 : decide (x8_1 < (l0_2.length : Int)) = true := decide_eq_true c6
      clear c6
      by_cases c7 : x8_1 > 0
      ·rw [if_pos c7] at H
       have c7b0 : decide (0 < x8_1) = true := decide_eq_true c7
       clear c7
       obtain ⟨ji8, hji8⟩ : ∃ j_ : Int, (wrap64 (x8_1 - 1)) = j_ := ⟨_, rfl⟩
       replace H : (if 0 ≤ (ji8) then (if (ji8) < (l0_2.length : Int) then (if ((qc l0_2 (ji8)).f0) = ((qc l0_2 x8_1).f0) then (if ((qc l0_2 (ji8)).f1) = ((qc l0_2 x8_1).f1) then (some false) else (qX.l0 k1 l0_2 (l0_2.length : Int) (wrap64 (x8_1 + 1)) a0_0 l0_1 l0_2)) else (qX.l0 k1 l0_2 (l0_2.length : Int) (wrap64 (x8_1 + 1)) a0_0 l0_1 l0_2)) else (none)) else (none)) = some r := by first | (rw [hji8] at H; exact H) | (simp only [hji8] at H ⊢; exact H)
       have hji8w : (IntKind.i64.wrap (x8_1 - 1)) = ji8 := (qw _).trans hji8
       by_cases c9 : 0 ≤ (ji8)
       ·rw [if_pos c9] at H
        have c9b0 : decide (0 ≤ (ji8)) = true := decide_eq_true c9
        clear c9
        by_cases c10 : (ji8) < (l0_2.length : Int)
        ·rw [if_pos c10] at H
         have c10b0 : decide ((ji8) < (l0_2.length : Int)) = true := decide_eq_true c10
         clear c10
         by_cases c11 : ((qc l0_2 (ji8)).f0) = ((qc l0_2 x8_1).f0)
         ·rw [if_pos c11] at H
          have c11b0 : (((qc l0_2 (ji8)).f0) == ((qc l0_2 x8_1).f0)) = true := beq_iff_eq.mpr c11
          have c11b1 : (((qc l0_2 (ji8)).f0) != ((qc l0_2 x8_1).f0)) = false := bne_eq_false_iff_eq.mpr c11
          clear c11
          by_cases c12 : ((qc l0_2 (ji8)).f1) = ((qc l0_2 x8_1).f1)
          ·rw [if_pos c12] at H
           have c12b0 : (((qc l0_2 (ji8)).f1) == ((qc l0_2 x8_1).f1)) = true := beq_iff_eq.mpr c12
           have c12b1 : (((qc l0_2 (ji8)).f1) != ((qc l0_2 x8_1).f1)) = false := bne_eq_false_iff_eq.mpr c12
           clear c12
           obtain rfl := Option.some.inj H
           have p433 : 0 ≤ (x8_1 : Int) := of_decide_eq_true (by first | (with_reducible assumption) | assumption)
           have q433 : x8_1 < (l0_2.length : Int) := of_decide_eq_true (by first | (with_reducible assumption) | assumption)
           obtain ⟨ad433, e433, hx433_0, hx433_1, hx433_2⟩ := vU HR0_2.out x8_1 p433 q433
           cases e433
           replace hx433_0 := (HB.out.cell (World.block_lt_of_cell? w _ hx433_0)).trans hx433_0
           replace hx433_1 := (HB.out.cell (World.block_lt_of_cell? w _ hx433_1)).trans hx433_1
           replace hx433_2 := (HB.out.cell (World.block_lt_of_cell? w _ hx433_2)).trans hx433_2
           replace p433 := eq_true p433
           replace q433 := eq_true q433
           go_wp2_with (first | ((with_reducible refine qY (N := 4) rfl ?_); refine qZ ?hg (N := 4) ?hd (cs := #[.int .i64 0, .int .i64 0, .int .i64 0]) (t := 55) ?hr ?_; (case hd => rfl); (case hg => rfl); (case hr => first | (go_simp; done) | (go_simp; rfl)); intro gb434 hg w13 hbox hb; have n0_ := qa.mk (qB (g := gb432) (o := .cells #[.int .i64 a0_0, .slice A0_1 l0_1.length c0_1, .slice (some ad433) l0_2.length c0_2] 25 (0, 0)) (by (with_reducible repeat (first | refine qi ?_ _ | refine ql ?_ | refine qh ?_ _)); exact BK432.out) hb); have n1_ := qa.mk (qD (by repeat (first | (with_reducible first | exact HB.out | apply qg | apply qb | apply qf | refine qd ?_ GE432.out) | exact HB.out)) hb); have n2_ := qa.mk (hbox); have n3_ := qa.mk ((by rw [hg]; exact (qA (by repeat (first | (with_reducible first | exact HB.out | apply qg | apply qb | apply qf | refine qd ?_ GE432.out) | exact HB.out))) : w.heap.size ≤ gb434)); have n4_ := qa.mk ((by rw [hg]; exact (qA (by repeat (first | (with_reducible first | exact HB.out | apply qg | apply qb | apply qf | refine qd ?_ GE432.out) | exact HB.out))) : w.heap.size ≤ gb434)); have n5_ := qa.mk ((by rw [hg]; exact Nat.ne_of_lt (vz (g := gb432) (o := .cells #[.int .i64 a0_0, .slice A0_1 l0_1.length c0_1, .slice (some ad433) l0_2.length c0_2] 25 (0, 0)) (by (with_reducible repeat (first | refine qi ?_ _ | refine ql ?_ | refine qh ?_ _)); exact BK432.out)) : gb432 ≠ gb434)); have n6_ := qa.mk ((by rw [hg]; exact Nat.ne_of_gt (vz (g := gb432) (o := .cells #[.int .i64 a0_0, .slice A0_1 l0_1.length c0_1, .slice (some ad433) l0_2.length c0_2] 25 (0, 0)) (by (with_reducible repeat (first | refine qi ?_ _ | refine ql ?_ | refine qh ?_ _)); exact BK432.out)) : gb434 ≠ gb432)); clear BK432; clear HB; have BK432 := n0_; have HB := n1_; have BK434 := n2_; have GW434 := n3_; have GE434 := n4_; have NB432_434 := n5_; have NB434_432 := n6_; clear n0_ n1_ n2_ n3_ n4_ n5_ n6_; clear hb hbox hg; have hnb14 := NB434_432.out; have hnc14 := NB432_434.out; have hcz15_0 : w13.cell? ⟨gb434, 0, none⟩ = some (.int .i64 0) := (qj BK434.out 0).trans rfl; have hcz15_1 : w13.cell? ⟨gb434, 1, none⟩ = some (.int .i64 0) := (qj BK434.out 1).trans rfl; have hcz15_2 : w13.cell? ⟨gb434, 2, none⟩ = some (.int .i64 0) := (qj BK434.out 2).trans rfl; have hfz15_0 := qm BK434.out 0; have hfz15_1 := qm BK434.out 1; have hfz15_2 := qm BK434.out 2; have hcz16_0 : w13.cell? ⟨gb432, 0, none⟩ = some (.int .i64 a0_0) := (qj BK432.out 0).trans rfl; have hcz16_1 : w13.cell? ⟨gb432, 1, none⟩ = some (.slice A0_1 l0_1.length c0_1) := (qj BK432.out 1).trans rfl; have hcz16_2 : w13.cell? ⟨gb432, 2, none⟩ = some (.slice (some ad433) l0_2.length c0_2) := (qj BK432.out 2).trans rfl; have hfz16_0 := qm BK432.out 0; have hfz16_1 := qm BK432.out 1; have hfz16_2 := qm BK432.out 2; have p435 : 0 ≤ ((ji8) : Int) := of_decide_eq_true (by first | (with_reducible assumption) | assumption); have q435 : (ji8) < (l0_2.length : Int) := of_decide_eq_true (by first | (with_reducible assumption) | assumption); obtain ⟨ad435, e435, hx435_0, hx435_1, hx435_2⟩ := vU HR0_2.out (ji8) p435 q435; obtain rfl : ad433 = ad435 := (by injection e435); have hn435_0 : ad433.block ≠ gb434 := Nat.ne_of_lt (Nat.lt_of_lt_of_le (by have := World.block_lt_of_cell? _ _ hx435_0; first | rwa [add_block] at this | exact this) GW434.out); have hn435_1 : ad433.block ≠ gb434 := Nat.ne_of_lt (Nat.lt_of_lt_of_le (by have := World.block_lt_of_cell? _ _ hx435_0; first | rwa [add_block] at this | exact this) GW434.out); have hn435_2 : ad433.block ≠ gb434 := Nat.ne_of_lt (Nat.lt_of_lt_of_le (by have := World.block_lt_of_cell? _ _ hx435_0; first | rwa [add_block] at this | exact this) GW434.out); replace hx435_0 := (HB.out.cell (World.block_lt_of_cell? w _ hx435_0)).trans hx435_0; replace hx435_1 := (HB.out.cell (World.block_lt_of_cell? w _ hx435_1)).trans hx435_1; replace hx435_2 := (HB.out.cell (World.block_lt_of_cell? w _ hx435_2)).trans hx435_2; replace hx435_0 := (cell_far (p := ⟨gb434, 0, none⟩) (by first | (rw [add_block]; exact hn435_0) | (show (Addr.add _ _).block ≠ _; rw [add_block]; exact hn435_0) | exact hn435_0) (.int .i64 ((qc l0_2 x8_1).f0))).trans hx435_0; replace hx435_1 := (cell_far (p := ⟨gb434, 0, none⟩) (by first | (rw [add_block]; exact hn435_0) | (show (Addr.add _ _).block ≠ _; rw [add_block]; exact hn435_0) | exact hn435_0) (.int .i64 ((qc l0_2 x8_1).f0))).trans hx435_1; replace hx435_2 := (cell_far (p := ⟨gb434, 0, none⟩) (by first | (rw [add_block]; exact hn435_0) | (show (Addr.add _ _).block ≠ _; rw [add_block]; exact hn435_0) | exact hn435_0) (.int .i64 ((qc l0_2 x8_1).f0))).trans hx435_2; replace hx435_0 := (cell_far (p := ⟨gb434, 1, none⟩) (by first | (rw [add_block]; exact hn435_1) | (show (Addr.add _ _).block ≠ _; rw [add_block]; exact hn435_1) | exact hn435_1) (.int .i64 ((qc l0_2 x8_1).f1))).trans hx435_0; replace hx435_1 := (cell_far (p := ⟨gb434, 1, none⟩) (by first | (rw [add_block]; exact hn435_1) | (show (Addr.add _ _).block ≠ _; rw [add_block]; exact hn435_1) | exact hn435_1) (.int .i64 ((qc l0_2 x8_1).f1))).trans hx435_1; replace hx435_2 := (cell_far (p := ⟨gb434, 1, none⟩) (by first | (rw [add_block]; exact hn435_1) | (show (Addr.add _ _).block ≠ _; rw [add_block]; exact hn435_1) | exact hn435_1) (.int .i64 ((qc l0_2 x8_1).f1))).trans hx435_2; replace hx435_0 := (cell_far (p := ⟨gb434, 2, none⟩) (by first | (rw [add_block]; exact hn435_2) | (show (Addr.add _ _).block ≠ _; rw [add_block]; exact hn435_2) | exact hn435_2) (.int .i64 ((qc l0_2 x8_1).f2))).trans hx435_0; replace hx435_1 := (cell_far (p := ⟨gb434, 2, none⟩) (by first | (rw [add_block]; exact hn435_2) | (show (Addr.add _ _).block ≠ _; rw [add_block]; exact hn435_2) | exact hn435_2) (.int .i64 ((qc l0_2 x8_1).f2))).trans hx435_1; replace hx435_2 := (cell_far (p := ⟨gb434, 2, none⟩) (by first | (rw [add_block]; exact hn435_2) | (show (Addr.add _ _).block ≠ _; rw [add_block]; exact hn435_2) | exact hn435_2) (.int .i64 ((qc l0_2 x8_1).f2))).trans hx435_2; (try have hy435_0 := fun (n_ : Nat) => (show (((((w13.drewN n_).setCell ⟨gb434, 0, none⟩ (.int .i64 ((qc l0_2 x8_1).f0))).setCell ⟨gb434, 1, none⟩ (.int .i64 ((qc l0_2 x8_1).f1))).setCell ⟨gb434, 2, none⟩ (.int .i64 ((qc l0_2 x8_1).f2)))).cell? _ = some _ from hx435_0)); (try have hy435_1 := fun (n_ : Nat) => (show (((((w13.drewN n_).setCell ⟨gb434, 0, none⟩ (.int .i64 ((qc l0_2 x8_1).f0))).setCell ⟨gb434, 1, none⟩ (.int .i64 ((qc l0_2 x8_1).f1))).setCell ⟨gb434, 2, none⟩ (.int .i64 ((qc l0_2 x8_1).f2)))).cell? _ = some _ from hx435_1)); (try have hy435_2 := fun (n_ : Nat) => (show (((((w13.drewN n_).setCell ⟨gb434, 0, none⟩ (.int .i64 ((qc l0_2 x8_1).f0))).setCell ⟨gb434, 1, none⟩ (.int .i64 ((qc l0_2 x8_1).f1))).setCell ⟨gb434, 2, none⟩ (.int .i64 ((qc l0_2 x8_1).f2)))).cell? _ = some _ from hx435_2)); clear hn435_0; clear hn435_1; clear hn435_2; replace p435 := eq_true p435; replace q435 := eq_true q435; have p436 : 0 ≤ ((ji8) : Int) := of_decide_eq_true (by first | (with_reducible assumption) | assumption); have q436 : (ji8) < (l0_2.length : Int) := of_decide_eq_true (by first | (with_reducible assumption) | assumption); obtain ⟨ad436, e436, hx436_0, hx436_1, hx436_2⟩ := vU HR0_2.out (ji8) p436 q436; obtain rfl : ad433 = ad436 := (by injection e436); have hn436_0 : ad433.block ≠ gb434 := Nat.ne_of_lt (Nat.lt_of_lt_of_le (by have := World.block_lt_of_cell? _ _ hx436_0; first | rwa [add_block] at this | exact this) GW434.out); have hn436_1 : ad433.block ≠ gb434 := Nat.ne_of_lt (Nat.lt_of_lt_of_le (by have := World.block_lt_of_cell? _ _ hx436_0; first | rwa [add_block] at this | exact this) GW434.out); have hn436_2 : ad433.block ≠ gb434 := Nat.ne_of_lt (Nat.lt_of_lt_of_le (by have := World.block_lt_of_cell? _ _ hx436_0; first | rwa [add_block] at this | exact this) GW434.out); replace hx436_0 := (HB.out.cell (World.block_lt_of_cell? w _ hx436_0)).trans hx436_0; replace hx436_1 := (HB.out.cell (World.block_lt_of_cell? w _ hx436_1)).trans hx436_1; replace hx436_2 := (HB.out.cell (World.block_lt_of_cell? w _ hx436_2)).trans hx436_2; replace hx436_0 := (cell_far (p := ⟨gb434, 0, none⟩) (by first | (rw [add_block]; exact hn436_0) | (show (Addr.add _ _).block ≠ _; rw [add_block]; exact hn436_0) | exact hn436_0) (.int .i64 ((qc l0_2 x8_1).f0))).trans hx436_0; replace hx436_1 := (cell_far (p := ⟨gb434, 0, none⟩) (by first | (rw [add_block]; exact hn436_0) | (show (Addr.add _ _).block ≠ _; rw [add_block]; exact hn436_0) | exact hn436_0) (.int .i64 ((qc l0_2 x8_1).f0))).trans hx436_1; replace hx436_2 := (cell_far (p := ⟨gb434, 0, none⟩) (by first | (rw [add_block]; exact hn436_0) | (show (Addr.add _ _).block ≠ _; rw [add_block]; exact hn436_0) | exact hn436_0) (.int .i64 ((qc l0_2 x8_1).f0))).trans hx436_2; replace hx436_0 := (cell_far (p := ⟨gb434, 1, none⟩) (by first | (rw [add_block]; exact hn436_1) | (show (Addr.add _ _).block ≠ _; rw [add_block]; exact hn436_1) | exact hn436_1) (.int .i64 ((qc l0_2 x8_1).f1))).trans hx436_0; replace hx436_1 := (cell_far (p := ⟨gb434, 1, none⟩) (by first | (rw [add_block]; exact hn436_1) | (show (Addr.add _ _).block ≠ _; rw [add_block]; exact hn436_1) | exact hn436_1) (.int .i64 ((qc l0_2 x8_1).f1))).trans hx436_1; replace hx436_2 := (cell_far (p := ⟨gb434, 1, none⟩) (by first | (rw [add_block]; exact hn436_1) | (show (Addr.add _ _).block ≠ _; rw [add_block]; exact hn436_1) | exact hn436_1) (.int .i64 ((qc l0_2 x8_1).f1))).trans hx436_2; replace hx436_0 := (cell_far (p := ⟨gb434, 2, none⟩) (by first | (rw [add_block]; exact hn436_2) | (show (Addr.add _ _).block ≠ _; rw [add_block]; exact hn436_2) | exact hn436_2) (.int .i64 ((qc l0_2 x8_1).f2))).trans hx436_0; replace hx436_1 := (cell_far (p := ⟨gb434, 2, none⟩) (by first | (rw [add_block]; exact hn436_2) | (show (Addr.add _ _).block ≠ _; rw [add_block]; exact hn436_2) | exact hn436_2) (.int .i64 ((qc l0_2 x8_1).f2))).trans hx436_1; replace hx436_2 := (cell_far (p := ⟨gb434, 2, none⟩) (by first | (rw [add_block]; exact hn436_2) | (show (Addr.add _ _).block ≠ _; rw [add_block]; exact hn436_2) | exact hn436_2) (.int .i64 ((qc l0_2 x8_1).f2))).trans hx436_2; (try have hy436_0 := fun (n_ : Nat) => (show (((((w13.drewN n_).setCell ⟨gb434, 0, none⟩ (.int .i64 ((qc l0_2 x8_1).f0))).setCell ⟨gb434, 1, none⟩ (.int .i64 ((qc l0_2 x8_1).f1))).setCell ⟨gb434, 2, none⟩ (.int .i64 ((qc l0_2 x8_1).f2)))).cell? _ = some _ from hx436_0)); (try have hy436_1 := fun (n_ : Nat) => (show (((((w13.drewN n_).setCell ⟨gb434, 0, none⟩ (.int .i64 ((qc l0_2 x8_1).f0))).setCell ⟨gb434, 1, none⟩ (.int .i64 ((qc l0_2 x8_1).f1))).setCell ⟨gb434, 2, none⟩ (.int .i64 ((qc l0_2 x8_1).f2)))).cell? _ = some _ from hx436_1)); (try have hy436_2 := fun (n_ : Nat) => (show (((((w13.drewN n_).setCell ⟨gb434, 0, none⟩ (.int .i64 ((qc l0_2 x8_1).f0))).setCell ⟨gb434, 1, none⟩ (.int .i64 ((qc l0_2 x8_1).f1))).setCell ⟨gb434, 2, none⟩ (.int .i64 ((qc l0_2 x8_1).f2)))).cell? _ = some _ from hx436_2)); clear hn436_0; clear hn436_1; clear hn436_2; replace p436 := eq_true p436; replace q436 := eq_true q436))
           repeat (go_quiet (first | ((with_reducible refine qY (N := 4) rfl ?_); refine qZ ?hg (N := 4) ?hd (cs := #[.int .i64 0, .int .i64 0, .int .i64 0]) (t := 55) ?hr ?_; (case hd => rfl); (case hg => rfl); (case hr => first | (go_simp; done) | (go_simp; rfl)); intro gb434 hg w13 hbox hb; have n0_ := qa.mk (qB (g := gb432) (o := .cells #[.int .i64 a0_0, .slice A0_1 l0_1.length c0_1, .slice (some ad433) l0_2.length c0_2] 25 (0, 0)) (by (with_reducible repeat (first | refine qi ?_ _ | refine ql ?_ | refine qh ?_ _)); exact BK432.out) hb); have n1_ := qa.mk (qD (by repeat (first | (with_reducible first | exact HB.out | apply qg | apply qb | apply qf | refine qd ?_ GE432.out) | exact HB.out)) hb); have n2_ := qa.mk (hbox); have n3_ := qa.mk ((by rw [hg]; exact (qA (by repeat (first | (with_reducible first | exact HB.out | apply qg | apply qb | apply qf | refine qd ?_ GE432.out) | exact HB.out))) : w.heap.size ≤ gb434)); have n4_ := qa.mk ((by rw [hg]; exact (qA (by repeat (first | (with_reducible first | exact HB.out | apply qg | apply qb | apply qf | refine qd ?_ GE432.out) | exact HB.out))) : w.heap.size ≤ gb434)); have n5_ := qa.mk ((by rw [hg]; exact Nat.ne_of_lt (vz (g := gb432) (o := .cells #[.int .i64 a0_0, .slice A0_1 l0_1.length c0_1, .slice (some ad433) l0_2.length c0_2] 25 (0, 0)) (by (with_reducible repeat (first | refine qi ?_ _ | refine ql ?_ | refine qh ?_ _)); exact BK432.out)) : gb432 ≠ gb434)); have n6_ := qa.mk ((by rw [hg]; exact Nat.ne_of_gt (vz (g := gb432) (o := .cells #[.int .i64 a0_0, .slice A0_1 l0_1.length c0_1, .slice (some ad433) l0_2.length c0_2] 25 (0, 0)) (by (with_reducible repeat (first | refine qi ?_ _ | refine ql ?_ | refine qh ?_ _)); exact BK432.out)) : gb434 ≠ gb432)); clear BK432; clear HB; have BK432 := n0_; have HB := n1_; have BK434 := n2_; have GW434 := n3_; have GE434 := n4_; have NB432_434 := n5_; have NB434_432 := n6_; clear n0_ n1_ n2_ n3_ n4_ n5_ n6_; clear hb hbox hg; have hnb14 := NB434_432.out; have hnc14 := NB432_434.out; have hcz15_0 : w13.cell? ⟨gb434, 0, none⟩ = some (.int .i64 0) := (qj BK434.out 0).trans rfl; have hcz15_1 : w13.cell? ⟨gb434, 1, none⟩ = some (.int .i64 0) := (qj BK434.out 1).trans rfl; have hcz15_2 : w13.cell? ⟨gb434, 2, none⟩ = some (.int .i64 0) := (qj BK434.out 2).trans rfl; have hfz15_0 := qm BK434.out 0; have hfz15_1 := qm BK434.out 1; have hfz15_2 := qm BK434.out 2; have hcz16_0 : w13.cell? ⟨gb432, 0, none⟩ = some (.int .i64 a0_0) := (qj BK432.out 0).trans rfl; have hcz16_1 : w13.cell? ⟨gb432, 1, none⟩ = some (.slice A0_1 l0_1.length c0_1) := (qj BK432.out 1).trans rfl; have hcz16_2 : w13.cell? ⟨gb432, 2, none⟩ = some (.slice (some ad433) l0_2.length c0_2) := (qj BK432.out 2).trans rfl; have hfz16_0 := qm BK432.out 0; have hfz16_1 := qm BK432.out 1; have hfz16_2 := qm BK432.out 2; have p435 : 0 ≤ ((ji8) : Int) := of_decide_eq_true (by first | (with_reducible assumption) | assumption); have q435 : (ji8) < (l0_2.length : Int) := of_decide_eq_true (by first | (with_reducible assumption) | assumption); obtain ⟨ad435, e435, hx435_0, hx435_1, hx435_2⟩ := vU HR0_2.out (ji8) p435 q435; obtain rfl : ad433 = ad435 := (by injection e435); have hn435_0 : ad433.block ≠ gb434 := Nat.ne_of_lt (Nat.lt_of_lt_of_le (by have := World.block_lt_of_cell? _ _ hx435_0; first | rwa [add_block] at this | exact this) GW434.out); have hn435_1 : ad433.block ≠ gb434 := Nat.ne_of_lt (Nat.lt_of_lt_of_le (by have := World.block_lt_of_cell? _ _ hx435_0; first | rwa [add_block] at this | exact this) GW434.out); have hn435_2 : ad433.block ≠ gb434 := Nat.ne_of_lt (Nat.lt_of_lt_of_le (by have := World.block_lt_of_cell? _ _ hx435_0; first | rwa [add_block] at this | exact this) GW434.out); replace hx435_0 := (HB.out.cell (World.block_lt_of_cell? w _ hx435_0)).trans hx435_0; replace hx435_1 := (HB.out.cell (World.block_lt_of_cell? w _ hx435_1)).trans hx435_1; replace hx435_2 := (HB.out.cell (World.block_lt_of_cell? w _ hx435_2)).trans hx435_2; replace hx435_0 := (cell_far (p := ⟨gb434, 0, none⟩) (by first | (rw [add_block]; exact hn435_0) | (show (Addr.add _ _).block ≠ _; rw [add_block]; exact hn435_0) | exact hn435_0) (.int .i64 ((qc l0_2 x8_1).f0))).trans hx435_0; replace hx435_1 := (cell_far (p := ⟨gb434, 0, none⟩) (by first | (rw [add_block]; exact hn435_0) | (show (Addr.add _ _).block ≠ _; rw [add_block]; exact hn435_0) | exact hn435_0) (.int .i64 ((qc l0_2 x8_1).f0))).trans hx435_1; replace hx435_2 := (cell_far (p := ⟨gb434, 0, none⟩) (by first | (rw [add_block]; exact hn435_0) | (show (Addr.add _ _).block ≠ _; rw [add_block]; exact hn435_0) | exact hn435_0) (.int .i64 ((qc l0_2 x8_1).f0))).trans hx435_2; replace hx435_0 := (cell_far (p := ⟨gb434, 1, none⟩) (by first | (rw [add_block]; exact hn435_1) | (show (Addr.add _ _).block ≠ _; rw [add_block]; exact hn435_1) | exact hn435_1) (.int .i64 ((qc l0_2 x8_1).f1))).trans hx435_0; replace hx435_1 := (cell_far (p := ⟨gb434, 1, none⟩) (by first | (rw [add_block]; exact hn435_1) | (show (Addr.add _ _).block ≠ _; rw [add_block]; exact hn435_1) | exact hn435_1) (.int .i64 ((qc l0_2 x8_1).f1))).trans hx435_1; replace hx435_2 := (cell_far (p := ⟨gb434, 1, none⟩) (by first | (rw [add_block]; exact hn435_1) | (show (Addr.add _ _).block ≠ _; rw [add_block]; exact hn435_1) | exact hn435_1) (.int .i64 ((qc l0_2 x8_1).f1))).trans hx435_2; replace hx435_0 := (cell_far (p := ⟨gb434, 2, none⟩) (by first | (rw [add_block]; exact hn435_2) | (show (Addr.add _ _).block ≠ _; rw [add_block]; exact hn435_2) | exact hn435_2) (.int .i64 ((qc l0_2 x8_1).f2))).trans hx435_0; replace hx435_1 := (cell_far (p := ⟨gb434, 2, none⟩) (by first | (rw [add_block]; exact hn435_2) | (show (Addr.add _ _).block ≠ _; rw [add_block]; exact hn435_2) | exact hn435_2) (.int .i64 ((qc l0_2 x8_1).f2))).trans hx435_1; replace hx435_2 := (cell_far (p := ⟨gb434, 2, none⟩) (by first | (rw [add_block]; exact hn435_2) | (show (Addr.add _ _).block ≠ _; rw [add_block]; exact hn435_2) | exact hn435_2) (.int .i64 ((qc l0_2 x8_1).f2))).trans hx435_2; (try have hy435_0 := fun (n_ : Nat) => (show (((((w13.drewN n_).setCell ⟨gb434, 0, none⟩ (.int .i64 ((qc l0_2 x8_1).f0))).setCell ⟨gb434, 1, none⟩ (.int .i64 ((qc l0_2 x8_1).f1))).setCell ⟨gb434, 2, none⟩ (.int .i64 ((qc l0_2 x8_1).f2)))).cell? _ = some _ from hx435_0)); (try have hy435_1 := fun (n_ : Nat) => (show (((((w13.drewN n_).setCell ⟨gb434, 0, none⟩ (.int .i64 ((qc l0_2 x8_1).f0))).setCell ⟨gb434, 1, none⟩ (.int .i64 ((qc l0_2 x8_1).f1))).setCell ⟨gb434, 2, none⟩ (.int .i64 ((qc l0_2 x8_1).f2)))).cell? _ = some _ from hx435_1)); (try have hy435_2 := fun (n_ : Nat) => (show (((((w13.drewN n_).setCell ⟨gb434, 0, none⟩ (.int .i64 ((qc l0_2 x8_1).f0))).setCell ⟨gb434, 1, none⟩ (.int .i64 ((qc l0_2 x8_1).f1))).setCell ⟨gb434, 2, none⟩ (.int .i64 ((qc l0_2 x8_1).f2)))).cell? _ = some _ from hx435_2)); clear hn435_0; clear hn435_1; clear hn435_2; replace p435 := eq_true p435; replace q435 := eq_true q435; have p436 : 0 ≤ ((ji8) : Int) := of_decide_eq_true (by first | (with_reducible assumption) | assumption); have q436 : (ji8) < (l0_2.length : Int) := of_decide_eq_true (by first | (with_reducible assumption) | assumption); obtain ⟨ad436, e436, hx436_0, hx436_1, hx436_2⟩ := vU HR0_2.out (ji8) p436 q436; obtain rfl : ad433 = ad436 := (by injection e436); have hn436_0 : ad433.block ≠ gb434 := Nat.ne_of_lt (Nat.lt_of_lt_of_le (by have := World.block_lt_of_cell? _ _ hx436_0; first | rwa [add_block] at this | exact this) GW434.out); have hn436_1 : ad433.block ≠ gb434 := Nat.ne_of_lt (Nat.lt_of_lt_of_le (by have := World.block_lt_of_cell? _ _ hx436_0; first | rwa [add_block] at this | exact this) GW434.out); have hn436_2 : ad433.block ≠ gb434 := Nat.ne_of_lt (Nat.lt_of_lt_of_le (by have := World.block_lt_of_cell? _ _ hx436_0; first | rwa [add_block] at this | exact this) GW434.out); replace hx436_0 := (HB.out.cell (World.block_lt_of_cell? w _ hx436_0)).trans hx436_0; replace hx436_1 := (HB.out.cell (World.block_lt_of_cell? w _ hx436_1)).trans hx436_1; replace hx436_2 := (HB.out.cell (World.block_lt_of_cell? w _ hx436_2)).trans hx436_2; replace hx436_0 := (cell_far (p := ⟨gb434, 0, none⟩) (by first | (rw [add_block]; exact hn436_0) | (show (Addr.add _ _).block ≠ _; rw [add_block]; exact hn436_0) | exact hn436_0) (.int .i64 ((qc l0_2 x8_1).f0))).trans hx436_0; replace hx436_1 := (cell_far (p := ⟨gb434, 0, none⟩) (by first | (rw [add_block]; exact hn436_0) | (show (Addr.add _ _).block ≠ _; rw [add_block]; exact hn436_0) | exact hn436_0) (.int .i64 ((qc l0_2 x8_1).f0))).trans hx436_1; replace hx436_2 := (cell_far (p := ⟨gb434, 0, none⟩) (by first | (rw [add_block]; exact hn436_0) | (show (Addr.add _ _).block ≠ _; rw [add_block]; exact hn436_0) | exact hn436_0) (.int .i64 ((qc l0_2 x8_1).f0))).trans hx436_2; replace hx436_0 := (cell_far (p := ⟨gb434, 1, none⟩) (by first | (rw [add_block]; exact hn436_1) | (show (Addr.add _ _).block ≠ _; rw [add_block]; exact hn436_1) | exact hn436_1) (.int .i64 ((qc l0_2 x8_1).f1))).trans hx436_0; replace hx436_1 := (cell_far (p := ⟨gb434, 1, none⟩) (by first | (rw [add_block]; exact hn436_1) | (show (Addr.add _ _).block ≠ _; rw [add_block]; exact hn436_1) | exact hn436_1) (.int .i64 ((qc l0_2 x8_1).f1))).trans hx436_1; replace hx436_2 := (cell_far (p := ⟨gb434, 1, none⟩) (by first | (rw [add_block]; exact hn436_1) | (show (Addr.add _ _).block ≠ _; rw [add_block]; exact hn436_1) | exact hn436_1) (.int .i64 ((qc l0_2 x8_1).f1))).trans hx436_2; replace hx436_0 := (cell_far (p := ⟨gb434, 2, none⟩) (by first | (rw [add_block]; exact hn436_2) | (show (Addr.add _ _).block ≠ _; rw [add_block]; exact hn436_2) | exact hn436_2) (.int .i64 ((qc l0_2 x8_1).f2))).trans hx436_0; replace hx436_1 := (cell_far (p := ⟨gb434, 2, none⟩) (by first | (rw [add_block]; exact hn436_2) | (show (Addr.add _ _).block ≠ _; rw [add_block]; exact hn436_2) | exact hn436_2) (.int .i64 ((qc l0_2 x8_1).f2))).trans hx436_1; replace hx436_2 := (cell_far (p := ⟨gb434, 2, none⟩) (by first | (rw [add_block]; exact hn436_2) | (show (Addr.add _ _).block ≠ _; rw [add_block]; exact hn436_2) | exact hn436_2) (.int .i64 ((qc l0_2 x8_1).f2))).trans hx436_2; (try have hy436_0 := fun (n_ : Nat) => (show (((((w13.drewN n_).setCell ⟨gb434, 0, none⟩ (.int .i64 ((qc l0_2 x8_1).f0))).setCell ⟨gb434, 1, none⟩ (.int .i64 ((qc l0_2 x8_1).f1))).setCell ⟨gb434, 2, none⟩ (.int .i64 ((qc l0_2 x8_1).f2)))).cell? _ = some _ from hx436_0)); (try have hy436_1 := fun (n_ : Nat) => (show (((((w13.drewN n_).setCell ⟨gb434, 0, none⟩ (.int .i64 ((qc l0_2 x8_1).f0))).setCell ⟨gb434, 1, none⟩ (.int .i64 ((qc l0_2 x8_1).f1))).setCell ⟨gb434, 2, none⟩ (.int .i64 ((qc l0_2 x8_1).f2)))).cell? _ = some _ from hx436_1)); (try have hy436_2 := fun (n_ : Nat) => (show (((((w13.drewN n_).setCell ⟨gb434, 0, none⟩ (.int .i64 ((qc l0_2 x8_1).f0))).setCell ⟨gb434, 1, none⟩ (.int .i64 ((qc l0_2 x8_1).f1))).setCell ⟨gb434, 2, none⟩ (.int .i64 ((qc l0_2 x8_1).f2)))).cell? _ = some _ from hx436_2)); clear hn436_0; clear hn436_1; clear hn436_2; replace p436 := eq_true p436; replace q436 := eq_true q436)); try go_wp2_with (first | ((with_reducible refine qY (N := 4) rfl ?_); refine qZ ?hg (N := 4) ?hd (cs := #[.int .i64 0, .int .i64 0, .int .i64 0]) (t := 55) ?hr ?_; (case hd => rfl); (case hg => rfl); (case hr => first | (go_simp; done) | (go_simp; rfl)); intro gb434 hg w13 hbox hb; have n0_ := qa.mk (qB (g := gb432) (o := .cells #[.int .i64 a0_0, .slice A0_1 l0_1.length c0_1, .slice (some ad433) l0_2.length c0_2] 25 (0, 0)) (by (with_reducible repeat (first | refine qi ?_ _ | refine ql ?_ | refine qh ?_ _)); exact BK432.out) hb); have n1_ := qa.mk (qD (by repeat (first | (with_reducible first | exact HB.out | apply qg | apply qb | apply qf | refine qd ?_ GE432.out) | exact HB.out)) hb); have n2_ := qa.mk (hbox); have n3_ := qa.mk ((by rw [hg]; exact (qA (by repeat (first | (with_reducible first | exact HB.out | apply qg | apply qb | apply qf | refine qd ?_ GE432.out) | exact HB.out))) : w.heap.size ≤ gb434)); have n4_ := qa.mk ((by rw [hg]; exact (qA (by repeat (first | (with_reducible first | exact HB.out | apply qg | apply qb | apply qf | refine qd ?_ GE432.out) | exact HB.out))) : w.heap.size ≤ gb434)); have n5_ := qa.mk ((by rw [hg]; exact Nat.ne_of_lt (vz (g := gb432) (o := .cells #[.int .i64 a0_0, .slice A0_1 l0_1.length c0_1, .slice (some ad433) l0_2.length c0_2] 25 (0, 0)) (by (with_reducible repeat (first | refine qi ?_ _ | refine ql ?_ | refine qh ?_ _)); exact BK432.out)) : gb432 ≠ gb434)); have n6_ := qa.mk ((by rw [hg]; exact Nat.ne_of_gt (vz (g := gb432) (o := .cells #[.int .i64 a0_0, .slice A0_1 l0_1.length c0_1, .slice (some ad433) l0_2.length c0_2] 25 (0, 0)) (by (with_reducible repeat (first | refine qi ?_ _ | refine ql ?_ | refine qh ?_ _)); exact BK432.out)) : gb434 ≠ gb432)); clear BK432; clear HB; have BK432 := n0_; have HB := n1_; have BK434 := n2_; have GW434 := n3_; have GE434 := n4_; have NB432_434 := n5_; have NB434_432 := n6_; clear n0_ n1_ n2_ n3_ n4_ n5_ n6_; clear hb hbox hg; have hnb14 := NB434_432.out; have hnc14 := NB432_434.out; have hcz15_0 : w13.cell? ⟨gb434, 0, none⟩ = some (.int .i64 0) := (qj BK434.out 0).trans rfl; have hcz15_1 : w13.cell? ⟨gb434, 1, none⟩ = some (.int .i64 0) := (qj BK434.out 1).trans rfl; have hcz15_2 : w13.cell? ⟨gb434, 2, none⟩ = some (.int .i64 0) := (qj BK434.out 2).trans rfl; have hfz15_0 := qm BK434.out 0; have hfz15_1 := qm BK434.out 1; have hfz15_2 := qm BK434.out 2; have hcz16_0 : w13.cell? ⟨gb432, 0, none⟩ = some (.int .i64 a0_0) := (qj BK432.out 0).trans rfl; have hcz16_1 : w13.cell? ⟨gb432, 1, none⟩ = some (.slice A0_1 l0_1.length c0_1) := (qj BK432.out 1).trans rfl; have hcz16_2 : w13.cell? ⟨gb432, 2, none⟩ = some (.slice (some ad433) l0_2.length c0_2) := (qj BK432.out 2).trans rfl; have hfz16_0 := qm BK432.out 0; have hfz16_1 := qm BK432.out 1; have hfz16_2 := qm BK432.out 2; have p435 : 0 ≤ ((ji8) : Int) := of_decide_eq_true (by first | (with_reducible assumption) | assumption); have q435 : (ji8) < (l0_2.length : Int) := of_decide_eq_true (by first | (with_reducible assumption) | assumption); obtain ⟨ad435, e435, hx435_0, hx435_1, hx435_2⟩ := vU HR0_2.out (ji8) p435 q435; obtain rfl : ad433 = ad435 := (by injection e435); have hn435_0 : ad433.block ≠ gb434 := Nat.ne_of_lt (Nat.lt_of_lt_of_le (by have := World.block_lt_of_cell? _ _ hx435_0; first | rwa [add_block] at this | exact this) GW434.out); have hn435_1 : ad433.block ≠ gb434 := Nat.ne_of_lt (Nat.lt_of_lt_of_le (by have := World.block_lt_of_cell? _ _ hx435_0; first | rwa [add_block] at this | exact this) GW434.out); have hn435_2 : ad433.block ≠ gb434 := Nat.ne_of_lt (Nat.lt_of_lt_of_le (by have := World.block_lt_of_cell? _ _ hx435_0; first | rwa [add_block] at this | exact this) GW434.out); replace hx435_0 := (HB.out.cell (World.block_lt_of_cell? w _ hx435_0)).trans hx435_0; replace hx435_1 := (HB.out.cell (World.block_lt_of_cell? w _ hx435_1)).trans hx435_1; replace hx435_2 := (HB.out.cell (World.block_lt_of_cell? w _ hx435_2)).trans hx435_2; replace hx435_0 := (cell_far (p := ⟨gb434, 0, none⟩) (by first | (rw [add_block]; exact hn435_0) | (show (Addr.add _ _).block ≠ _; rw [add_block]; exact hn435_0) | exact hn435_0) (.int .i64 ((qc l0_2 x8_1).f0))).trans hx435_0; replace hx435_1 := (cell_far (p := ⟨gb434, 0, none⟩) (by first | (rw [add_block]; exact hn435_0) | (show (Addr.add _ _).block ≠ _; rw [add_block]; exact hn435_0) | exact hn435_0) (.int .i64 ((qc l0_2 x8_1).f0))).trans hx435_1; replace hx435_2 := (cell_far (p := ⟨gb434, 0, none⟩) (by first | (rw [add_block]; exact hn435_0) | (show (Addr.add _ _).block ≠ _; rw [add_block]; exact hn435_0) | exact hn435_0) (.int .i64 ((qc l0_2 x8_1).f0))).trans hx435_2; replace hx435_0 := (cell_far (p := ⟨gb434, 1, none⟩) (by first | (rw [add_block]; exact hn435_1) | (show (Addr.add _ _).block ≠ _; rw [add_block]; exact hn435_1) | exact hn435_1) (.int .i64 ((qc l0_2 x8_1).f1))).trans hx435_0; replace hx435_1 := (cell_far (p := ⟨gb434, 1, none⟩) (by first | (rw [add_block]; exact hn435_1) | (show (Addr.add _ _).block ≠ _; rw [add_block]; exact hn435_1) | exact hn435_1) (.int .i64 ((qc l0_2 x8_1).f1))).trans hx435_1; replace hx435_2 := (cell_far (p := ⟨gb434, 1, none⟩) (by first | (rw [add_block]; exact hn435_1) | (show (Addr.add _ _).block ≠ _; rw [add_block]; exact hn435_1) | exact hn435_1) (.int .i64 ((qc l0_2 x8_1).f1))).trans hx435_2; replace hx435_0 := (cell_far (p := ⟨gb434, 2, none⟩) (by first | (rw [add_block]; exact hn435_2) | (show (Addr.add _ _).block ≠ _; rw [add_block]; exact hn435_2) | exact hn435_2) (.int .i64 ((qc l0_2 x8_1).f2))).trans hx435_0; replace hx435_1 := (cell_far (p := ⟨gb434, 2, none⟩) (by first | (rw [add_block]; exact hn435_2) | (show (Addr.add _ _).block ≠ _; rw [add_block]; exact hn435_2) | exact hn435_2) (.int .i64 ((qc l0_2 x8_1).f2))).trans hx435_1; replace hx435_2 := (cell_far (p := ⟨gb434, 2, none⟩) (by first | (rw [add_block]; exact hn435_2) | (show (Addr.add _ _).block ≠ _; rw [add_block]; exact hn435_2) | exact hn435_2) (.int .i64 ((qc l0_2 x8_1).f2))).trans hx435_2; (try have hy435_0 := fun (n_ : Nat) => (show (((((w13.drewN n_).setCell ⟨gb434, 0, none⟩ (.int .i64 ((qc l0_2 x8_1).f0))).setCell ⟨gb434, 1, none⟩ (.int .i64 ((qc l0_2 x8_1).f1))).setCell ⟨gb434, 2, none⟩ (.int .i64 ((qc l0_2 x8_1).f2)))).cell? _ = some _ from hx435_0)); (try have hy435_1 := fun (n_ : Nat) => (show (((((w13.drewN n_).setCell ⟨gb434, 0, none⟩ (.int .i64 ((qc l0_2 x8_1).f0))).setCell ⟨gb434, 1, none⟩ (.int .i64 ((qc l0_2 x8_1).f1))).setCell ⟨gb434, 2, none⟩ (.int .i64 ((qc l0_2 x8_1).f2)))).cell? _ = some _ from hx435_1)); (try have hy435_2 := fun (n_ : Nat) => (show (((((w13.drewN n_).setCell ⟨gb434, 0, none⟩ (.int .i64 ((qc l0_2 x8_1).f0))).setCell ⟨gb434, 1, none⟩ (.int .i64 ((qc l0_2 x8_1).f1))).setCell ⟨gb434, 2, none⟩ (.int .i64 ((qc l0_2 x8_1).f2)))).cell? _ = some _ from hx435_2)); clear hn435_0; clear hn435_1; clear hn435_2; replace p435 := eq_true p435; replace q435 := eq_true q435; have p436 : 0 ≤ ((ji8) : Int) := of_decide_eq_true (by first | (with_reducible assumption) | assumption); have q436 : (ji8) < (l0_2.length : Int) := of_decide_eq_true (by first | (with_reducible assumption) | assumption); obtain ⟨ad436, e436, hx436_0, hx436_1, hx436_2⟩ := vU HR0_2.out (ji8) p436 q436; obtain rfl : ad433 = ad436 := (by injection e436); have hn436_0 : ad433.block ≠ gb434 := Nat.ne_of_lt (Nat.lt_of_lt_of_le (by have := World.block_lt_of_cell? _ _ hx436_0; first | rwa [add_block] at this | exact this) GW434.out); have hn436_1 : ad433.block ≠ gb434 := Nat.ne_of_lt (Nat.lt_of_lt_of_le (by have := World.block_lt_of_cell? _ _ hx436_0; first | rwa [add_block] at this | exact this) GW434.out); have hn436_2 : ad433.block ≠ gb434 := Nat.ne_of_lt (Nat.lt_of_lt_of_le (by have := World.block_lt_of_cell? _ _ hx436_0; first | rwa [add_block] at this | exact this) GW434.out); replace hx436_0 := (HB.out.cell (World.block_lt_of_cell? w _ hx436_0)).trans hx436_0; replace hx436_1 := (HB.out.cell (World.block_lt_of_cell? w _ hx436_1)).trans hx436_1; replace hx436_2 := (HB.out.cell (World.block_lt_of_cell? w _ hx436_2)).trans hx436_2; replace hx436_0 := (cell_far (p := ⟨gb434, 0, none⟩) (by first | (rw [add_block]; exact hn436_0) | (show (Addr.add _ _).block ≠ _; rw [add_block]; exact hn436_0) | exact hn436_0) (.int .i64 ((qc l0_2 x8_1).f0))).trans hx436_0; replace hx436_1 := (cell_far (p := ⟨gb434, 0, none⟩) (by first | (rw [add_block]; exact hn436_0) | (show (Addr.add _ _).block ≠ _; rw [add_block]; exact hn436_0) | exact hn436_0) (.int .i64 ((qc l0_2 x8_1).f0))).trans hx436_1; replace hx436_2 := (cell_far (p := ⟨gb434, 0, none⟩) (by first | (rw [add_block]; exact hn436_0) | (show (Addr.add _ _).block ≠ _; rw [add_block]; exact hn436_0) | exact hn436_0) (.int .i64 ((qc l0_2 x8_1).f0))).trans hx436_2; replace hx436_0 := (cell_far (p := ⟨gb434, 1, none⟩) (by first | (rw [add_block]; exact hn436_1) | (show (Addr.add _ _).block ≠ _; rw [add_block]; exact hn436_1) | exact hn436_1) (.int .i64 ((qc l0_2 x8_1).f1))).trans hx436_0; replace hx436_1 := (cell_far (p := ⟨gb434, 1, none⟩) (by first | (rw [add_block]; exact hn436_1) | (show (Addr.add _ _).block ≠ _; rw [add_block]; exact hn436_1) | exact hn436_1) (.int .i64 ((qc l0_2 x8_1).f1))).trans hx436_1; replace hx436_2 := (cell_far (p := ⟨gb434, 1, none⟩) (by first | (rw [add_block]; exact hn436_1) | (show (Addr.add _ _).block ≠ _; rw [add_block]; exact hn436_1) | exact hn436_1) (.int .i64 ((qc l0_2 x8_1).f1))).trans hx436_2; replace hx436_0 := (cell_far (p := ⟨gb434, 2, none⟩) (by first | (rw [add_block]; exact hn436_2) | (show (Addr.add _ _).block ≠ _; rw [add_block]; exact hn436_2) | exact hn436_2) (.int .i64 ((qc l0_2 x8_1).f2))).trans hx436_0; replace hx436_1 := (cell_far (p := ⟨gb434, 2, none⟩) (by first | (rw [add_block]; exact hn436_2) | (show (Addr.add _ _).block ≠ _; rw [add_block]; exact hn436_2) | exact hn436_2) (.int .i64 ((qc l0_2 x8_1).f2))).trans hx436_1; replace hx436_2 := (cell_far (p := ⟨gb434, 2, none⟩) (by first | (rw [add_block]; exact hn436_2) | (show (Addr.add _ _).block ≠ _; rw [add_block]; exact hn436_2) | exact hn436_2) (.int .i64 ((qc l0_2 x8_1).f2))).trans hx436_2; (try have hy436_0 := fun (n_ : Nat) => (show (((((w13.drewN n_).setCell ⟨gb434, 0, none⟩ (.int .i64 ((qc l0_2 x8_1).f0))).setCell ⟨gb434, 1, none⟩ (.int .i64 ((qc l0_2 x8_1).f1))).setCell ⟨gb434, 2, none⟩ (.int .i64 ((qc l0_2 x8_1).f2)))).cell? _ = some _ from hx436_0)); (try have hy436_1 := fun (n_ : Nat) => (show (((((w13.drewN n_).setCell ⟨gb434, 0, none⟩ (.int .i64 ((qc l0_2 x8_1).f0))).setCell ⟨gb434, 1, none⟩ (.int .i64 ((qc l0_2 x8_1).f1))).setCell ⟨gb434, 2, none⟩ (.int .i64 ((qc l0_2 x8_1).f2)))).cell? _ = some _ from hx436_1)); (try have hy436_2 := fun (n_ : Nat) => (show (((((w13.drewN n_).setCell ⟨gb434, 0, none⟩ (.int .i64 ((qc l0_2 x8_1).f0))).setCell ⟨gb434, 1, none⟩ (.int .i64 ((qc l0_2 x8_1).f1))).setCell ⟨gb434, 2, none⟩ (.int .i64 ((qc l0_2 x8_1).f2)))).cell? _ = some _ from hx436_2)); clear hn436_0; clear hn436_1; clear hn436_2; replace p436 := eq_true p436; replace q436 := eq_true q436)))
           go_ret
           exact ⟨by first | rfl | (simp [errW_none, errW_some] <;> rfl) | (simp only [← hji8]; first | rfl | (simp [errW_none, errW_some] <;> rfl)) | (simp [*, errW_none, errW_some] <;> rfl), by repeat (first | (with_reducible first | exact HB.out | apply qg | apply qb | apply qf | refine qd ?_ GE432.out | refine qd ?_ GE434.out) | exact HB.out)⟩
          ·rw [if_neg c12] at H
           have c12b0 : (((qc l0_2 (ji8)).f1) == ((qc l0_2 x8_1).f1)) = false := beq_eq_false_iff_ne.mpr c12
           have c12b1 : (((qc l0_2 (ji8)).f1) != ((qc l0_2 x8_1).f1)) = true := bne_iff_ne.mpr c12
           have H' := qa.mk H
           clear H
           have p433 : 0 ≤ (x8_1 : Int) := of_decide_eq_true (by first | (with_reducible assumption) | assumption)
           have q433 : x8_1 < (l0_2.length : Int) := of_decide_eq_true (by first | (with_reducible assumption) | assumption)
           obtain ⟨ad433, e433, hx433_0, hx433_1, hx433_2⟩ := vU HR0_2.out x8_1 p433 q433
           cases e433
           replace hx433_0 := (HB.out.cell (World.block_lt_of_cell? w _ hx433_0)).trans hx433_0
           replace hx433_1 := (HB.out.cell (World.block_lt_of_cell? w _ hx433_1)).trans hx433_1
           replace hx433_2 := (HB.out.cell (World.block_lt_of_cell? w _ hx433_2)).trans hx433_2
           replace p433 := eq_true p433
           replace q433 := eq_true q433
           go_wp2_with (first | ((with_reducible refine qY (N := 4) rfl ?_); refine qZ ?hg (N := 4) ?hd (cs := #[.int .i64 0, .int .i64 0, .int .i64 0]) (t := 55) ?hr ?_; (case hd => rfl); (case hg => rfl); (case hr => first | (go_simp; done) | (go_simp; rfl)); intro gb434 hg w17 hbox hb; have n0_ := qa.mk (qB (g := gb432) (o := .cells #[.int .i64 a0_0, .slice A0_1 l0_1.length c0_1, .slice (some ad433) l0_2.length c0_2] 25 (0, 0)) (by (with_reducible repeat (first | refine qi ?_ _ | refine ql ?_ | refine qh ?_ _)); exact BK432.out) hb); have n1_ := qa.mk (qD (by repeat (first | (with_reducible first | exact HB.out | apply qg | apply qb | apply qf | refine qd ?_ GE432.out) | exact HB.out)) hb); have n2_ := qa.mk (hbox); have n3_ := qa.mk ((by rw [hg]; exact (qA (by repeat (first | (with_reducible first | exact HB.out | apply qg | apply qb | apply qf | refine qd ?_ GE432.out) | exact HB.out))) : w.heap.size ≤ gb434)); have n4_ := qa.mk ((by rw [hg]; exact (qA (by repeat (first | (with_reducible first | exact HB.out | apply qg | apply qb | apply qf | refine qd ?_ GE432.out) | exact HB.out))) : w.heap.size ≤ gb434)); have n5_ := qa.mk ((by rw [hg]; exact Nat.ne_of_lt (vz (g := gb432) (o := .cells #[.int .i64 a0_0, .slice A0_1 l0_1.length c0_1, .slice (some ad433) l0_2.length c0_2] 25 (0, 0)) (by (with_reducible repeat (first | refine qi ?_ _ | refine ql ?_ | refine qh ?_ _)); exact BK432.out)) : gb432 ≠ gb434)); have n6_ := qa.mk ((by rw [hg]; exact Nat.ne_of_gt (vz (g := gb432) (o := .cells #[.int .i64 a0_0, .slice A0_1 l0_1.length c0_1, .slice (some ad433) l0_2.length c0_2] 25 (0, 0)) (by (with_reducible repeat (first | refine qi ?_ _ | refine ql ?_ | refine qh ?_ _)); exact BK432.out)) : gb434 ≠ gb432)); clear BK432; clear HB; have BK432 := n0_; have HB := n1_; have BK434 := n2_; have GW434 := n3_; have GE434 := n4_; have NB432_434 := n5_; have NB434_432 := n6_; clear n0_ n1_ n2_ n3_ n4_ n5_ n6_; clear hb hbox hg; have hnb18 := NB434_432.out; have hnc18 := NB432_434.out; have hcz19_0 : w17.cell? ⟨gb434, 0, none⟩ = some (.int .i64 0) := (qj BK434.out 0).trans rfl; have hcz19_1 : w17.cell? ⟨gb434, 1, none⟩ = some (.int .i64 0) := (qj BK434.out 1).trans rfl; have hcz19_2 : w17.cell? ⟨gb434, 2, none⟩ = some (.int .i64 0) := (qj BK434.out 2).trans rfl; have hfz19_0 := qm BK434.out 0; have hfz19_1 := qm BK434.out 1; have hfz19_2 := qm BK434.out 2; have hcz20_0 : w17.cell? ⟨gb432, 0, none⟩ = some (.int .i64 a0_0) := (qj BK432.out 0).trans rfl; have hcz20_1 : w17.cell? ⟨gb432, 1, none⟩ = some (.slice A0_1 l0_1.length c0_1) := (qj BK432.out 1).trans rfl; have hcz20_2 : w17.cell? ⟨gb432, 2, none⟩ = some (.slice (some ad433) l0_2.length c0_2) := (qj BK432.out 2).trans rfl; have hfz20_0 := qm BK432.out 0; have hfz20_1 := qm BK432.out 1; have hfz20_2 := qm BK432.out 2; have p435 : 0 ≤ ((ji8) : Int) := of_decide_eq_true (by first | (with_reducible assumption) | assumption); have q435 : (ji8) < (l0_2.length : Int) := of_decide_eq_true (by first | (with_reducible assumption) | assumption); obtain ⟨ad435, e435, hx435_0, hx435_1, hx435_2⟩ := vU HR0_2.out (ji8) p435 q435; obtain rfl : ad433 = ad435 := (by injection e435); have hn435_0 : ad433.block ≠ gb434 := Nat.ne_of_lt (Nat.lt_of_lt_of_le (by have := World.block_lt_of_cell? _ _ hx435_0; first | rwa [add_block] at this | exact this) GW434.out); have hn435_1 : ad433.block ≠ gb434 := Nat.ne_of_lt (Nat.lt_of_lt_of_le (by have := World.block_lt_of_cell? _ _ hx435_0; first | rwa [add_block] at this | exact this) GW434.out); have hn435_2 : ad433.block ≠ gb434 := Nat.ne_of_lt (Nat.lt_of_lt_of_le (by have := World.block_lt_of_cell? _ _ hx435_0; first | rwa [add_block] at this | exact this) GW434.out); replace hx435_0 := (HB.out.cell (World.block_lt_of_cell? w _ hx435_0)).trans hx435_0; replace hx435_1 := (HB.out.cell (World.block_lt_of_cell? w _ hx435_1)).trans hx435_1; replace hx435_2 := (HB.out.cell (World.block_lt_of_cell? w _ hx435_2)).trans hx435_2; replace hx435_0 := (cell_far (p := ⟨gb434, 0, none⟩) (by first | (rw [add_block]; exact hn435_0) | (show (Addr.add _ _).block ≠ _; rw [add_block]; exact hn435_0) | exact hn435_0) (.int .i64 ((qc l0_2 x8_1).f0))).trans hx435_0; replace hx435_1 := (cell_far (p := ⟨gb434, 0, none⟩) (by first | (rw [add_block]; exact hn435_0) | (show (Addr.add _ _).block ≠ _; rw [add_block]; exact hn435_0) | exact hn435_0) (.int .i64 ((qc l0_2 x8_1).f0))).trans hx435_1; replace hx435_2 := (cell_far (p := ⟨gb434, 0, none⟩) (by first | (rw [add_block]; exact hn435_0) | (show (Addr.add _ _).block ≠ _; rw [add_block]; exact hn435_0) | exact hn435_0) (.int .i64 ((qc l0_2 x8_1).f0))).trans hx435_2; replace hx435_0 := (cell_far (p := ⟨gb434, 1, none⟩) (by first | (rw [add_block]; exact hn435_1) | (show (Addr.add _ _).block ≠ _; rw [add_block]; exact hn435_1) | exact hn435_1) (.int .i64 ((qc l0_2 x8_1).f1))).trans hx435_0; replace hx435_1 := (cell_far (p := ⟨gb434, 1, none⟩) (by first | (rw [add_block]; exact hn435_1) | (show (Addr.add _ _).block ≠ _; rw [add_block]; exact hn435_1) | exact hn435_1) (.int .i64 ((qc l0_2 x8_1).f1))).trans hx435_1; replace hx435_2 := (cell_far (p := ⟨gb434, 1, none⟩) (by first | (rw [add_block]; exact hn435_1) | (show (Addr.add _ _).block ≠ _; rw [add_block]; exact hn435_1) | exact hn435_1) (.int .i64 ((qc l0_2 x8_1).f1))).trans hx435_2; replace hx435_0 := (cell_far (p := ⟨gb434, 2, none⟩) (by first | (rw [add_block]; exact hn435_2) | (show (Addr.add _ _).block ≠ _; rw [add_block]; exact hn435_2) | exact hn435_2) (.int .i64 ((qc l0_2 x8_1).f2))).trans hx435_0; replace hx435_1 := (cell_far (p := ⟨gb434, 2, none⟩) (by first | (rw [add_block]; exact hn435_2) | (show (Addr.add _ _).block ≠ _; rw [add_block]; exact hn435_2) | exact hn435_2) (.int .i64 ((qc l0_2 x8_1).f2))).trans hx435_1; replace hx435_2 := (cell_far (p := ⟨gb434, 2, none⟩) (by first | (rw [add_block]; exact hn435_2) | (show (Addr.add _ _).block ≠ _; rw [add_block]; exact hn435_2) | exact hn435_2) (.int .i64 ((qc l0_2 x8_1).f2))).trans hx435_2; (try have hy435_0 := fun (n_ : Nat) => (show (((((w17.drewN n_).setCell ⟨gb434, 0, none⟩ (.int .i64 ((qc l0_2 x8_1).f0))).setCell ⟨gb434, 1, none⟩ (.int .i64 ((qc l0_2 x8_1).f1))).setCell ⟨gb434, 2, none⟩ (.int .i64 ((qc l0_2 x8_1).f2)))).cell? _ = some _ from hx435_0)); (try have hy435_1 := fun (n_ : Nat) => (show (((((w17.drewN n_).setCell ⟨gb434, 0, none⟩ (.int .i64 ((qc l0_2 x8_1).f0))).setCell ⟨gb434, 1, none⟩ (.int .i64 ((qc l0_2 x8_1).f1))).setCell ⟨gb434, 2, none⟩ (.int .i64 ((qc l0_2 x8_1).f2)))).cell? _ = some _ from hx435_1)); (try have hy435_2 := fun (n_ : Nat) => (show (((((w17.drewN n_).setCell ⟨gb434, 0, none⟩ (.int .i64 ((qc l0_2 x8_1).f0))).setCell ⟨gb434, 1, none⟩ (.int .i64 ((qc l0_2 x8_1).f1))).setCell ⟨gb434, 2, none⟩ (.int .i64 ((qc l0_2 x8_1).f2)))).cell? _ = some _ from hx435_2)); clear hn435_0; clear hn435_1; clear hn435_2; replace p435 := eq_true p435; replace q435 := eq_true q435; have p436 : 0 ≤ ((ji8) : Int) := of_decide_eq_true (by first | (with_reducible assumption) | assumption); have q436 : (ji8) < (l0_2.length : Int) := of_decide_eq_true (by first | (with_reducible assumption) | assumption); obtain ⟨ad436, e436, hx436_0, hx436_1, hx436_2⟩ := vU HR0_2.out (ji8) p436 q436; obtain rfl : ad433 = ad436 := (by injection e436); have hn436_0 : ad433.block ≠ gb434 := Nat.ne_of_lt (Nat.lt_of_lt_of_le (by have := World.block_lt_of_cell? _ _ hx436_0; first | rwa [add_block] at this | exact this) GW434.out); have hn436_1 : ad433.block ≠ gb434 := Nat.ne_of_lt (Nat.lt_of_lt_of_le (by have := World.block_lt_of_cell? _ _ hx436_0; first | rwa [add_block] at this | exact this) GW434.out); have hn436_2 : ad433.block ≠ gb434 := Nat.ne_of_lt (Nat.lt_of_lt_of_le (by have := World.block_lt_of_cell? _ _ hx436_0; first | rwa [add_block] at this | exact this) GW434.out); replace hx436_0 := (HB.out.cell (World.block_lt_of_cell? w _ hx436_0)).trans hx436_0; replace hx436_1 := (HB.out.cell (World.block_lt_of_cell? w _ hx436_1)).trans hx436_1; replace hx436_2 := (HB.out.cell (World.block_lt_of_cell? w _ hx436_2)).trans hx436_2; replace hx436_0 := (cell_far (p := ⟨gb434, 0, none⟩) (by first | (rw [add_block]; exact hn436_0) | (show (Addr.add _ _).block ≠ _; rw [add_block]; exact hn436_0) | exact hn436_0) (.int .i64 ((qc l0_2 x8_1).f0))).trans hx436_0; replace hx436_1 := (cell_far (p := ⟨gb434, 0, none⟩) (by first | (rw [add_block]; exact hn436_0) | (show (Addr.add _ _).block ≠ _; rw [add_block]; exact hn436_0) | exact hn436_0) (.int .i64 ((qc l0_2 x8_1).f0))).trans hx436_1; replace hx436_2 := (cell_far (p := ⟨gb434, 0, none⟩) (by first | (rw [add_block]; exact hn436_0) | (show (Addr.add _ _).block ≠ _; rw [add_block]; exact hn436_0) | exact hn436_0) (.int .i64 ((qc l0_2 x8_1).f0))).trans hx436_2; replace hx436_0 := (cell_far (p := ⟨gb434, 1, none⟩) (by first | (rw [add_block]; exact hn436_1) | (show (Addr.add _ _).block ≠ _; rw [add_block]; exact hn436_1) | exact hn436_1) (.int .i64 ((qc l0_2 x8_1).f1))).trans hx436_0; replace hx436_1 := (cell_far (p := ⟨gb434, 1, none⟩) (by first | (rw [add_block]; exact hn436_1) | (show (Addr.add _ _).block ≠ _; rw [add_block]; exact hn436_1) | exact hn436_1) (.int .i64 ((qc l0_2 x8_1).f1))).trans hx436_1; replace hx436_2 := (cell_far (p := ⟨gb434, 1, none⟩) (by first | (rw [add_block]; exact hn436_1) | (show (Addr.add _ _).block ≠ _; rw [add_block]; exact hn436_1) | exact hn436_1) (.int .i64 ((qc l0_2 x8_1).f1))).trans hx436_2; replace hx436_0 := (cell_far (p := ⟨gb434, 2, none⟩) (by first | (rw [add_block]; exact hn436_2) | (show (Addr.add _ _).block ≠ _; rw [add_block]; exact hn436_2) | exact hn436_2) (.int .i64 ((qc l0_2 x8_1).f2))).trans hx436_0; replace hx436_1 := (cell_far (p := ⟨gb434, 2, none⟩) (by first | (rw [add_block]; exact hn436_2) | (show (Addr.add _ _).block ≠ _; rw [add_block]; exact hn436_2) | exact hn436_2) (.int .i64 ((qc l0_2 x8_1).f2))).trans hx436_1; replace hx436_2 := (cell_far (p := ⟨gb434, 2, none⟩) (by first | (rw [add_block]; exact hn436_2) | (show (Addr.add _ _).block ≠ _; rw [add_block]; exact hn436_2) | exact hn436_2) (.int .i64 ((qc l0_2 x8_1).f2))).trans hx436_2; (try have hy436_0 := fun (n_ : Nat) => (show (((((w17.drewN n_).setCell ⟨gb434, 0, none⟩ (.int .i64 ((qc l0_2 x8_1).f0))).setCell ⟨gb434, 1, none⟩ (.int .i64 ((qc l0_2 x8_1).f1))).setCell ⟨gb434, 2, none⟩ (.int .i64 ((qc l0_2 x8_1).f2)))).cell? _ = some _ from hx436_0)); (try have hy436_1 := fun (n_ : Nat) => (show (((((w17.drewN n_).setCell ⟨gb434, 0, none⟩ (.int .i64 ((qc l0_2 x8_1).f0))).setCell ⟨gb434, 1, none⟩ (.int .i64 ((qc l0_2 x8_1).f1))).setCell ⟨gb434, 2, none⟩ (.int .i64 ((qc l0_2 x8_1).f2)))).cell? _ = some _ from hx436_1)); (try have hy436_2 := fun (n_ : Nat) => (show (((((w17.drewN n_).setCell ⟨gb434, 0, none⟩ (.int .i64 ((qc l0_2 x8_1).f0))).setCell ⟨gb434, 1, none⟩ (.int .i64 ((qc l0_2 x8_1).f1))).setCell ⟨gb434, 2, none⟩ (.int .i64 ((qc l0_2 x8_1).f2)))).cell? _ = some _ from hx436_2)); clear hn436_0; clear hn436_1; clear hn436_2; replace p436 := eq_true p436; replace q436 := eq_true q436))
           repeat (go_quiet (first | ((with_reducible refine qY (N := 4) rfl ?_); refine qZ ?hg (N := 4) ?hd (cs := #[.int .i64 0, .int .i64 0, .int .i64 0]) (t := 55) ?hr ?_; (case hd => rfl); (case hg => rfl); (case hr => first | (go_simp; done) | (go_simp; rfl)); intro gb434 hg w17 hbox hb; have n0_ := qa.mk (qB (g := gb432) (o := .cells #[.int .i64 a0_0, .slice A0_1 l0_1.length c0_1, .slice (some ad433) l0_2.length c0_2] 25 (0, 0)) (by (with_reducible repeat (first | refine qi ?_ _ | refine ql ?_ | refine qh ?_ _)); exact BK432.out) hb); have n1_ := qa.mk (qD (by repeat (first | (with_reducible first | exact HB.out | apply qg | apply qb | apply qf | refine qd ?_ GE432.out) | exact HB.out)) hb); have n2_ := qa.mk (hbox); have n3_ := qa.mk ((by rw [hg]; exact (qA (by repeat (first | (with_reducible first | exact HB.out | apply qg | apply qb | apply qf | refine qd ?_ GE432.out) | exact HB.out))) : w.heap.size ≤ gb434)); have n4_ := qa.mk ((by rw [hg]; exact (qA (by repeat (first | (with_reducible first | exact HB.out | apply qg | apply qb | apply qf | refine qd ?_ GE432.out) | exact HB.out))) : w.heap.size ≤ gb434)); have n5_ := qa.mk ((by rw [hg]; exact Nat.ne_of_lt (vz (g := gb432) (o := .cells #[.int .i64 a0_0, .slice A0_1 l0_1.length c0_1, .slice (some ad433) l0_2.length c0_2] 25 (0, 0)) (by (with_reducible repeat (first | refine qi ?_ _ | refine ql ?_ | refine qh ?_ _)); exact BK432.out)) : gb432 ≠ gb434)); have n6_ := qa.mk ((by rw [hg]; exact Nat.ne_of_gt (vz (g := gb432) (o := .cells #[.int .i64 a0_0, .slice A0_1 l0_1.length c0_1, .slice (some ad433) l0_2.length c0_2] 25 (0, 0)) (by (with_reducible repeat (first | refine qi ?_ _ | refine ql ?_ | refine qh ?_ _)); exact BK432.out)) : gb434 ≠ gb432)); clear BK432; clear HB; have BK432 := n0_; have HB := n1_; have BK434 := n2_; have GW434 := n3_; have GE434 := n4_; have NB432_434 := n5_; have NB434_432 := n6_; clear n0_ n1_ n2_ n3_ n4_ n5_ n6_; clear hb hbox hg; have hnb18 := NB434_432.out; have hnc18 := NB432_434.out; have hcz19_0 : w17.cell? ⟨gb434, 0, none⟩ = some (.int .i64 0) := (qj BK434.out 0).trans rfl; have hcz19_1 : w17.cell? ⟨gb434, 1, none⟩ = some (.int .i64 0) := (qj BK434.out 1).trans rfl; have hcz19_2 : w17.cell? ⟨gb434, 2, none⟩ = some (.int .i64 0) := (qj BK434.out 2).trans rfl; have hfz19_0 := qm BK434.out 0; have hfz19_1 := qm BK434.out 1; have hfz19_2 := qm BK434.out 2; have hcz20_0 : w17.cell? ⟨gb432, 0, none⟩ = some (.int .i64 a0_0) := (qj BK432.out 0).trans rfl; have hcz20_1 : w17.cell? ⟨gb432, 1, none⟩ = some (.slice A0_1 l0_1.length c0_1) := (qj BK432.out 1).trans rfl; have hcz20_2 : w17.cell? ⟨gb432, 2, none⟩ = some (.slice (some ad433) l0_2.length c0_2) := (qj BK432.out 2).trans rfl; have hfz20_0 := qm BK432.out 0; have hfz20_1 := qm BK432.out 1; have hfz20_2 := qm BK432.out 2; have p435 : 0 ≤ ((ji8) : Int) := of_decide_eq_true (by first | (with_reducible assumption) | assumption); have q435 : (ji8) < (l0_2.length : Int) := of_decide_eq_true (by first | (with_reducible assumption) | assumption); obtain ⟨ad435, e435, hx435_0, hx435_1, hx435_2⟩ := vU HR0_2.out (ji8) p435 q435; obtain rfl : ad433 = ad435 := (by injection e435); have hn435_0 : ad433.block ≠ gb434 := Nat.ne_of_lt (Nat.lt_of_lt_of_le (by have := World.block_lt_of_cell? _ _ hx435_0; first | rwa [add_block] at this | exact this) GW434.out); have hn435_1 : ad433.block ≠ gb434 := Nat.ne_of_lt (Nat.lt_of_lt_of_le (by have := World.block_lt_of_cell? _ _ hx435_0; first | rwa [add_block] at this | exact this) GW434.out); have hn435_2 : ad433.block ≠ gb434 := Nat.ne_of_lt (Nat.lt_of_lt_of_le (by have := World.block_lt_of_cell? _ _ hx435_0; first | rwa [add_block] at this | exact this) GW434.out); replace hx435_0 := (HB.out.cell (World.block_lt_of_cell? w _ hx435_0)).trans hx435_0; replace hx435_1 := (HB.out.cell (World.block_lt_of_cell? w _ hx435_1)).trans hx435_1; replace hx435_2 := (HB.out.cell (World.block_lt_of_cell? w _ hx435_2)).trans hx435_2; replace hx435_0 := (cell_far (p := ⟨gb434, 0, none⟩) (by first | (rw [add_block]; exact hn435_0) | (show (Addr.add _ _).block ≠ _; rw [add_block]; exact hn435_0) | exact hn435_0) (.int .i64 ((qc l0_2 x8_1).f0))).trans hx435_0; replace hx435_1 := (cell_far (p := ⟨gb434, 0, none⟩) (by first | (rw [add_block]; exact hn435_0) | (show (Addr.add _ _).block ≠ _; rw [add_block]; exact hn435_0) | exact hn435_0) (.int .i64 ((qc l0_2 x8_1).f0))).trans hx435_1; replace hx435_2 := (cell_far (p := ⟨gb434, 0, none⟩) (by first | (rw [add_block]; exact hn435_0) | (show (Addr.add _ _).block ≠ _; rw [add_block]; exact hn435_0) | exact hn435_0) (.int .i64 ((qc l0_2 x8_1).f0))).trans hx435_2; replace hx435_0 := (cell_far (p := ⟨gb434, 1, none⟩) (by first | (rw [add_block]; exact hn435_1) | (show (Addr.add _ _).block ≠ _; rw [add_block]; exact hn435_1) | exact hn435_1) (.int .i64 ((qc l0_2 x8_1).f1))).trans hx435_0; replace hx435_1 := (cell_far (p := ⟨gb434, 1, none⟩) (by first | (rw [add_block]; exact hn435_1) | (show (Addr.add _ _).block ≠ _; rw [add_block]; exact hn435_1) | exact hn435_1) (.int .i64 ((qc l0_2 x8_1).f1))).trans hx435_1; replace hx435_2 := (cell_far (p := ⟨gb434, 1, none⟩) (by first | (rw [add_block]; exact hn435_1) | (show (Addr.add _ _).block ≠ _; rw [add_block]; exact hn435_1) | exact hn435_1) (.int .i64 ((qc l0_2 x8_1).f1))).trans hx435_2; replace hx435_0 := (cell_far (p := ⟨gb434, 2, none⟩) (by first | (rw [add_block]; exact hn435_2) | (show (Addr.add _ _).block ≠ _; rw [add_block]; exact hn435_2) | exact hn435_2) (.int .i64 ((qc l0_2 x8_1).f2))).trans hx435_0; replace hx435_1 := (cell_far (p := ⟨gb434, 2, none⟩) (by first | (rw [add_block]; exact hn435_2) | (show (Addr.add _ _).block ≠ _; rw [add_block]; exact hn435_2) | exact hn435_2) (.int .i64 ((qc l0_2 x8_1).f2))).trans hx435_1; replace hx435_2 := (cell_far (p := ⟨gb434, 2, none⟩) (by first | (rw [add_block]; exact hn435_2) | (show (Addr.add _ _).block ≠ _; rw [add_block]; exact hn435_2) | exact hn435_2) (.int .i64 ((qc l0_2 x8_1).f2))).trans hx435_2; (try have hy435_0 := fun (n_ : Nat) => (show (((((w17.drewN n_).setCell ⟨gb434, 0, none⟩ (.int .i64 ((qc l0_2 x8_1).f0))).setCell ⟨gb434, 1, none⟩ (.int .i64 ((qc l0_2 x8_1).f1))).setCell ⟨gb434, 2, none⟩ (.int .i64 ((qc l0_2 x8_1).f2)))).cell? _ = some _ from hx435_0)); (try have hy435_1 := fun (n_ : Nat) => (show (((((w17.drewN n_).setCell ⟨gb434, 0, none⟩ (.int .i64 ((qc l0_2 x8_1).f0))).setCell ⟨gb434, 1, none⟩ (.int .i64 ((qc l0_2 x8_1).f1))).setCell ⟨gb434, 2, none⟩ (.int .i64 ((qc l0_2 x8_1).f2)))).cell? _ = some _ from hx435_1)); (try have hy435_2 := fun (n_ : Nat) => (show (((((w17.drewN n_).setCell ⟨gb434, 0, none⟩ (.int .i64 ((qc l0_2 x8_1).f0))).setCell ⟨gb434, 1, none⟩ (.int .i64 ((qc l0_2 x8_1).f1))).setCell ⟨gb434, 2, none⟩ (.int .i64 ((qc l0_2 x8_1).f2)))).cell? _ = some _ from hx435_2)); clear hn435_0; clear hn435_1; clear hn435_2; replace p435 := eq_true p435; replace q435 := eq_true q435; have p436 : 0 ≤ ((ji8) : Int) := of_decide_eq_true (by first | (with_reducible assumption) | assumption); have q436 : (ji8) < (l0_2.length : Int) := of_decide_eq_true (by first | (with_reducible assumption) | assumption); obtain ⟨ad436, e436, hx436_0, hx436_1, hx436_2⟩ := vU HR0_2.out (ji8) p436 q436; obtain rfl : ad433 = ad436 := (by injection e436); have hn436_0 : ad433.block ≠ gb434 := Nat.ne_of_lt (Nat.lt_of_lt_of_le (by have := World.block_lt_of_cell? _ _ hx436_0; first | rwa [add_block] at this | exact this) GW434.out); have hn436_1 : ad433.block ≠ gb434 := Nat.ne_of_lt (Nat.lt_of_lt_of_le (by have := World.block_lt_of_cell? _ _ hx436_0; first | rwa [add_block] at this | exact this) GW434.out); have hn436_2 : ad433.block ≠ gb434 := Nat.ne_of_lt (Nat.lt_of_lt_of_le (by have := World.block_lt_of_cell? _ _ hx436_0; first | rwa [add_block] at this | exact this) GW434.out); replace hx436_0 := (HB.out.cell (World.block_lt_of_cell? w _ hx436_0)).trans hx436_0; replace hx436_1 := (HB.out.cell (World.block_lt_of_cell? w _ hx436_1)).trans hx436_1; replace hx436_2 := (HB.out.cell (World.block_lt_of_cell? w _ hx436_2)).trans hx436_2; replace hx436_0 := (cell_far (p := ⟨gb434, 0, none⟩) (by first | (rw [add_block]; exact hn436_0) | (show (Addr.add _ _).block ≠ _; rw [add_block]; exact hn436_0) | exact hn436_0) (.int .i64 ((qc l0_2 x8_1).f0))).trans hx436_0; replace hx436_1 := (cell_far (p := ⟨gb434, 0, none⟩) (by first | (rw [add_block]; exact hn436_0) | (show (Addr.add _ _).block ≠ _; rw [add_block]; exact hn436_0) | exact hn436_0) (.int .i64 ((qc l0_2 x8_1).f0))).trans hx436_1; replace hx436_2 := (cell_far (p := ⟨gb434, 0, none⟩) (by first | (rw [add_block]; exact hn436_0) | (show (Addr.add _ _).block ≠ _; rw [add_block]; exact hn436_0) | exact hn436_0) (.int .i64 ((qc l0_2 x8_1).f0))).trans hx436_2; replace hx436_0 := (cell_far (p := ⟨gb434, 1, none⟩) (by first | (rw [add_block]; exact hn436_1) | (show (Addr.add _ _).block ≠ _; rw [add_block]; exact hn436_1) | exact hn436_1) (.int .i64 ((qc l0_2 x8_1).f1))).trans hx436_0; replace hx436_1 := (cell_far (p := ⟨gb434, 1, none⟩) (by first | (rw [add_block]; exact hn436_1) | (show (Addr.add _ _).block ≠ _; rw [add_block]; exact hn436_1) | exact hn436_1) (.int .i64 ((qc l0_2 x8_1).f1))).trans hx436_1; replace hx436_2 := (cell_far (p := ⟨gb434, 1, none⟩) (by first | (rw [add_block]; exact hn436_1) | (show (Addr.add _ _).block ≠ _; rw [add_block]; exact hn436_1) | exact hn436_1) (.int .i64 ((qc l0_2 x8_1).f1))).trans hx436_2; replace hx436_0 := (cell_far (p := ⟨gb434, 2, none⟩) (by first | (rw [add_block]; exact hn436_2) | (show (Addr.add _ _).block ≠ _; rw [add_block]; exact hn436_2) | exact hn436_2) (.int .i64 ((qc l0_2 x8_1).f2))).trans hx436_0; replace hx436_1 := (cell_far (p := ⟨gb434, 2, none⟩) (by first | (rw [add_block]; exact hn436_2) | (show (Addr.add _ _).block ≠ _; rw [add_block]; exact hn436_2) | exact hn436_2) (.int .i64 ((qc l0_2 x8_1).f2))).trans hx436_1; replace hx436_2 := (cell_far (p := ⟨gb434, 2, none⟩) (by first | (rw [add_block]; exact hn436_2) | (show (Addr.add _ _).block ≠ _; rw [add_block]; exact hn436_2) | exact hn436_2) (.int .i64 ((qc l0_2 x8_1).f2))).trans hx436_2; (try have hy436_0 := fun (n_ : Nat) => (show (((((w17.drewN n_).setCell ⟨gb434, 0, none⟩ (.int .i64 ((qc l0_2 x8_1).f0))).setCell ⟨gb434, 1, none⟩ (.int .i64 ((qc l0_2 x8_1).f1))).setCell ⟨gb434, 2, none⟩ (.int .i64 ((qc l0_2 x8_1).f2)))).cell? _ = some _ from hx436_0)); (try have hy436_1 := fun (n_ : Nat) => (show (((((w17.drewN n_).setCell ⟨gb434, 0, none⟩ (.int .i64 ((qc l0_2 x8_1).f0))).setCell ⟨gb434, 1, none⟩ (.int .i64 ((qc l0_2 x8_1).f1))).setCell ⟨gb434, 2, none⟩ (.int .i64 ((qc l0_2 x8_1).f2)))).cell? _ = some _ from hx436_1)); (try have hy436_2 := fun (n_ : Nat) => (show (((((w17.drewN n_).setCell ⟨gb434, 0, none⟩ (.int .i64 ((qc l0_2 x8_1).f0))).setCell ⟨gb434, 1, none⟩ (.int .i64 ((qc l0_2 x8_1).f1))).setCell ⟨gb434, 2, none⟩ (.int .i64 ((qc l0_2 x8_1).f2)))).cell? _ = some _ from hx436_2)); clear hn436_0; clear hn436_1; clear hn436_2; replace p436 := eq_true p436; replace q436 := eq_true q436)); try go_wp2_with (first | ((with_reducible refine qY (N := 4) rfl ?_); refine qZ ?hg (N := 4) ?hd (cs := #[.int .i64 0, .int .i64 0, .int .i64 0]) (t := 55) ?hr ?_; (case hd => rfl); (case hg => rfl); (case hr => first | (go_simp; done) | (go_simp; rfl)); intro gb434 hg w17 hbox hb; have n0_ := qa.mk (qB (g := gb432) (o := .cells #[.int .i64 a0_0, .slice A0_1 l0_1.length c0_1, .slice (some ad433) l0_2.length c0_2] 25 (0, 0)) (by (with_reducible repeat (first | refine qi ?_ _ | refine ql ?_ | refine qh ?_ _)); exact BK432.out) hb); have n1_ := qa.mk (qD (by repeat (first | (with_reducible first | exact HB.out | apply qg | apply qb | apply qf | refine qd ?_ GE432.out) | exact HB.out)) hb); have n2_ := qa.mk (hbox); have n3_ := qa.mk ((by rw [hg]; exact (qA (by repeat (first | (with_reducible first | exact HB.out | apply qg | apply qb | apply qf | refine qd ?_ GE432.out) | exact HB.out))) : w.heap.size ≤ gb434)); have n4_ := qa.mk ((by rw [hg]; exact (qA (by repeat (first | (with_reducible first | exact HB.out | apply qg | apply qb | apply qf | refine qd ?_ GE432.out) | exact HB.out))) : w.heap.size ≤ gb434)); have n5_ := qa.mk ((by rw [hg]; exact Nat.ne_of_lt (vz (g := gb432) (o := .cells #[.int .i64 a0_0, .slice A0_1 l0_1.length c0_1, .slice (some ad433) l0_2.length c0_2] 25 (0, 0)) (by (with_reducible repeat (first | refine qi ?_ _ | refine ql ?_ | refine qh ?_ _)); exact BK432.out)) : gb432 ≠ gb434)); have n6_ := qa.mk ((by rw [hg]; exact Nat.ne_of_gt (vz (g := gb432) (o := .cells #[.int .i64 a0_0, .slice A0_1 l0_1.length c0_1, .slice (some ad433) l0_2.length c0_2] 25 (0, 0)) (by (with_reducible repeat (first | refine qi ?_ _ | refine ql ?_ | refine qh ?_ _)); exact BK432.out)) : gb434 ≠ gb432)); clear BK432; clear HB; have BK432 := n0_; have HB := n1_; have BK434 := n2_; have GW434 := n3_; have GE434 := n4_; have NB432_434 := n5_; have NB434_432 := n6_; clear n0_ n1_ n2_ n3_ n4_ n5_ n6_; clear hb hbox hg; have hnb18 := NB434_432.out; have hnc18 := NB432_434.out; have hcz19_0 : w17.cell? ⟨gb434, 0, none⟩ = some (.int .i64 0) := (qj BK434.out 0).trans rfl; have hcz19_1 : w17.cell? ⟨gb434, 1, none⟩ = some (.int .i64 0) := (qj BK434.out 1).trans rfl; have hcz19_2 : w17.cell? ⟨gb434, 2, none⟩ = some (.int .i64 0) := (qj BK434.out 2).trans rfl; have hfz19_0 := qm BK434.out 0; have hfz19_1 := qm BK434.out 1; have hfz19_2 := qm BK434.out 2; have hcz20_0 : w17.cell? ⟨gb432, 0, none⟩ = some (.int .i64 a0_0) := (qj BK432.out 0).trans rfl; have hcz20_1 : w17.cell? ⟨gb432, 1, none⟩ = some (.slice A0_1 l0_1.length c0_1) := (qj BK432.out 1).trans rfl; have hcz20_2 : w17.cell? ⟨gb432, 2, none⟩ = some (.slice (some ad433) l0_2.length c0_2) := (qj BK432.out 2).trans rfl; have hfz20_0 := qm BK432.out 0; have hfz20_1 := qm BK432.out 1; have hfz20_2 := qm BK432.out 2; have p435 : 0 ≤ ((ji8) : Int) := of_decide_eq_true (by first | (with_reducible assumption) | assumption); have q435 : (ji8) < (l0_2.length : Int) := of_decide_eq_true (by first | (with_reducible assumption) | assumption); obtain ⟨ad435, e435, hx435_0, hx435_1, hx435_2⟩ := vU HR0_2.out (ji8) p435 q435; obtain rfl : ad433 = ad435 := (by injection e435); have hn435_0 : ad433.block ≠ gb434 := Nat.ne_of_lt (Nat.lt_of_lt_of_le (by have := World.block_lt_of_cell? _ _ hx435_0; first | rwa [add_block] at this | exact this) GW434.out); have hn435_1 : ad433.block ≠ gb434 := Nat.ne_of_lt (Nat.lt_of_lt_of_le (by have := World.block_lt_of_cell? _ _ hx435_0; first | rwa [add_block] at this | exact this) GW434.out); have hn435_2 : ad433.block ≠ gb434 := Nat.ne_of_lt (Nat.lt_of_lt_of_le (by have := World.block_lt_of_cell? _ _ hx435_0; first | rwa [add_block] at this | exact this) GW434.out); replace hx435_0 := (HB.out.cell (World.block_lt_of_cell? w _ hx435_0)).trans hx435_0; replace hx435_1 := (HB.out.cell (World.block_lt_of_cell? w _ hx435_1)).trans hx435_1; replace hx435_2 := (HB.out.cell (World.block_lt_of_cell? w _ hx435_2)).trans hx435_2; replace hx435_0 := (cell_far (p := ⟨gb434, 0, none⟩) (by first | (rw [add_block]; exact hn435_0) | (show (Addr.add _ _).block ≠ _; rw [add_block]; exact hn435_0) | exact hn435_0) (.int .i64 ((qc l0_2 x8_1).f0))).trans hx435_0; replace hx435_1 := (cell_far (p := ⟨gb434, 0, none⟩) (by first | (rw [add_block]; exact hn435_0) | (show (Addr.add _ _).block ≠ _; rw [add_block]; exact hn435_0) | exact hn435_0) (.int .i64 ((qc l0_2 x8_1).f0))).trans hx435_1; replace hx435_2 := (cell_far (p := ⟨gb434, 0, none⟩) (by first | (rw [add_block]; exact hn435_0) | (show (Addr.add _ _).block ≠ _; rw [add_block]; exact hn435_0) | exact hn435_0) (.int .i64 ((qc l0_2 x8_1).f0))).trans hx435_2; replace hx435_0 := (cell_far (p := ⟨gb434, 1, none⟩) (by first | (rw [add_block]; exact hn435_1) | (show (Addr.add _ _).block ≠ _; rw [add_block]; exact hn435_1) | exact hn435_1) (.int .i64 ((qc l0_2 x8_1).f1))).trans hx435_0; replace hx435_1 := (cell_far (p := ⟨gb434, 1, none⟩) (by first | (rw [add_block]; exact hn435_1) | (show (Addr.add _ _).block ≠ _; rw [add_block]; exact hn435_1) | exact hn435_1) (.int .i64 ((qc l0_2 x8_1).f1))).trans hx435_1; replace hx435_2 := (cell_far (p := ⟨gb434, 1, none⟩) (by first | (rw [add_block]; exact hn435_1) | (show (Addr.add _ _).block ≠ _; rw [add_block]; exact hn435_1) | exact hn435_1) (.int .i64 ((qc l0_2 x8_1).f1))).trans hx435_2; replace hx435_0 := (cell_far (p := ⟨gb434, 2, none⟩) (by first | (rw [add_block]; exact hn435_2) | (show (Addr.add _ _).block ≠ _; rw [add_block]; exact hn435_2) | exact hn435_2) (.int .i64 ((qc l0_2 x8_1).f2))).trans hx435_0; replace hx435_1 := (cell_far (p := ⟨gb434, 2, none⟩) (by first | (rw [add_block]; exact hn435_2) | (show (Addr.add _ _).block ≠ _; rw [add_block]; exact hn435_2) | exact hn435_2) (.int .i64 ((qc l0_2 x8_1).f2))).trans hx435_1; replace hx435_2 := (cell_far (p := ⟨gb434, 2, none⟩) (by first | (rw [add_block]; exact hn435_2) | (show (Addr.add _ _).block ≠ _; rw [add_block]; exact hn435_2) | exact hn435_2) (.int .i64 ((qc l0_2 x8_1).f2))).trans hx435_2; (try have hy435_0 := fun (n_ : Nat) => (show (((((w17.drewN n_).setCell ⟨gb434, 0, none⟩ (.int .i64 ((qc l0_2 x8_1).f0))).setCell ⟨gb434, 1, none⟩ (.int .i64 ((qc l0_2 x8_1).f1))).setCell ⟨gb434, 2, none⟩ (.int .i64 ((qc l0_2 x8_1).f2)))).cell? _ = some _ from hx435_0)); (try have hy435_1 := fun (n_ : Nat) => (show (((((w17.drewN n_).setCell ⟨gb434, 0, none⟩ (.int .i64 ((qc l0_2 x8_1).f0))).setCell ⟨gb434, 1, none⟩ (.int .i64 ((qc l0_2 x8_1).f1))).setCell ⟨gb434, 2, none⟩ (.int .i64 ((qc l0_2 x8_1).f2)))).cell? _ = some _ from hx435_1)); (try have hy435_2 := fun (n_ : Nat) => (show (((((w17.drewN n_).setCell ⟨gb434, 0, none⟩ (.int .i64 ((qc l0_2 x8_1).f0))).setCell ⟨gb434, 1, none⟩ (.int .i64 ((qc l0_2 x8_1).f1))).setCell ⟨gb434, 2, none⟩ (.int .i64 ((qc l0_2 x8_1).f2)))).cell? _ = some _ from hx435_2)); clear hn435_0; clear hn435_1; clear hn435_2; replace p435 := eq_true p435; replace q435 := eq_true q435; have p436 : 0 ≤ ((ji8) : Int) := of_decide_eq_true (by first | (with_reducible assumption) | assumption); have q436 : (ji8) < (l0_2.length : Int) := of_decide_eq_true (by first | (with_reducible assumption) | assumption); obtain ⟨ad436, e436, hx436_0, hx436_1, hx436_2⟩ := vU HR0_2.out (ji8) p436 q436; obtain rfl : ad433 = ad436 := (by injection e436); have hn436_0 : ad433.block ≠ gb434 := Nat.ne_of_lt (Nat.lt_of_lt_of_le (by have := World.block_lt_of_cell? _ _ hx436_0; first | rwa [add_block] at this | exact this) GW434.out); have hn436_1 : ad433.block ≠ gb434 := Nat.ne_of_lt (Nat.lt_of_lt_of_le (by have := World.block_lt_of_cell? _ _ hx436_0; first | rwa [add_block] at this | exact this) GW434.out); have hn436_2 : ad433.block ≠ gb434 := Nat.ne_of_lt (Nat.lt_of_lt_of_le (by have := World.block_lt_of_cell? _ _ hx436_0; first | rwa [add_block] at this | exact this) GW434.out); replace hx436_0 := (HB.out.cell (World.block_lt_of_cell? w _ hx436_0)).trans hx436_0; replace hx436_1 := (HB.out.cell (World.block_lt_of_cell? w _ hx436_1)).trans hx436_1; replace hx436_2 := (HB.out.cell (World.block_lt_of_cell? w _ hx436_2)).trans hx436_2; replace hx436_0 := (cell_far (p := ⟨gb434, 0, none⟩) (by first | (rw [add_block]; exact hn436_0) | (show (Addr.add _ _).block ≠ _; rw [add_block]; exact hn436_0) | exact hn436_0) (.int .i64 ((qc l0_2 x8_1).f0))).trans hx436_0; replace hx436_1 := (cell_far (p := ⟨gb434, 0, none⟩) (by first | (rw [add_block]; exact hn436_0) | (show (Addr.add _ _).block ≠ _; rw [add_block]; exact hn436_0) | exact hn436_0) (.int .i64 ((qc l0_2 x8_1).f0))).trans hx436_1; replace hx436_2 := (cell_far (p := ⟨gb434, 0, none⟩) (by first | (rw [add_block]; exact hn436_0) | (show (Addr.add _ _).block ≠ _; rw [add_block]; exact hn436_0) | exact hn436_0) (.int .i64 ((qc l0_2 x8_1).f0))).trans hx436_2; replace hx436_0 := (cell_far (p := ⟨gb434, 1, none⟩) (by first | (rw [add_block]; exact hn436_1) | (show (Addr.add _ _).block ≠ _; rw [add_block]; exact hn436_1) | exact hn436_1) (.int .i64 ((qc l0_2 x8_1).f1))).trans hx436_0; replace hx436_1 := (cell_far (p := ⟨gb434, 1, none⟩) (by first | (rw [add_block]; exact hn436_1) | (show (Addr.add _ _).block ≠ _; rw [add_block]; exact hn436_1) | exact hn436_1) (.int .i64 ((qc l0_2 x8_1).f1))).trans hx436_1; replace hx436_2 := (cell_far (p := ⟨gb434, 1, none⟩) (by first | (rw [add_block]; exact hn436_1) | (show (Addr.add _ _).block ≠ _; rw [add_block]; exact hn436_1) | exact hn436_1) (.int .i64 ((qc l0_2 x8_1).f1))).trans hx436_2; replace hx436_0 := (cell_far (p := ⟨gb434, 2, none⟩) (by first | (rw [add_block]; exact hn436_2) | (show (Addr.add _ _).block ≠ _; rw [add_block]; exact hn436_2) | exact hn436_2) (.int .i64 ((qc l0_2 x8_1).f2))).trans hx436_0; replace hx436_1 := (cell_far (p := ⟨gb434, 2, none⟩) (by first | (rw [add_block]; exact hn436_2) | (show (Addr.add _ _).block ≠ _; rw [add_block]; exact hn436_2) | exact hn436_2) (.int .i64 ((qc l0_2 x8_1).f2))).trans hx436_1; replace hx436_2 := (cell_far (p := ⟨gb434, 2, none⟩) (by first | (rw [add_block]; exact hn436_2) | (show (Addr.add _ _).block ≠ _; rw [add_block]; exact hn436_2) | exact hn436_2) (.int .i64 ((qc l0_2 x8_1).f2))).trans hx436_2; (try have hy436_0 := fun (n_ : Nat) => (show (((((w17.drewN n_).setCell ⟨gb434, 0, none⟩ (.int .i64 ((qc l0_2 x8_1).f0))).setCell ⟨gb434, 1, none⟩ (.int .i64 ((qc l0_2 x8_1).f1))).setCell ⟨gb434, 2, none⟩ (.int .i64 ((qc l0_2 x8_1).f2)))).cell? _ = some _ from hx436_0)); (try have hy436_1 := fun (n_ : Nat) => (show (((((w17.drewN n_).setCell ⟨gb434, 0, none⟩ (.int .i64 ((qc l0_2 x8_1).f0))).setCell ⟨gb434, 1, none⟩ (.int .i64 ((qc l0_2 x8_1).f1))).setCell ⟨gb434, 2, none⟩ (.int .i64 ((qc l0_2 x8_1).f2)))).cell? _ = some _ from hx436_1)); (try have hy436_2 := fun (n_ : Nat) => (show (((((w17.drewN n_).setCell ⟨gb434, 0, none⟩ (.int .i64 ((qc l0_2 x8_1).f0))).setCell ⟨gb434, 1, none⟩ (.int .i64 ((qc l0_2 x8_1).f1))).setCell ⟨gb434, 2, none⟩ (.int .i64 ((qc l0_2 x8_1).f2)))).cell? _ = some _ from hx436_2)); clear hn436_0; clear hn436_1; clear hn436_2; replace p436 := eq_true p436; replace q436 := eq_true q436)))
           go_roundg k1
           case measure => have := HK1.out; omega
           case rel => exact ⟨(wrap64 (x8_1 + 1)), (by first | rfl | (simp; done) | (simp [*]; done)), H', ⟨by have := HK1.out; omega⟩, ⟨by (with_reducible repeat (first | refine qi ?_ _ | refine ql ?_ | refine qh ?_ _)); refine vG ?_ NB432_434.out _; (with_reducible repeat (first | refine qi ?_ _ | refine ql ?_ | refine qh ?_ _)); refine vG ?_ NB432_434.out _; (with_reducible repeat (first | refine qi ?_ _ | refine ql ?_ | refine qh ?_ _)); refine vG ?_ NB432_434.out _; (with_reducible repeat (first | refine qi ?_ _ | refine ql ?_ | refine qh ?_ _)); exact BK432.out⟩, ⟨by repeat (first | (with_reducible first | exact HB.out | apply qg | apply qb | apply qf | refine qd ?_ GE432.out | refine qd ?_ GE434.out) | exact HB.out)⟩⟩
         ·rw [if_neg c11] at H
          have c11b0 : (((qc l0_2 (ji8)).f0) == ((qc l0_2 x8_1).f0)) = false := beq_eq_false_iff_ne.mpr c11
          have c11b1 : (((qc l0_2 (ji8)).f0) != ((qc l0_2 x8_1).f0)) = true := bne_iff_ne.mpr c11
          have H' := qa.mk H
          clear H
          have p433 : 0 ≤ (x8_1 : Int) := of_decide_eq_true (by first | (with_reducible assumption) | assumption)
          have q433 : x8_1 < (l0_2.length : Int) := of_decide_eq_true (by first | (with_reducible assumption) | assumption)
          obtain ⟨ad433, e433, hx433_0, hx433_1, hx433_2⟩ := vU HR0_2.out x8_1 p433 q433
          cases e433
          replace hx433_0 := (HB.out.cell (World.block_lt_of_cell? w _ hx433_0)).trans hx433_0
          replace hx433_1 := (HB.out.cell (World.block_lt_of_cell? w _ hx433_1)).trans hx433_1
          replace hx433_2 := (HB.out.cell (World.block_lt_of_cell? w _ hx433_2)).trans hx433_2
          replace p433 := eq_true p433
          replace q433 := eq_true q433
          go_wp2_with (first | ((with_reducible refine qY (N := 4) rfl ?_); refine qZ ?hg (N := 4) ?hd (cs := #[.int .i64 0, .int .i64 0, .int .i64 0]) (t := 55) ?hr ?_; (case hd => rfl); (case hg => rfl); (case hr => first | (go_simp; done) | (go_simp; rfl)); intro gb434 hg w21 hbox hb; have n0_ := qa.mk (qB (g := gb432) (o := .cells #[.int .i64 a0_0, .slice A0_1 l0_1.length c0_1, .slice (some ad433) l0_2.length c0_2] 25 (0, 0)) (by (with_reducible repeat (first | refine qi ?_ _ | refine ql ?_ | refine qh ?_ _)); exact BK432.out) hb); have n1_ := qa.mk (qD (by repeat (first | (with_reducible first | exact HB.out | apply qg | apply qb | apply qf | refine qd ?_ GE432.out) | exact HB.out)) hb); have n2_ := qa.mk (hbox); have n3_ := qa.mk ((by rw [hg]; exact (qA (by repeat (first | (with_reducible first | exact HB.out | apply qg | apply qb | apply qf | refine qd ?_ GE432.out) | exact HB.out))) : w.heap.size ≤ gb434)); have n4_ := qa.mk ((by rw [hg]; exact (qA (by repeat (first | (with_reducible first | exact HB.out | apply qg | apply qb | apply qf | refine qd ?_ GE432.out) | exact HB.out))) : w.heap.size ≤ gb434)); have n5_ := qa.mk ((by rw [hg]; exact Nat.ne_of_lt (vz (g := gb432) (o := .cells #[.int .i64 a0_0, .slice A0_1 l0_1.length c0_1, .slice (some ad433) l0_2.length c0_2] 25 (0, 0)) (by (with_reducible repeat (first | refine qi ?_ _ | refine ql ?_ | refine qh ?_ _)); exact BK432.out)) : gb432 ≠ gb434)); have n6_ := qa.mk ((by rw [hg]; exact Nat.ne_of_gt (vz (g := gb432) (o := .cells #[.int .i64 a0_0, .slice A0_1 l0_1.length c0_1, .slice (some ad433) l0_2.length c0_2] 25 (0, 0)) (by (with_reducible repeat (first | refine qi ?_ _ | refine ql ?_ | refine qh ?_ _)); exact BK432.out)) : gb434 ≠ gb432)); clear BK432; clear HB; have BK432 := n0_; have HB := n1_; have BK434 := n2_; have GW434 := n3_; have GE434 := n4_; have NB432_434 := n5_; have NB434_432 := n6_; clear n0_ n1_ n2_ n3_ n4_ n5_ n6_; clear hb hbox hg; have hnb22 := NB434_432.out; have hnc22 := NB432_434.out; have hcz23_0 : w21.cell? ⟨gb434, 0, none⟩ = some (.int .i64 0) := (qj BK434.out 0).trans rfl; have hcz23_1 : w21.cell? ⟨gb434, 1, none⟩ = some (.int .i64 0) := (qj BK434.out 1).trans rfl; have hcz23_2 : w21.cell? ⟨gb434, 2, none⟩ = some (.int .i64 0) := (qj BK434.out 2).trans rfl; have hfz23_0 := qm BK434.out 0; have hfz23_1 := qm BK434.out 1; have hfz23_2 := qm BK434.out 2; have hcz24_0 : w21.cell? ⟨gb432, 0, none⟩ = some (.int .i64 a0_0) := (qj BK432.out 0).trans rfl; have hcz24_1 : w21.cell? ⟨gb432, 1, none⟩ = some (.slice A0_1 l0_1.length c0_1) := (qj BK432.out 1).trans rfl; have hcz24_2 : w21.cell? ⟨gb432, 2, none⟩ = some (.slice (some ad433) l0_2.length c0_2) := (qj BK432.out 2).trans rfl; have hfz24_0 := qm BK432.out 0; have hfz24_1 := qm BK432.out 1; have hfz24_2 := qm BK432.out 2; have p435 : 0 ≤ ((ji8) : Int) := of_decide_eq_true (by first | (with_reducible assumption) | assumption); have q435 : (ji8) < (l0_2.length : Int) := of_decide_eq_true (by first | (with_reducible assumption) | assumption); obtain ⟨ad435, e435, hx435_0, hx435_1, hx435_2⟩ := vU HR0_2.out (ji8) p435 q435; obtain rfl : ad433 = ad435 := (by injection e435); have hn435_0 : ad433.block ≠ gb434 := Nat.ne_of_lt (Nat.lt_of_lt_of_le (by have := World.block_lt_of_cell? _ _ hx435_0; first | rwa [add_block] at this | exact this) GW434.out); have hn435_1 : ad433.block ≠ gb434 := Nat.ne_of_lt (Nat.lt_of_lt_of_le (by have := World.block_lt_of_cell? _ _ hx435_0; first | rwa [add_block] at this | exact this) GW434.out); have hn435_2 : ad433.block ≠ gb434 := Nat.ne_of_lt (Nat.lt_of_lt_of_le (by have := World.block_lt_of_cell? _ _ hx435_0; first | rwa [add_block] at this | exact this) GW434.out); replace hx435_0 := (HB.out.cell (World.block_lt_of_cell? w _ hx435_0)).trans hx435_0; replace hx435_1 := (HB.out.cell (World.block_lt_of_cell? w _ hx435_1)).trans hx435_1; replace hx435_2 := (HB.out.cell (World.block_lt_of_cell? w _ hx435_2)).trans hx435_2; replace hx435_0 := (cell_far (p := ⟨gb434, 0, none⟩) (by first | (rw [add_block]; exact hn435_0) | (show (Addr.add _ _).block ≠ _; rw [add_block]; exact hn435_0) | exact hn435_0) (.int .i64 ((qc l0_2 x8_1).f0))).trans hx435_0; replace hx435_1 := (cell_far (p := ⟨gb434, 0, none⟩) (by first | (rw [add_block]; exact hn435_0) | (show (Addr.add _ _).block ≠ _; rw [add_block]; exact hn435_0) | exact hn435_0) (.int .i64 ((qc l0_2 x8_1).f0))).trans hx435_1; replace hx435_2 := (cell_far (p := ⟨gb434, 0, none⟩) (by first | (rw [add_block]; exact hn435_0) | (show (Addr.add _ _).block ≠ _; rw [add_block]; exact hn435_0) | exact hn435_0) (.int .i64 ((qc l0_2 x8_1).f0))).trans hx435_2; replace hx435_0 := (cell_far (p := ⟨gb434, 1, none⟩) (by first | (rw [add_block]; exact hn435_1) | (show (Addr.add _ _).block ≠ _; rw [add_block]; exact hn435_1) | exact hn435_1) (.int .i64 ((qc l0_2 x8_1).f1))).trans hx435_0; replace hx435_1 := (cell_far (p := ⟨gb434, 1, none⟩) (by first | (rw [add_block]; exact hn435_1) | (show (Addr.add _ _).block ≠ _; rw [add_block]; exact hn435_1) | exact hn435_1) (.int .i64 ((qc l0_2 x8_1).f1))).trans hx435_1; replace hx435_2 := (cell_far (p := ⟨gb434, 1, none⟩) (by first | (rw [add_block]; exact hn435_1) | (show (Addr.add _ _).block ≠ _; rw [add_block]; exact hn435_1) | exact hn435_1) (.int .i64 ((qc l0_2 x8_1).f1))).trans hx435_2; replace hx435_0 := (cell_far (p := ⟨gb434, 2, none⟩) (by first | (rw [add_block]; exact hn435_2) | (show (Addr.add _ _).block ≠ _; rw [add_block]; exact hn435_2) | exact hn435_2) (.int .i64 ((qc l0_2 x8_1).f2))).trans hx435_0; replace hx435_1 := (cell_far (p := ⟨gb434, 2, none⟩) (by first | (rw [add_block]; exact hn435_2) | (show (Addr.add _ _).block ≠ _; rw [add_block]; exact hn435_2) | exact hn435_2) (.int .i64 ((qc l0_2 x8_1).f2))).trans hx435_1; replace hx435_2 := (cell_far (p := ⟨gb434, 2, none⟩) (by first | (rw [add_block]; exact hn435_2) | (show (Addr.add _ _).block ≠ _; rw [add_block]; exact hn435_2) | exact hn435_2) (.int .i64 ((qc l0_2 x8_1).f2))).trans hx435_2; (try have hy435_0 := fun (n_ : Nat) => (show (((((w21.drewN n_).setCell ⟨gb434, 0, none⟩ (.int .i64 ((qc l0_2 x8_1).f0))).setCell ⟨gb434, 1, none⟩ (.int .i64 ((qc l0_2 x8_1).f1))).setCell ⟨gb434, 2, none⟩ (.int .i64 ((qc l0_2 x8_1).f2)))).cell? _ = some _ from hx435_0)); (try have hy435_1 := fun (n_ : Nat) => (show (((((w21.drewN n_).setCell ⟨gb434, 0, none⟩ (.int .i64 ((qc l0_2 x8_1).f0))).setCell ⟨gb434, 1, none⟩ (.int .i64 ((qc l0_2 x8_1).f1))).setCell ⟨gb434, 2, none⟩ (.int .i64 ((qc l0_2 x8_1).f2)))).cell? _ = some _ from hx435_1)); (try have hy435_2 := fun (n_ : Nat) => (show (((((w21.drewN n_).setCell ⟨gb434, 0, none⟩ (.int .i64 ((qc l0_2 x8_1).f0))).setCell ⟨gb434, 1, none⟩ (.int .i64 ((qc l0_2 x8_1).f1))).setCell ⟨gb434, 2, none⟩ (.int .i64 ((qc l0_2 x8_1).f2)))).cell? _ = some _ from hx435_2)); clear hn435_0; clear hn435_1; clear hn435_2; replace p435 := eq_true p435; replace q435 := eq_true q435))
          repeat (go_quiet (first | ((with_reducible refine qY (N := 4) rfl ?_); refine qZ ?hg (N := 4) ?hd (cs := #[.int .i64 0, .int .i64 0, .int .i64 0]) (t := 55) ?hr ?_; (case hd => rfl); (case hg => rfl); (case hr => first | (go_simp; done) | (go_simp; rfl)); intro gb434 hg w21 hbox hb; have n0_ := qa.mk (qB (g := gb432) (o := .cells #[.int .i64 a0_0, .slice A0_1 l0_1.length c0_1, .slice (some ad433) l0_2.length c0_2] 25 (0, 0)) (by (with_reducible repeat (first | refine qi ?_ _ | refine ql ?_ | refine qh ?_ _)); exact BK432.out) hb); have n1_ := qa.mk (qD (by repeat (first | (with_reducible first | exact HB.out | apply qg | apply qb | apply qf | refine qd ?_ GE432.out) | exact HB.out)) hb); have n2_ := qa.mk (hbox); have n3_ := qa.mk ((by rw [hg]; exact (qA (by repeat (first | (with_reducible first | exact HB.out | apply qg | apply qb | apply qf | refine qd ?_ GE432.out) | exact HB.out))) : w.heap.size ≤ gb434)); have n4_ := qa.mk ((by rw [hg]; exact (qA (by repeat (first | (with_reducible first | exact HB.out | apply qg | apply qb | apply qf | refine qd ?_ GE432.out) | exact HB.out))) : w.heap.size ≤ gb434)); have n5_ := qa.mk ((by rw [hg]; exact Nat.ne_of_lt (vz (g := gb432) (o := .cells #[.int .i64 a0_0, .slice A0_1 l0_1.length c0_1, .slice (some ad433) l0_2.length c0_2] 25 (0, 0)) (by (with_reducible repeat (first | refine qi ?_ _ | refine ql ?_ | refine qh ?_ _)); exact BK432.out)) : gb432 ≠ gb434)); have n6_ := qa.mk ((by rw [hg]; exact Nat.ne_of_gt (vz (g := gb432) (o := .cells #[.int .i64 a0_0, .slice A0_1 l0_1.length c0_1, .slice (some ad433) l0_2.length c0_2] 25 (0, 0)) (by (with_reducible repeat (first | refine qi ?_ _ | refine ql ?_ | refine qh ?_ _)); exact BK432.out)) : gb434 ≠ gb432)); clear BK432; clear HB; have BK432 := n0_; have HB := n1_; have BK434 := n2_; have GW434 := n3_; have GE434 := n4_; have NB432_434 := n5_; have NB434_432 := n6_; clear n0_ n1_ n2_ n3_ n4_ n5_ n6_; clear hb hbox hg; have hnb22 := NB434_432.out; have hnc22 := NB432_434.out; have hcz23_0 : w21.cell? ⟨gb434, 0, none⟩ = some (.int .i64 0) := (qj BK434.out 0).trans rfl; have hcz23_1 : w21.cell? ⟨gb434, 1, none⟩ = some (.int .i64 0) := (qj BK434.out 1).trans rfl; have hcz23_2 : w21.cell? ⟨gb434, 2, none⟩ = some (.int .i64 0) := (qj BK434.out 2).trans rfl; have hfz23_0 := qm BK434.out 0; have hfz23_1 := qm BK434.out 1; have hfz23_2 := qm BK434.out 2; have hcz24_0 : w21.cell? ⟨gb432, 0, none⟩ = some (.int .i64 a0_0) := (qj BK432.out 0).trans rfl; have hcz24_1 : w21.cell? ⟨gb432, 1, none⟩ = some (.slice A0_1 l0_1.length c0_1) := (qj BK432.out 1).trans rfl; have hcz24_2 : w21.cell? ⟨gb432, 2, none⟩ = some (.slice (some ad433) l0_2.length c0_2) := (qj BK432.out 2).trans rfl; have hfz24_0 := qm BK432.out 0; have hfz24_1 := qm BK432.out 1; have hfz24_2 := qm BK432.out 2; have p435 : 0 ≤ ((ji8) : Int) := of_decide_eq_true (by first | (with_reducible assumption) | assumption); have q435 : (ji8) < (l0_2.length : Int) := of_decide_eq_true (by first | (with_reducible assumption) | assumption); obtain ⟨ad435, e435, hx435_0, hx435_1, hx435_2⟩ := vU HR0_2.out (ji8) p435 q435; obtain rfl : ad433 = ad435 := (by injection e435); have hn435_0 : ad433.block ≠ gb434 := Nat.ne_of_lt (Nat.lt_of_lt_of_le (by have := World.block_lt_of_cell? _ _ hx435_0; first | rwa [add_block] at this | exact this) GW434.out); have hn435_1 : ad433.block ≠ gb434 := Nat.ne_of_lt (Nat.lt_of_lt_of_le (by have := World.block_lt_of_cell? _ _ hx435_0; first | rwa [add_block] at this | exact this) GW434.out); have hn435_2 : ad433.block ≠ gb434 := Nat.ne_of_lt (Nat.lt_of_lt_of_le (by have := World.block_lt_of_cell? _ _ hx435_0; first | rwa [add_block] at this | exact this) GW434.out); replace hx435_0 := (HB.out.cell (World.block_lt_of_cell? w _ hx435_0)).trans hx435_0; replace hx435_1 := (HB.out.cell (World.block_lt_of_cell? w _ hx435_1)).trans hx435_1; replace hx435_2 := (HB.out.cell (World.block_lt_of_cell? w _ hx435_2)).trans hx435_2; replace hx435_0 := (cell_far (p := ⟨gb434, 0, none⟩) (by first | (rw [add_block]; exact hn435_0) | (show (Addr.add _ _).block ≠ _; rw [add_block]; exact hn435_0) | exact hn435_0) (.int .i64 ((qc l0_2 x8_1).f0))).trans hx435_0; replace hx435_1 := (cell_far (p := ⟨gb434, 0, none⟩) (by first | (rw [add_block]; exact hn435_0) | (show (Addr.add _ _).block ≠ _; rw [add_block]; exact hn435_0) | exact hn435_0) (.int .i64 ((qc l0_2 x8_1).f0))).trans hx435_1; replace hx435_2 := (cell_far (p := ⟨gb434, 0, none⟩) (by first | (rw [add_block]; exact hn435_0) | (show (Addr.add _ _).block ≠ _; rw [add_block]; exact hn435_0) | exact hn435_0) (.int .i64 ((qc l0_2 x8_1).f0))).trans hx435_2; replace hx435_0 := (cell_far (p := ⟨gb434, 1, none⟩) (by first | (rw [add_block]; exact hn435_1) | (show (Addr.add _ _).block ≠ _; rw [add_block]; exact hn435_1) | exact hn435_1) (.int .i64 ((qc l0_2 x8_1).f1))).trans hx435_0; replace hx435_1 := (cell_far (p := ⟨gb434, 1, none⟩) (by first | (rw [add_block]; exact hn435_1) | (show (Addr.add _ _).block ≠ _; rw [add_block]; exact hn435_1) | exact hn435_1) (.int .i64 ((qc l0_2 x8_1).f1))).trans hx435_1; replace hx435_2 := (cell_far (p := ⟨gb434, 1, none⟩) (by first | (rw [add_block]; exact hn435_1) | (show (Addr.add _ _).block ≠ _; rw [add_block]; exact hn435_1) | exact hn435_1) (.int .i64 ((qc l0_2 x8_1).f1))).trans hx435_2; replace hx435_0 := (cell_far (p := ⟨gb434, 2, none⟩) (by first | (rw [add_block]; exact hn435_2) | (show (Addr.add _ _).block ≠ _; rw [add_block]; exact hn435_2) | exact hn435_2) (.int .i64 ((qc l0_2 x8_1).f2))).trans hx435_0; replace hx435_1 := (cell_far (p := ⟨gb434, 2, none⟩) (by first | (rw [add_block]; exact hn435_2) | (show (Addr.add _ _).block ≠ _; rw [add_block]; exact hn435_2) | exact hn435_2) (.int .i64 ((qc l0_2 x8_1).f2))).trans hx435_1; replace hx435_2 := (cell_far (p := ⟨gb434, 2, none⟩) (by first | (rw [add_block]; exact hn435_2) | (show (Addr.add _ _).block ≠ _; rw [add_block]; exact hn435_2) | exact hn435_2) (.int .i64 ((qc l0_2 x8_1).f2))).trans hx435_2; (try have hy435_0 := fun (n_ : Nat) => (show (((((w21.drewN n_).setCell ⟨gb434, 0, none⟩ (.int .i64 ((qc l0_2 x8_1).f0))).setCell ⟨gb434, 1, none⟩ (.int .i64 ((qc l0_2 x8_1).f1))).setCell ⟨gb434, 2, none⟩ (.int .i64 ((qc l0_2 x8_1).f2)))).cell? _ = some _ from hx435_0)); (try have hy435_1 := fun (n_ : Nat) => (show (((((w21.drewN n_).setCell ⟨gb434, 0, none⟩ (.int .i64 ((qc l0_2 x8_1).f0))).setCell ⟨gb434, 1, none⟩ (.int .i64 ((qc l0_2 x8_1).f1))).setCell ⟨gb434, 2, none⟩ (.int .i64 ((qc l0_2 x8_1).f2)))).cell? _ = some _ from hx435_1)); (try have hy435_2 := fun (n_ : Nat) => (show (((((w21.drewN n_).setCell ⟨gb434, 0, none⟩ (.int .i64 ((qc l0_2 x8_1).f0))).setCell ⟨gb434, 1, none⟩ (.int .i64 ((qc l0_2 x8_1).f1))).setCell ⟨gb434, 2, none⟩ (.int .i64 ((qc l0_2 x8_1).f2)))).cell? _ = some _ from hx435_2)); clear hn435_0; clear hn435_1; clear hn435_2; replace p435 := eq_true p435; replace q435 := eq_true q435)); try go_wp2_with (first | ((with_reducible refine qY (N := 4) rfl ?_); refine qZ ?hg (N := 4) ?hd (cs := #[.int .i64 0, .int .i64 0, .int .i64 0]) (t := 55) ?hr ?_; (case hd => rfl); (case hg => rfl); (case hr => first | (go_simp; done) | (go_simp; rfl)); intro gb434 hg w21 hbox hb; have n0_ := qa.mk (qB (g := gb432) (o := .cells #[.int .i64 a0_0, .slice A0_1 l0_1.length c0_1, .slice (some ad433) l0_2.length c0_2] 25 (0, 0)) (by (with_reducible repeat (first | refine qi ?_ _ | refine ql ?_ | refine qh ?_ _)); exact BK432.out) hb); have n1_ := qa.mk (qD (by repeat (first | (with_reducible first | exact HB.out | apply qg | apply qb | apply qf | refine qd ?_ GE432.out) | exact HB.out)) hb); have n2_ := qa.mk (hbox); have n3_ := qa.mk ((by rw [hg]; exact (qA (by repeat (first | (with_reducible first | exact HB.out | apply qg | apply qb | apply qf | refine qd ?_ GE432.out) | exact HB.out))) : w.heap.size ≤ gb434)); have n4_ := qa.mk ((by rw [hg]; exact (qA (by repeat (first | (with_reducible first | exact HB.out | apply qg | apply qb | apply qf | refine qd ?_ GE432.out) | exact HB.out))) : w.heap.size ≤ gb434)); have n5_ := qa.mk ((by rw [hg]; exact Nat.ne_of_lt (vz (g := gb432) (o := .cells #[.int .i64 a0_0, .slice A0_1 l0_1.length c0_1, .slice (some ad433) l0_2.length c0_2] 25 (0, 0)) (by (with_reducible repeat (first | refine qi ?_ _ | refine ql ?_ | refine qh ?_ _)); exact BK432.out)) : gb432 ≠ gb434)); have n6_ := qa.mk ((by rw [hg]; exact Nat.ne_of_gt (vz (g := gb432) (o := .cells #[.int .i64 a0_0, .slice A0_1 l0_1.length c0_1, .slice (some ad433) l0_2.length c0_2] 25 (0, 0)) (by (with_reducible repeat (first | refine qi ?_ _ | refine ql ?_ | refine qh ?_ _)); exact BK432.out)) : gb434 ≠ gb432)); clear BK432; clear HB; have BK432 := n0_; have HB := n1_; have BK434 := n2_; have GW434 := n3_; have GE434 := n4_; have NB432_434 := n5_; have NB434_432 := n6_; clear n0_ n1_ n2_ n3_ n4_ n5_ n6_; clear hb hbox hg; have hnb22 := NB434_432.out; have hnc22 := NB432_434.out; have hcz23_0 : w21.cell? ⟨gb434, 0, none⟩ = some (.int .i64 0) := (qj BK434.out 0).trans rfl; have hcz23_1 : w21.cell? ⟨gb434, 1, none⟩ = some (.int .i64 0) := (qj BK434.out 1).trans rfl; have hcz23_2 : w21.cell? ⟨gb434, 2, none⟩ = some (.int .i64 0) := (qj BK434.out 2).trans rfl; have hfz23_0 := qm BK434.out 0; have hfz23_1 := qm BK434.out 1; have hfz23_2 := qm BK434.out 2; have hcz24_0 : w21.cell? ⟨gb432, 0, none⟩ = some (.int .i64 a0_0) := (qj BK432.out 0).trans rfl; have hcz24_1 : w21.cell? ⟨gb432, 1, none⟩ = some (.slice A0_1 l0_1.length c0_1) := (qj BK432.out 1).trans rfl; have hcz24_2 : w21.cell? ⟨gb432, 2, none⟩ = some (.slice (some ad433) l0_2.length c0_2) := (qj BK432.out 2).trans rfl; have hfz24_0 := qm BK432.out 0; have hfz24_1 := qm BK432.out 1; have hfz24_2 := qm BK432.out 2; have p435 : 0 ≤ ((ji8) : Int) := of_decide_eq_true (by first | (with_reducible assumption) | assumption); have q435 : (ji8) < (l0_2.length : Int) := of_decide_eq_true (by first | (with_reducible assumption) | assumption); obtain ⟨ad435, e435, hx435_0, hx435_1, hx435_2⟩ := vU HR0_2.out (ji8) p435 q435; obtain rfl : ad433 = ad435 := (by injection e435); have hn435_0 : ad433.block ≠ gb434 := Nat.ne_of_lt (Nat.lt_of_lt_of_le (by have := World.block_lt_of_cell? _ _ hx435_0; first | rwa [add_block] at this | exact this) GW434.out); have hn435_1 : ad433.block ≠ gb434 := Nat.ne_of_lt (Nat.lt_of_lt_of_le (by have := World.block_lt_of_cell? _ _ hx435_0; first | rwa [add_block] at this | exact this) GW434.out); have hn435_2 : ad433.block ≠ gb434 := Nat.ne_of_lt (Nat.lt_of_lt_of_le (by have := World.block_lt_of_cell? _ _ hx435_0; first | rwa [add_block] at this | exact this) GW434.out); replace hx435_0 := (HB.out.cell (World.block_lt_of_cell? w _ hx435_0)).trans hx435_0; replace hx435_1 := (HB.out.cell (World.block_lt_of_cell? w _ hx435_1)).trans hx435_1; replace hx435_2 := (HB.out.cell (World.block_lt_of_cell? w _ hx435_2)).trans hx435_2; replace hx435_0 := (cell_far (p := ⟨gb434, 0, none⟩) (by first | (rw [add_block]; exact hn435_0) | (show (Addr.add _ _).block ≠ _; rw [add_block]; exact hn435_0) | exact hn435_0) (.int .i64 ((qc l0_2 x8_1).f0))).trans hx435_0; replace hx435_1 := (cell_far (p := ⟨gb434, 0, none⟩) (by first | (rw [add_block]; exact hn435_0) | (show (Addr.add _ _).block ≠ _; rw [add_block]; exact hn435_0) | exact hn435_0) (.int .i64 ((qc l0_2 x8_1).f0))).trans hx435_1; replace hx435_2 := (cell_far (p := ⟨gb434, 0, none⟩) (by first | (rw [add_block]; exact hn435_0) | (show (Addr.add _ _).block ≠ _; rw [add_block]; exact hn435_0) | exact hn435_0) (.int .i64 ((qc l0_2 x8_1).f0))).trans hx435_2; replace hx435_0 := (cell_far (p := ⟨gb434, 1, none⟩) (by first | (rw [add_block]; exact hn435_1) | (show (Addr.add _ _).block ≠ _; rw [add_block]; exact hn435_1) | exact hn435_1) (.int .i64 ((qc l0_2 x8_1).f1))).trans hx435_0; replace hx435_1 := (cell_far (p := ⟨gb434, 1, none⟩) (by first | (rw [add_block]; exact hn435_1) | (show (Addr.add _ _).block ≠ _; rw [add_block]; exact hn435_1) | exact hn435_1) (.int .i64 ((qc l0_2 x8_1).f1))).trans hx435_1; replace hx435_2 := (cell_far (p := ⟨gb434, 1, none⟩) (by first | (rw [add_block]; exact hn435_1) | (show (Addr.add _ _).block ≠ _; rw [add_block]; exact hn435_1) | exact hn435_1) (.int .i64 ((qc l0_2 x8_1).f1))).trans hx435_2; replace hx435_0 := (cell_far (p := ⟨gb434, 2, none⟩) (by first | (rw [add_block]; exact hn435_2) | (show (Addr.add _ _).block ≠ _; rw [add_block]; exact hn435_2) | exact hn435_2) (.int .i64 ((qc l0_2 x8_1).f2))).trans hx435_0; replace hx435_1 := (cell_far (p := ⟨gb434, 2, none⟩) (by first | (rw [add_block]; exact hn435_2) | (show (Addr.add _ _).block ≠ _; rw [add_block]; exact hn435_2) | exact hn435_2) (.int .i64 ((qc l0_2 x8_1).f2))).trans hx435_1; replace hx435_2 := (cell_far (p := ⟨gb434, 2, none⟩) (by first | (rw [add_block]; exact hn435_2) | (show (Addr.add _ _).block ≠ _; rw [add_block]; exact hn435_2) | exact hn435_2) (.int .i64 ((qc l0_2 x8_1).f2))).trans hx435_2; (try have hy435_0 := fun (n_ : Nat) => (show (((((w21.drewN n_).setCell ⟨gb434, 0, none⟩ (.int .i64 ((qc l0_2 x8_1).f0))).setCell ⟨gb434, 1, none⟩ (.int .i64 ((qc l0_2 x8_1).f1))).setCell ⟨gb434, 2, none⟩ (.int .i64 ((qc l0_2 x8_1).f2)))).cell? _ = some _ from hx435_0)); (try have hy435_1 := fun (n_ : Nat) => (show (((((w21.drewN n_).setCell ⟨gb434, 0, none⟩ (.int .i64 ((qc l0_2 x8_1).f0))).setCell ⟨gb434, 1, none⟩ (.int .i64 ((qc l0_2 x8_1).f1))).setCell ⟨gb434, 2, none⟩ (.int .i64 ((qc l0_2 x8_1).f2)))).cell? _ = some _ from hx435_1)); (try have hy435_2 := fun (n_ : Nat) => (show (((((w21.drewN n_).setCell ⟨gb434, 0, none⟩ (.int .i64 ((qc l0_2 x8_1).f0))).setCell ⟨gb434, 1, none⟩ (.int .i64 ((qc l0_2 x8_1).f1))).setCell ⟨gb434, 2, none⟩ (.int .i64 ((qc l0_2 x8_1).f2)))).cell? _ = some _ from hx435_2)); clear hn435_0; clear hn435_1; clear hn435_2; replace p435 := eq_true p435; replace q435 := eq_true q435)))
          go_roundg k1
          case measure => have := HK1.out; omega
          case rel => exact ⟨(wrap64 (x8_1 + 1)), (by first | rfl | (simp; done) | (simp [*]; done)), H', ⟨by have := HK1.out; omega⟩, ⟨by (with_reducible repeat (first | refine qi ?_ _ | refine ql ?_ | refine qh ?_ _)); refine vG ?_ NB432_434.out _; (with_reducible repeat (first | refine qi ?_ _ | refine ql ?_ | refine qh ?_ _)); refine vG ?_ NB432_434.out _; (with_reducible repeat (first | refine qi ?_ _ | refine ql ?_ | refine qh ?_ _)); refine vG ?_ NB432_434.out _; (with_reducible repeat (first | refine qi ?_ _ | refine ql ?_ | refine qh ?_ _)); exact BK432.out⟩, ⟨by repeat (first | (with_reducible first | exact HB.out | apply qg | apply qb | apply qf | refine qd ?_ GE432.out | refine qd ?_ GE434.out) | exact HB.out)⟩⟩
        ·rw [if_neg c10] at H
         exact absurd H (by simp)
       ·rw [if_neg c9] at H
        exact absurd H (by simp)
      ·rw [if_neg c7] at H
       have c7b0 : decide (0 < x8_1) = false := decide_eq_false c7
       clear c7
       have H' := qa.mk H
       clear H
       have p433 : 0 ≤ (x8_1 : Int) := of_decide_eq_true (by first | (with_reducible assumption) | assumption)
       have q433 : x8_1 < (l0_2.length : Int) := of_decide_eq_true (by first | (with_reducible assumption) | assumption)
       obtain ⟨ad433, e433, hx433_0, hx433_1, hx433_2⟩ := vU HR0_2.out x8_1 p433 q433
       cases e433
       replace hx433_0 := (HB.out.cell (World.block_lt_of_cell? w _ hx433_0)).trans hx433_0
       replace hx433_1 := (HB.out.cell (World.block_lt_of_cell? w _ hx433_1)).trans hx433_1
       replace hx433_2 := (HB.out.cell (World.block_lt_of_cell? w _ hx433_2)).trans hx433_2
       replace p433 := eq_true p433
       replace q433 := eq_true q433
       go_wp2_with (first | ((with_reducible refine qY (N := 4) rfl ?_); refine qZ ?hg (N := 4) ?hd (cs := #[.int .i64 0, .int .i64 0, .int .i64 0]) (t := 55) ?hr ?_; (case hd => rfl); (case hg => rfl); (case hr => first | (go_simp; done) | (go_simp; rfl)); intro gb434 hg w25 hbox hb; have n0_ := qa.mk (qB (g := gb432) (o := .cells #[.int .i64 a0_0, .slice A0_1 l0_1.length c0_1, .slice (some ad433) l0_2.length c0_2] 25 (0, 0)) (by (with_reducible repeat (first | refine qi ?_ _ | refine ql ?_ | refine qh ?_ _)); exact BK432.out) hb); have n1_ := qa.mk (qD (by repeat (first | (with_reducible first | exact HB.out | apply qg | apply qb | apply qf | refine qd ?_ GE432.out) | exact HB.out)) hb); have n2_ := qa.mk (hbox); have n3_ := qa.mk ((by rw [hg]; exact (qA (by repeat (first | (with_reducible first | exact HB.out | apply qg | apply qb | apply qf | refine qd ?_ GE432.out) | exact HB.out))) : w.heap.size ≤ gb434)); have n4_ := qa.mk ((by rw [hg]; exact (qA (by repeat (first | (with_reducible first | exact HB.out | apply qg | apply qb | apply qf | refine qd ?_ GE432.out) | exact HB.out))) : w.heap.size ≤ gb434)); have n5_ := qa.mk ((by rw [hg]; exact Nat.ne_of_lt (vz (g := gb432) (o := .cells #[.int .i64 a0_0, .slice A0_1 l0_1.length c0_1, .slice (some ad433) l0_2.length c0_2] 25 (0, 0)) (by (with_reducible repeat (first | refine qi ?_ _ | refine ql ?_ | refine qh ?_ _)); exact BK432.out)) : gb432 ≠ gb434)); have n6_ := qa.mk ((by rw [hg]; exact Nat.ne_of_gt (vz (g := gb432) (o := .cells #[.int .i64 a0_0, .slice A0_1 l0_1.length c0_1, .slice (some ad433) l0_2.length c0_2] 25 (0, 0)) (by (with_reducible repeat (first | refine qi ?_ _ | refine ql ?_ | refine qh ?_ _)); exact BK432.out)) : gb434 ≠ gb432)); clear BK432; clear HB; have BK432 := n0_; have HB := n1_; have BK434 := n2_; have GW434 := n3_; have GE434 := n4_; have NB432_434 := n5_; have NB434_432 := n6_; clear n0_ n1_ n2_ n3_ n4_ n5_ n6_; clear hb hbox hg; have hnb26 := NB434_432.out; have hnc26 := NB432_434.out; have hcz27_0 : w25.cell? ⟨gb434, 0, none⟩ = some (.int .i64 0) := (qj BK434.out 0).trans rfl; have hcz27_1 : w25.cell? ⟨gb434, 1, none⟩ = some (.int .i64 0) := (qj BK434.out 1).trans rfl; have hcz27_2 : w25.cell? ⟨gb434, 2, none⟩ = some (.int .i64 0) := (qj BK434.out 2).trans rfl; have hfz27_0 := qm BK434.out 0; have hfz27_1 := qm BK434.out 1; have hfz27_2 := qm BK434.out 2))
       repeat (go_quiet (first | ((with_reducible refine qY (N := 4) rfl ?_); refine qZ ?hg (N := 4) ?hd (cs := #[.int .i64 0, .int .i64 0, .int .i64 0]) (t := 55) ?hr ?_; (case hd => rfl); (case hg => rfl); (case hr => first | (go_simp; done) | (go_simp; rfl)); intro gb434 hg w25 hbox hb; have n0_ := qa.mk (qB (g := gb432) (o := .cells #[.int .i64 a0_0, .slice A0_1 l0_1.length c0_1, .slice (some ad433) l0_2.length c0_2] 25 (0, 0)) (by (with_reducible repeat (first | refine qi ?_ _ | refine ql ?_ | refine qh ?_ _)); exact BK432.out) hb); have n1_ := qa.mk (qD (by repeat (first | (with_reducible first | exact HB.out | apply qg | apply qb | apply qf | refine qd ?_ GE432.out) | exact HB.out)) hb); have n2_ := qa.mk (hbox); have n3_ := qa.mk ((by rw [hg]; exact (qA (by repeat (first | (with_reducible first | exact HB.out | apply qg | apply qb | apply qf | refine qd ?_ GE432.out) | exact HB.out))) : w.heap.size ≤ gb434)); have n4_ := qa.mk ((by rw [hg]; exact (qA (by repeat (first | (with_reducible first | exact HB.out | apply qg | apply qb | apply qf | refine qd ?_ GE432.out) | exact HB.out))) : w.heap.size ≤ gb434)); have n5_ := qa.mk ((by rw [hg]; exact Nat.ne_of_lt (vz (g := gb432) (o := .cells #[.int .i64 a0_0, .slice A0_1 l0_1.length c0_1, .slice (some ad433) l0_2.length c0_2] 25 (0, 0)) (by (with_reducible repeat (first | refine qi ?_ _ | refine ql ?_ | refine qh ?_ _)); exact BK432.out)) : gb432 ≠ gb434)); have n6_ := qa.mk ((by rw [hg]; exact Nat.ne_of_gt (vz (g := gb432) (o := .cells #[.int .i64 a0_0, .slice A0_1 l0_1.length c0_1, .slice (some ad433) l0_2.length c0_2] 25 (0, 0)) (by (with_reducible repeat (first | refine qi ?_ _ | refine ql ?_ | refine qh ?_ _)); exact BK432.out)) : gb434 ≠ gb432)); clear BK432; clear HB; have BK432 := n0_; have HB := n1_; have BK434 := n2_; have GW434 := n3_; have GE434 := n4_; have NB432_434 := n5_; have NB434_432 := n6_; clear n0_ n1_ n2_ n3_ n4_ n5_ n6_; clear hb hbox hg; have hnb26 := NB434_432.out; have hnc26 := NB432_434.out; have hcz27_0 : w25.cell? ⟨gb434, 0, none⟩ = some (.int .i64 0) := (qj BK434.out 0).trans rfl; have hcz27_1 : w25.cell? ⟨gb434, 1, none⟩ = some (.int .i64 0) := (qj BK434.out 1).trans rfl; have hcz27_2 : w25.cell? ⟨gb434, 2, none⟩ = some (.int .i64 0) := (qj BK434.out 2).trans rfl; have hfz27_0 := qm BK434.out 0; have hfz27_1 := qm BK434.out 1; have hfz27_2 := qm BK434.out 2)); try go_wp2_with (first | ((with_reducible refine qY (N := 4) rfl ?_); refine qZ ?hg (N := 4) ?hd (cs := #[.int .i64 0, .int .i64 0, .int .i64 0]) (t := 55) ?hr ?_; (case hd => rfl); (case hg => rfl); (case hr => first | (go_simp; done) | (go_simp; rfl)); intro gb434 hg w25 hbox hb; have n0_ := qa.mk (qB (g := gb432) (o := .cells #[.int .i64 a0_0, .slice A0_1 l0_1.length c0_1, .slice (some ad433) l0_2.length c0_2] 25 (0, 0)) (by (with_reducible repeat (first | refine qi ?_ _ | refine ql ?_ | refine qh ?_ _)); exact BK432.out) hb); have n1_ := qa.mk (qD (by repeat (first | (with_reducible first | exact HB.out | apply qg | apply qb | apply qf | refine qd ?_ GE432.out) | exact HB.out)) hb); have n2_ := qa.mk (hbox); have n3_ := qa.mk ((by rw [hg]; exact (qA (by repeat (first | (with_reducible first | exact HB.out | apply qg | apply qb | apply qf | refine qd ?_ GE432.out) | exact HB.out))) : w.heap.size ≤ gb434)); have n4_ := qa.mk ((by rw [hg]; exact (qA (by repeat (first | (with_reducible first | exact HB.out | apply qg | apply qb | apply qf | refine qd ?_ GE432.out) | exact HB.out))) : w.heap.size ≤ gb434)); have n5_ := qa.mk ((by rw [hg]; exact Nat.ne_of_lt (vz (g := gb432) (o := .cells #[.int .i64 a0_0, .slice A0_1 l0_1.length c0_1, .slice (some ad433) l0_2.length c0_2] 25 (0, 0)) (by (with_reducible repeat (first | refine qi ?_ _ | refine ql ?_ | refine qh ?_ _)); exact BK432.out)) : gb432 ≠ gb434)); have n6_ := qa.mk ((by rw [hg]; exact Nat.ne_of_gt (vz (g := gb432) (o := .cells #[.int .i64 a0_0, .slice A0_1 l0_1.length c0_1, .slice (some ad433) l0_2.length c0_2] 25 (0, 0)) (by (with_reducible repeat (first | refine qi ?_ _ | refine ql ?_ | refine qh ?_ _)); exact BK432.out)) : gb434 ≠ gb432)); clear BK432; clear HB; have BK432 := n0_; have HB := n1_; have BK434 := n2_; have GW434 := n3_; have GE434 := n4_; have NB432_434 := n5_; have NB434_432 := n6_; clear n0_ n1_ n2_ n3_ n4_ n5_ n6_; clear hb hbox hg; have hnb26 := NB434_432.out; have hnc26 := NB432_434.out; have hcz27_0 : w25.cell? ⟨gb434, 0, none⟩ = some (.int .i64 0) := (qj BK434.out 0).trans rfl; have hcz27_1 : w25.cell? ⟨gb434, 1, none⟩ = some (.int .i64 0) := (qj BK434.out 1).trans rfl; have hcz27_2 : w25.cell? ⟨gb434, 2, none⟩ = some (.int .i64 0) := (qj BK434.out 2).trans rfl; have hfz27_0 := qm BK434.out 0; have hfz27_1 := qm BK434.out 1; have hfz27_2 := qm BK434.out 2)))
       go_roundg k1
       case measure => have := HK1.out; omega
       case rel => exact ⟨(wrap64 (x8_1 + 1)), (by first | rfl | (simp; done) | (simp [*]; done)), H', ⟨by have := HK1.out; omega⟩, ⟨by (with_reducible repeat (first | refine qi ?_ _ | refine ql ?_ | refine qh ?_ _)); refine vG ?_ NB432_434.out _; (with_reducible repeat (first | refine qi ?_ _ | refine ql ?_ | refine qh ?_ _)); refine vG ?_ NB432_434.out _; (with_reducible repeat (first | refine qi ?_ _ | refine ql ?_ | refine qh ?_ _)); refine vG ?_ NB432_434.out _; (with_reducible repeat (first | refine qi ?_ _ | refine ql ?_ | refine qh ?_ _)); exact BK432.out⟩, ⟨by repeat (first | (with_reducible first | exact HB.out | apply qg | apply qb | apply qf | refine qd ?_ GE432.out | refine qd ?_ GE434.out) | exact HB.out)⟩⟩
     ·rw [if_neg c6] at H
      exact absurd H (by simp)
    ·rw [if_neg c5] at H
     exact absurd H (by simp)
   ·rw [if_neg c4] at H
    have c4b0 : decide (x8_1 < (l0_2.length : Int)) = false := decide_eq_false c4
    clear c4
    replace H := Option.bind_eq_some_iff.mp H
    obtain ⟨t437, A280, H⟩ := H
    replace H : (some (t437 == 0)) = some r := H
    have A28 := qa.mk A280
    clear A280
    obtain rfl := Option.some.inj H
    have hcz29_0 : wr.cell? ⟨gb432, 0, none⟩ = some (.int .i64 a0_0) := (qj BK432.out 0).trans rfl
    have hcz29_1 : wr.cell? ⟨gb432, 1, none⟩ = some (.slice A0_1 l0_1.length c0_1) := (qj BK432.out 1).trans rfl
    have hcz29_2 : wr.cell? ⟨gb432, 2, none⟩ = some (.slice A0_2 l0_2.length c0_2) := (qj BK432.out 2).trans rfl
    have hfz29_0 := qm BK432.out 0
    have hfz29_1 := qm BK432.out 1
    have hfz29_2 := qm BK432.out 2
    go_wp2_with (first | (go_at_call 67; (with_reducible refine (qK.calls k1 a0_0 _ _ l0_1 _ _ l0_2 t437 _ ?side1 ?side2 ?side3 ?side4 A28.out).mono ?_); (case side1 => repeat (first | exact (Kd.qU HR0_1.out HB.out) | (with_reducible refine Kd.C_alloc ?_ _) | (with_reducible refine Kd.C_drewN ?_ _) | (with_reducible refine Kd.qQ ?_))); (case side2 => exact HC0_1.out); (case side3 => repeat (first | exact (Kd.qU HR0_2.out HB.out) | (with_reducible refine Kd.C_alloc ?_ _) | (with_reducible refine Kd.C_drewN ?_ _) | (with_reducible refine Kd.qQ ?_))); (case side4 => exact HC0_2.out); rintro e w30 ⟨rfl, hb⟩; have n0_ := qa.mk (qB (g := gb432) (o := .cells #[.int .i64 a0_0, .slice A0_1 l0_1.length c0_1, .slice A0_2 l0_2.length c0_2] 25 (0, 0)) (by (with_reducible repeat (first | refine qi ?_ _ | refine ql ?_ | refine qh ?_ _)); exact BK432.out) hb); have n1_ := qa.mk (qD (by repeat (first | (with_reducible first | exact HB.out | apply qg | apply qb | apply qf | refine qd ?_ GE432.out) | exact HB.out)) hb); clear BK432; clear HB; have BK432 := n0_; have HB := n1_; clear n0_ n1_; (try clear hb); (try clear hb2); (try clear hk); (try clear hi)))
    repeat (go_quiet (first | (go_at_call 67; (with_reducible refine (qK.calls k1 a0_0 _ _ l0_1 _ _ l0_2 t437 _ ?side1 ?side2 ?side3 ?side4 A28.out).mono ?_); (case side1 => repeat (first | exact (Kd.qU HR0_1.out HB.out) | (with_reducible refine Kd.C_alloc ?_ _) | (with_reducible refine Kd.C_drewN ?_ _) | (with_reducible refine Kd.qQ ?_))); (case side2 => exact HC0_1.out); (case side3 => repeat (first | exact (Kd.qU HR0_2.out HB.out) | (with_reducible refine Kd.C_alloc ?_ _) | (with_reducible refine Kd.C_drewN ?_ _) | (with_reducible refine Kd.qQ ?_))); (case side4 => exact HC0_2.out); rintro e w30 ⟨rfl, hb⟩; have n0_ := qa.mk (qB (g := gb432) (o := .cells #[.int .i64 a0_0, .slice A0_1 l0_1.length c0_1, .slice A0_2 l0_2.length c0_2] 25 (0, 0)) (by (with_reducible repeat (first | refine qi ?_ _ | refine ql ?_ | refine qh ?_ _)); exact BK432.out) hb); have n1_ := qa.mk (qD (by repeat (first | (with_reducible first | exact HB.out | apply qg | apply qb | apply qf | refine qd ?_ GE432.out) | exact HB.out)) hb); clear BK432; clear HB; have BK432 := n0_; have HB := n1_; clear n0_ n1_; (try clear hb); (try clear hb2); (try clear hk); (try clear hi))); try go_wp2_with (first | (go_at_call 67; (with_reducible refine (qK.calls k1 a0_0 _ _ l0_1 _ _ l0_2 t437 _ ?side1 ?side2 ?side3 ?side4 A28.out).mono ?_); (case side1 => repeat (first | exact (Kd.qU HR0_1.out HB.out) | (with_reducible refine Kd.C_alloc ?_ _) | (with_reducible refine Kd.C_drewN ?_ _) | (with_reducible refine Kd.qQ ?_))); (case side2 => exact HC0_1.out); (case side3 => repeat (first | exact (Kd.qU HR0_2.out HB.out) | (with_reducible refine Kd.C_alloc ?_ _) | (with_reducible refine Kd.C_drewN ?_ _) | (with_reducible refine Kd.qQ ?_))); (case side4 => exact HC0_2.out); rintro e w30 ⟨rfl, hb⟩; have n0_ := qa.mk (qB (g := gb432) (o := .cells #[.int .i64 a0_0, .slice A0_1 l0_1.length c0_1, .slice A0_2 l0_2.length c0_2] 25 (0, 0)) (by (with_reducible repeat (first | refine qi ?_ _ | refine ql ?_ | refine qh ?_ _)); exact BK432.out) hb); have n1_ := qa.mk (qD (by repeat (first | (with_reducible first | exact HB.out | apply qg | apply qb | apply qf | refine qd ?_ GE432.out) | exact HB.out)) hb); clear BK432; clear HB; have BK432 := n0_; have HB := n1_; clear n0_ n1_; (try clear hb); (try clear hb2); (try clear hk); (try clear hi))))
    go_ret
    exact ⟨by first | rfl | (simp [errW_none, errW_some] <;> rfl) | (simp [*, errW_none, errW_some] <;> rfl), by repeat (first | (with_reducible first | exact HB.out | apply qg | apply qb | apply qf | refine qd ?_ GE432.out) | exact HB.out)⟩
end Go.Proofs.Ytcjbghmhdefdiaa.S
