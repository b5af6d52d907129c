/- Part 4 of a proof that a law of the program answers true for every input. -/
import Derived.Test.YtcjbghmhdefdiaaD2
import Derived.Test.YtcjbghmhdefdiaaD3
set_option linter.unusedSimpArgs false
set_option linter.unusedVariables false
namespace Go.Proofs.Ytcjbghmhdefdiaa.S
abbrev tb4_0 : Array Bool := #[false, false, false, false, false, false, false, false, false, false, false]
abbrev tb4_1 : Array Bool := #[true, false, false, false, false, false, false, false, false, false, false]
abbrev tb4_2 : Array Bool := #[true, true, false, false, false, false, false, false, false, false, false]
abbrev tb4_3 : Array Bool := #[true, true, true, false, false, false, false, false, false, false, false]
abbrev tb4_4 : Array Bool := #[true, true, true, false, true, false, false, false, false, false, false]
abbrev tb4_5 : Array Bool := #[true, true, true, false, true, true, false, false, false, false, false]
abbrev tb4_6 : Array Bool := #[true, true, true, false, true, true, true, false, false, false, false]
abbrev tb4_7 : Array Bool := #[true, true, true, false, true, true, true, true, false, false, false]
abbrev tb4_8 : Array Bool := #[true, true, true, true, true, true, true, true, false, false, false]
abbrev tb4_9 : Array Bool := #[true, true, true, true, true, true, true, true, true, false, false]
abbrev tb4_10 : Array Bool := #[true, true, true, true, true, true, true, true, true, true, false]
abbrev tb4_11 : Array Bool := #[true, true, true, true, true, true, true, true, true, true, true]
abbrev tb4_12 : Array Bool := #[true, true, true, true, false, false, false, false, false, false, false]
abbrev tb4_13 : Array Bool := #[true, true, true, true, true, false, false, false, false, false, false]
abbrev tb4_14 : Array Bool := #[true, true, true, true, true, true, false, false, false, false, false]
abbrev tb4_15 : Array Bool := #[true, true, true, true, true, true, true, false, false, false, false]
abbrev tb4_16 : Array Bool := #[false, true, false, false, false, false, false, false, false, false, false]
abbrev tb4_17 : Array Bool := #[false, true, true, false, false, false, false, false, false, false, false]
abbrev tb4_18 : Array Bool := #[false, true, true, true, false, false, false, false, false, false, false]
abbrev tb4_19 : Array Bool := #[false, true, true, true, false, false, false, false, true, false, false]
abbrev tb4_20 : Array Bool := #[false, true, true, true, false, true, false, false, true, false, false]
abbrev tb4_21 : Array Bool := #[true, true, true, true, true, true, true, false, true, false, false]
abbrev tb4_22 : Array Bool := #[true, true, true, true, false, true, false, false, true, false, false]
abbrev tb4_23 : Array Bool := #[false, true, true, true, false, true, true, false, true, false, false]
abbrev tb4_24 : Array Bool := #[true, true, true, true, true, true, false, false, true, false, false]
abbrev tb4_25 : Array Bool := #[true, true, true, true, false, true, true, false, true, false, false]
end Go.Proofs.Ytcjbghmhdefdiaa.S
namespace Go.Proofs.Ytcjbghmhdefdiaa.S
open Go.RowKit Go.Proofs.YtcjbghmhdefdiaaW.PrintWords Go.Proofs.YtcjbghmhdefdiaaW.PrintLast Go.Proofs.YtcjbghmhdefdiaaW.PrintMore
attribute [local go_sem] vW vZ zi zk vL vK vY vV
set_option linter.unusedVariables false
set_option linter.unusedSimpArgs false
attribute [local go_sem high] eqA55
mutual
def qp.l0 : Nat → List (S55) → Int → Int → List ByteArray → List (S55) → Option (Int × List ByteArray × (List (S55)))
 | 0, _, _, _, _, _ => none
 | k + 1, x3, x4, x684000, x684001, x684002 => if x4 < (x684002.length : Int) then (if 0 ≤ x4 then (qp.l1 k x3 x4 (x3.length : Int) x684000 x684001 x684002 ((qc x684002 x4).f0) ((qc x684002 x4).f1) ((qc x684002 x4).f2)) else (none)) else (some (x684000, x684001, x3))
def qp.l1 : Nat → List (S55) → Int → Int → Int → List ByteArray → List (S55) → Int → Int → Int → Option (Int × List ByteArray × (List (S55)))
 | 0, _, _, _, _, _, _, _, _, _ => none
 | k + 1, x3, x4, x6, x684000, x684001, x684002, x690000, x690001, x690002 => if x6 > 0 then (if 0 ≤ (wrap64 (x6 - 1)) then (if (wrap64 (x6 - 1)) < (x3.length : Int) then ((vw.f x690000 x690001 x690002 ((qc x3 (wrap64 (x6 - 1))).f0) ((qc x3 (wrap64 (x6 - 1))).f1) ((qc x3 (wrap64 (x6 - 1))).f2)).bind fun t691 => (if t691 = true then (qp.l1 k x3 x4 (wrap64 (x6 - 1)) x684000 x684001 x684002 x690000 x690001 x690002) else (if (((qc x3 (wrap64 (x6 - 1))).f0) == x690000 && (((qc x3 (wrap64 (x6 - 1))).f1) == x690001 && (((qc x3 (wrap64 (x6 - 1))).f2) == x690002))) = true then (qp.l0 k x3 (wrap64 (x4 + 1)) x684000 x684001 x684002) else ((some (([] : List (S55)) : List (S55))).bind fun y693 => (if 0 ≤ x6 then (if x6 ≤ (x3.length : Int) then ((some (x3.drop (x6 : Int).toNat : List (S55))).bind fun y696 => (if y693.length + y696.length < 5864062014805 then ((some (y693 ++ y696 : List (S55))).bind fun y700 => ((some (([] : List (S55)) : List (S55))).bind fun y703 => ((some (x3.take (x6 : Int).toNat : List (S55))).bind fun y706 => (if y703.length + y706.length < 5864062014805 then ((some (y703 ++ y706 : List (S55))).bind fun y710 => ((some (([(⟨x690000, x690001, x690002⟩ : S55)] : List (S55)) : List (S55))).bind fun y713 => (if y710.length + y713.length < 5864062014805 then ((some (y710 ++ y713 : List (S55))).bind fun y716 => (if y716.length + y700.length < 5864062014805 then (qp.l0 k (y716 ++ y700) (wrap64 (x4 + 1)) x684000 x684001 x684002) else (none))) else (none)))) else (none))))) else (none))) else (none)) else (none)))))) else (none)) else (none)) else ((some (([] : List (S55)) : List (S55))).bind fun y722 => (if 0 ≤ x6 then (if x6 ≤ (x3.length : Int) then ((some (x3.drop (x6 : Int).toNat : List (S55))).bind fun y725 => (if y722.length + y725.length < 5864062014805 then ((some (y722 ++ y725 : List (S55))).bind fun y729 => ((some (([] : List (S55)) : List (S55))).bind fun y732 => ((some (x3.take (x6 : Int).toNat : List (S55))).bind fun y735 => (if y732.length + y735.length < 5864062014805 then ((some (y732 ++ y735 : List (S55))).bind fun y739 => ((some (([(⟨x690000, x690001, x690002⟩ : S55)] : List (S55)) : List (S55))).bind fun y742 => (if y739.length + y742.length < 5864062014805 then ((some (y739 ++ y742 : List (S55))).bind fun y745 => (if y745.length + y729.length < 5864062014805 then (qp.l0 k (y745 ++ y729) (wrap64 (x4 + 1)) x684000 x684001 x684002) else (none))) else (none)))) else (none))))) else (none))) else (none)) else (none)))
end
def qp.f (k : Nat) (a0_0 : Int) (l0_1 : List ByteArray) (l0_2 : List (S55)) : Option (Int × List ByteArray × (List (S55))) := qp.l0 k (([] : List (S55))) 0 a0_0 l0_1 l0_2
def qp.T7 : Bool × List (List Nat × List Nat) := (true, [([], []), ([0], [0]), ([1], [1]), ([2], [2]), ([2], [2]), ([2], [2]), ([5, 2], [2, 5]), ([4, 6, 2], [2, 4, 6]), ([7, 2], [2, 7]), ([3, 8, 2, 2], [2, 3, 8]), ([2, 9], [2, 9])])
def qp.B7 : List Nat := [0, 1, 3, 7, 7, 7, 39, 119, 247, 511, 1023]
theorem qp.tab7 : rtab .any (opsOf Try.f66 7) = qp.T7 := by kernel_rfl
theorem qp.bits7 : ja qp.T7.2 qp.B7 = true := by kernel_rfl
def qp.T9 : Bool × List (List Nat × List Nat) := (true, [([], []), ([0], [0]), ([1], [1]), ([2], [2]), ([2], [2]), ([4, 2], [2, 4]), ([3, 5, 2], [2, 3, 5]), ([6, 2], [2, 6]), ([2], [2]), ([7, 8, 2], [2, 7, 8]), ([2, 9], [2, 9])])
def qp.B9 : List Nat := [0, 1, 3, 7, 7, 23, 63, 127, 7, 511, 1023]
theorem qp.tab9 : rtab .any (opsOf Try.f66 9) = qp.T9 := by kernel_rfl
theorem qp.bits9 : ja qp.T9.2 qp.B9 = true := by kernel_rfl
def qp.T11 : Bool × List (List Nat × List Nat) := (true, [([], []), ([], []), ([], []), ([1, 2], [1, 2]), ([0, 3], [0, 3]), ([], []), ([5], [5]), ([4, 6, 4], [4, 6]), ([], []), ([7, 8, 7], [7, 8]), ([9, 9, 0, 1, 2, 3, 4, 5, 6, 7, 8, 9], [1, 9])])
def qp.B11 : List Nat := [0, 0, 0, 6, 15, 0, 32, 127, 0, 511, 1023]
theorem qp.tab11 : rtab .any (opsOf Try.f66 11) = qp.T11 := by kernel_rfl
theorem qp.bits11 : ja qp.T11.2 qp.B11 = true := by kernel_rfl
set_option maxHeartbeats 8000000 in
set_option maxRecDepth 100000 in
theorem qp.calls (k : Nat) (a0_0 : Int) (P0_1_ : Nat → Prop) (A0_1 : Option Addr) (c0_1 : Nat) (l0_1 : List ByteArray) (A0_2 : Option Addr) (c0_2 : Nat) (l0_2 : List (S55)) (r1 : Int) (r2 : List ByteArray) (r3 : List (S55)) (w : World) (hs0_1 : Kd.V Kd.string 9 w w.heap.size (fun k_ => P0_1_ k_) (.slice A0_1 l0_1.length c0_1) l0_1) (hr0_2 : Kd.C k55 w A0_2 l0_2.length l0_2) (hc0_2 : l0_2.length ≤ c0_2) (h : qp.f k a0_0 l0_1 l0_2 = some (r1, r2, r3)) :
  Calls Try.prog 66 #[.agg #[.int .i64 a0_0, .slice A0_1 l0_1.length c0_1, .slice A0_2 l0_2.length c0_2]] w fun e w' => ∃ v1_ v2_ : Value, e = .returned (.agg #[.int .i64 r1, v1_, v2_]) ∧ Kd.V Kd.string 9 w' w.heap.size (fun k_ => (P0_1_ k_ ∨ w.heap.size ≤ k_) ∧ some k_ ≠ (v2_ : Value).ownBlock) v1_ r2 ∧ Kd.R k55 55 w' w.heap.size (fun k_ => (w.heap.size ≤ k_)) v2_ r3 ∧ Below w.heap.size w w' := by
 have hu25 := Try.underlying25
 have hu55 := Try.underlying55
 have HO0_1 := qa.mk (show Kd.V Kd.string 9 w w.heap.size (fun k_ => (P0_1_ k_ ∨ w.heap.size ≤ k_)) (.slice A0_1 l0_1.length c0_1) l0_1 from Kd.zg hs0_1 (fun k_ hk => .inl hk))
 have HR0_2 := qa.mk hr0_2
 have HC0_2 := qa.mk hc0_2
 clear hr0_2 hc0_2
 have HB := qa.mk (Below.refl w.heap.size w)
 have H : (qp.l0 k (([] : List (S55))) 0 a0_0 l0_1 l0_2) = some (r1, r2, r3) := h
 clear h
 obtain ⟨y685, hy685⟩ : ∃ y_ : List (S55), y_ = (([] : List (S55))) := ⟨_, rfl⟩
 replace H : (qp.l0 k y685 0 a0_0 l0_1 l0_2) = some (r1, r2, r3) := by first | (rw [hy685]; with_reducible exact H) | (have H2_ := (Option.bind_some _ _).symm.trans H; rw [hy685]; with_reducible exact H2_) | (have H2_ := (Option.bind_some _ _).symm.trans H; with_reducible exact H2_) | with_reducible exact H | (rw [hy685]; exact H) | exact H
 have Ny685 := qa.mk hy685
 clear hy685
 have H' := qa.mk H
 clear H
 go_enter Try.func66, Try.ntmps66
 go_wp2_with (first | ((with_reducible refine qY (N := 1) rfl ?_); refine qZ ?hg (N := 1) ?hd (cs := #[.int .i64 a0_0, .slice A0_1 l0_1.length c0_1, .slice A0_2 l0_2.length c0_2]) (t := 25) ?hr ?_; (case hd => rfl); (case hg => rfl); (case hr => first | (go_simp; done) | (go_simp; rfl)); intro gb683 hg w2 hbox hb; have n0_ := qa.mk (Kd.zf (Kd.jh (by (with_reducible repeat (first | apply Kd.V_alloc | apply Kd.V_drewN | apply Kd.vg)); exact HO0_1.out) gb683 (Nat.le_of_eq hg.symm)) hb); have n1_ := qa.mk (qD (by repeat (first | (with_reducible first | exact HB.out | apply qg | apply qb | apply qf) | exact HB.out)) hb); have n2_ := qa.mk (hbox); have n3_ := qa.mk ((by rw [hg]; exact (qA (by repeat (first | (with_reducible first | exact HB.out | apply qg | apply qb | apply qf) | exact HB.out))) : w.heap.size ≤ gb683)); have n4_ := qa.mk ((by rw [hg]; exact (qA (by repeat (first | (with_reducible first | exact HB.out | apply qg | apply qb | apply qf) | exact HB.out))) : w.heap.size ≤ gb683)); clear HO0_1; clear HB; have HO0_1 := n0_; have HB := n1_; have BK683 := n2_; have GW683 := n3_; have GE683 := n4_; clear n0_ n1_ n2_ n3_ n4_; clear hb hbox hg) | ((with_reducible refine qY (N := 2) rfl ?_); refine qZ ?hg (N := 2) ?hd (cs := #[.int .i64 0, .slice none 0 0, .slice none 0 0]) (t := 25) ?hr ?_; (case hd => rfl); (case hg => rfl); (case hr => first | (go_simp; done) | (go_simp; rfl)); intro gb684 hg w3 hbox hb; have n0_ := qa.mk (Kd.zf (Kd.jh (by (with_reducible repeat (first | apply Kd.V_alloc | apply Kd.V_drewN | apply Kd.vg)); exact HO0_1.out) gb684 (Nat.le_of_eq hg.symm)) hb); have n1_ := qa.mk (qB (g := gb683) (o := .cells #[.int .i64 a0_0, .slice A0_1 l0_1.length c0_1, .slice A0_2 l0_2.length c0_2] 25 (0, 0)) (by (with_reducible repeat (first | refine qi ?_ _ | refine ql ?_ | refine qh ?_ _)); exact BK683.out) hb); have n2_ := qa.mk (qD (by repeat (first | (with_reducible first | exact HB.out | apply qg | apply qb | apply qf | refine qd ?_ GE683.out) | exact HB.out)) hb); have n3_ := qa.mk (hbox); have n4_ := qa.mk ((by rw [hg]; exact (qA (by repeat (first | (with_reducible first | exact HB.out | apply qg | apply qb | apply qf | refine qd ?_ GE683.out) | exact HB.out))) : w.heap.size ≤ gb684)); have n5_ := qa.mk ((by rw [hg]; exact (qA (by repeat (first | (with_reducible first | exact HB.out | apply qg | apply qb | apply qf | refine qd ?_ GE683.out) | exact HB.out))) : w.heap.size ≤ gb684)); have n6_ := qa.mk ((by rw [hg]; exact Nat.ne_of_lt (vz (g := gb683) (o := .cells #[.int .i64 a0_0, .slice A0_1 l0_1.length c0_1, .slice A0_2 l0_2.length c0_2] 25 (0, 0)) (by (with_reducible repeat (first | refine qi ?_ _ | refine ql ?_ | refine qh ?_ _)); exact BK683.out)) : gb683 ≠ gb684)); have n7_ := qa.mk ((by rw [hg]; exact Nat.ne_of_gt (vz (g := gb683) (o := .cells #[.int .i64 a0_0, .slice A0_1 l0_1.length c0_1, .slice A0_2 l0_2.length c0_2] 25 (0, 0)) (by (with_reducible repeat (first | refine qi ?_ _ | refine ql ?_ | refine qh ?_ _)); exact BK683.out)) : gb684 ≠ gb683)); clear HO0_1; clear BK683; clear HB; have HO0_1 := n0_; have BK683 := n1_; have HB := n2_; have BK684 := n3_; have GW684 := n4_; have GE684 := n5_; have NB683_684 := n6_; have NB684_683 := n7_; clear n0_ n1_ n2_ n3_ n4_ n5_ n6_ n7_; clear hb hbox hg) | ((with_reducible refine qY (N := 8) rfl ?_); refine Kd.jS k55 _ 55 ?hg (N := 8) ?hd (xs := ([] : List (S55))) (inner := []) (ok := fun _ => True) (okp := fun _ => True) ?hr ?hp (fun _ hk => hk) trivial (Below.refl _ _) (Nat.le_refl _) (by simp) ?_; (case hd => rfl); (case hg => rfl); (case hr => first | (go_simp; done) | (go_simp; rfl)); (case hp => exact (Reps.none _ _)); intro v686 w4 ho5 hb hg_ hnew_; clear hg_ hnew_; (first | rw [← Ny685.out] at ho5 | (simp only [Int.reduceToNat] at ho5; rw [← Ny685.out] at ho5)); have n0_ := qa.mk (Kd.zL (by (with_reducible repeat (first | apply Kd.V_alloc | apply Kd.V_drewN | apply Kd.vg)); exact HO0_1.out) (Kd.vE ho5) hb); have n1_ := qa.mk (Kd.vO (Kd.wS (M := fun k_ => (w.heap.size ≤ k_)) ho5 (qA (by repeat (first | (with_reducible first | exact HB.out | apply qg | apply qb | apply qf | refine qd ?_ GE683.out | refine qd ?_ GE684.out) | exact HB.out))) (fun k_ h_ => h_)) (qA (by repeat (first | (with_reducible first | exact HB.out | apply qg | apply qb | apply qf | refine qd ?_ GE683.out | refine qd ?_ GE684.out) | exact HB.out)))); have n2_ := qa.mk (qB (g := gb683) (o := .cells #[.int .i64 a0_0, .slice A0_1 l0_1.length c0_1, .slice A0_2 l0_2.length c0_2] 25 (0, 0)) (by (with_reducible repeat (first | refine qi ?_ _ | refine ql ?_ | refine qh ?_ _)); exact BK683.out) hb); have n3_ := qa.mk (qB (g := gb684) (o := .cells #[.int .i64 0, .slice none 0 0, .slice none 0 0] 25 (0, 0)) (by (with_reducible repeat (first | refine qi ?_ _ | refine ql ?_ | refine qh ?_ _)); exact BK684.out) hb); have n4_ := qa.mk (qD (by repeat (first | (with_reducible first | exact HB.out | apply qg | apply qb | apply qf | refine qd ?_ GE683.out | refine qd ?_ GE684.out) | exact HB.out)) hb); clear HO0_1; clear BK683; clear BK684; clear HB; have HO0_1 := n0_; have HO687 := n1_; have BK683 := n2_; have BK684 := n3_; have HB := n4_; clear n0_ n1_ n2_ n3_ n4_; clear hb ho5))
 go_loopg [3, 4] k (fun kq v3 v4 w' => ∃ (x3_1 : List (S55)) (x4_1 : Int), v4 = .int .i64 x4_1 ∧ qa (qp.l0 kq x3_1 x4_1 a0_0 l0_1 l0_2 = some (r1, r2, r3)) ∧ qa (kq ≤ k) ∧ qa (Kd.R k55 55 w' w.heap.size (fun k_ => (w.heap.size ≤ k_)) v3 x3_1) ∧ qa (Kd.V Kd.string 9 w' w.heap.size (fun k_ => (P0_1_ k_ ∨ w.heap.size ≤ k_) ∧ some k_ ≠ (v3 : Value).ownBlock ∧ k_ ≠ gb683 ∧ k_ ≠ gb684) (.slice A0_1 l0_1.length c0_1) l0_1) ∧ qa (w'.heap[gb683]? = some (.cells #[.int .i64 a0_0, (.slice A0_1 l0_1.length c0_1), (.slice A0_2 l0_2.length c0_2)] 25 (0, 0))) ∧ qa (w'.heap[gb684]? = some (.cells #[.int .i64 0, (.slice none 0 0), (.slice none 0 0)] 25 (0, 0))) ∧ qa (Below w.heap.size w w'))
 case atStart => exact ⟨(y685), (0), (by first | rfl | (simp; done) | (simp [*]; done)), H', ⟨Nat.le_refl _⟩, ⟨by (with_reducible repeat (first | apply Kd.R_alloc | apply Kd.qo | apply Kd.qz)); exact Kd.qW HO687.out (fun _ hk => hk.1)⟩, ⟨by (with_reducible repeat (first | apply Kd.V_alloc | apply Kd.V_drewN | apply Kd.vg)); exact Kd.zg HO0_1.out (fun _ hk => ⟨hk.1.1.1, ⟨hk.2, ⟨hk.1.1.2, hk.1.2⟩⟩⟩)⟩, ⟨by (with_reducible repeat (first | refine qi ?_ _ | refine ql ?_ | refine qh ?_ _)); exact BK683.out⟩, ⟨by (with_reducible repeat (first | refine qi ?_ _ | refine ql ?_ | refine qh ?_ _)); exact BK684.out⟩, ⟨by repeat (first | (with_reducible first | exact HB.out | apply qg | apply qb | apply qf | refine qd ?_ GE683.out | refine qd ?_ GE684.out) | exact HB.out)⟩⟩
 case round =>
  clear H'
  try clear p2
  obtain ⟨x3_1, x4_1, rfl, HA, HK1, HO_3, HO_684001, BK683, BK684, HB⟩ := hrel
  cases gk with
  | zero => exact absurd HA.out (by simp [qp.l0])
  | succ k1 =>
   have H := HA.out
   clear HA
   simp only [qp.l0] at H
   by_cases c6 : x4_1 < (l0_2.length : Int)
   ·rw [if_pos c6] at H
    have c6b0 : decide (x4_1 < (l0_2.length : Int)) = true := decide_eq_true c6
    clear c6
    by_cases c7 : 0 ≤ x4_1
    ·rw [if_pos c7] at H
     have c7b0 : decide (0 ≤ x4_1) = true := decide_eq_true c7
     clear c7
     have H' := qa.mk H
     clear H
     have hnb8 := NB683_684.out
     have hnc8 := NB684_683.out
     have hcz9_0 : wr.cell? ⟨gb683, 0, none⟩ = some (.int .i64 a0_0) := (qj BK683.out 0).trans rfl
     have hcz9_1 : wr.cell? ⟨gb683, 1, none⟩ = some (.slice A0_1 l0_1.length c0_1) := (qj BK683.out 1).trans rfl
     have hcz9_2 : wr.cell? ⟨gb683, 2, none⟩ = some (.slice A0_2 l0_2.length c0_2) := (qj BK683.out 2).trans rfl
     have hfz9_0 := qm BK683.out 0
     have hfz9_1 := qm BK683.out 1
     have hfz9_2 := qm BK683.out 2
     have p688 : 0 ≤ (x4_1 : Int) := of_decide_eq_true (by first | (with_reducible assumption) | assumption)
     have q688 : x4_1 < (l0_2.length : Int) := of_decide_eq_true (by first | (with_reducible assumption) | assumption)
     obtain ⟨ad688, e688, hx688_0, hx688_1, hx688_2⟩ := vU HR0_2.out x4_1 p688 q688
     cases e688
     replace hx688_0 := (HB.out.cell (World.block_lt_of_cell? w _ hx688_0)).trans hx688_0
     replace hx688_1 := (HB.out.cell (World.block_lt_of_cell? w _ hx688_1)).trans hx688_1
     replace hx688_2 := (HB.out.cell (World.block_lt_of_cell? w _ hx688_2)).trans hx688_2
     replace p688 := eq_true p688
     replace q688 := eq_true q688
     go_wp2_with (first | ((with_reducible refine qY (N := 5) rfl ?_); refine qZ ?hg (N := 5) ?hd (cs := #[.int .i64 0, .int .i64 0, .int .i64 0]) (t := 55) ?hr ?_; (case hd => rfl); (case hg => rfl); (case hr => first | (go_simp; done) | (go_simp; rfl)); intro gb689 hg w10 hbox hb; have n0_ := qa.mk (Kd.qL (Kd.kF (by (with_reducible repeat (first | apply Kd.R_alloc | apply Kd.qo | apply Kd.qz)); exact HO_3.out) gb689 (Nat.le_of_eq hg.symm)) hb); have n1_ := qa.mk (Kd.zf (Kd.jh (by (with_reducible repeat (first | apply Kd.V_alloc | apply Kd.V_drewN | apply Kd.vg)); exact HO_684001.out) gb689 (Nat.le_of_eq hg.symm)) hb); have n2_ := qa.mk (qB (g := gb683) (o := .cells #[.int .i64 a0_0, .slice A0_1 l0_1.length c0_1, .slice (some ad688) l0_2.length c0_2] 25 (0, 0)) (by (with_reducible repeat (first | refine qi ?_ _ | refine ql ?_ | refine qh ?_ _)); exact BK683.out) hb); have n3_ := qa.mk (qB (g := gb684) (o := .cells #[.int .i64 0, .slice none 0 0, .slice none 0 0] 25 (0, 0)) (by (with_reducible repeat (first | refine qi ?_ _ | refine ql ?_ | refine qh ?_ _)); exact BK684.out) hb); have n4_ := qa.mk (qD (by repeat (first | (with_reducible first | exact HB.out | apply qg | apply qb | apply qf | refine qd ?_ GE683.out | refine qd ?_ GE684.out) | exact HB.out)) hb); have n5_ := qa.mk (hbox); have n6_ := qa.mk ((by rw [hg]; exact (qA (by repeat (first | (with_reducible first | exact HB.out | apply qg | apply qb | apply qf | refine qd ?_ GE683.out | refine qd ?_ GE684.out) | exact HB.out))) : w.heap.size ≤ gb689)); have n7_ := qa.mk ((by rw [hg]; exact (qA (by repeat (first | (with_reducible first | exact HB.out | apply qg | apply qb | apply qf | refine qd ?_ GE683.out | refine qd ?_ GE684.out) | exact HB.out))) : w.heap.size ≤ gb689)); have n8_ := qa.mk ((by rw [hg]; exact Nat.ne_of_lt (vz (g := gb683) (o := .cells #[.int .i64 a0_0, .slice A0_1 l0_1.length c0_1, .slice (some ad688) l0_2.length c0_2] 25 (0, 0)) (by (with_reducible repeat (first | refine qi ?_ _ | refine ql ?_ | refine qh ?_ _)); exact BK683.out)) : gb683 ≠ gb689)); have n9_ := qa.mk ((by rw [hg]; exact Nat.ne_of_gt (vz (g := gb683) (o := .cells #[.int .i64 a0_0, .slice A0_1 l0_1.length c0_1, .slice (some ad688) l0_2.length c0_2] 25 (0, 0)) (by (with_reducible repeat (first | refine qi ?_ _ | refine ql ?_ | refine qh ?_ _)); exact BK683.out)) : gb689 ≠ gb683)); have n10_ := qa.mk ((by rw [hg]; exact Nat.ne_of_lt (vz (g := gb684) (o := .cells #[.int .i64 0, .slice none 0 0, .slice none 0 0] 25 (0, 0)) (by (with_reducible repeat (first | refine qi ?_ _ | refine ql ?_ | refine qh ?_ _)); exact BK684.out)) : gb684 ≠ gb689)); have n11_ := qa.mk ((by rw [hg]; exact Nat.ne_of_gt (vz (g := gb684) (o := .cells #[.int .i64 0, .slice none 0 0, .slice none 0 0] 25 (0, 0)) (by (with_reducible repeat (first | refine qi ?_ _ | refine ql ?_ | refine qh ?_ _)); exact BK684.out)) : gb689 ≠ gb684)); clear HO_3; clear HO_684001; clear BK683; clear BK684; clear HB; have HO_3 := n0_; have HO_684001 := n1_; have BK683 := n2_; have BK684 := n3_; have HB := n4_; have BK689 := n5_; have GW689 := n6_; have GE689 := n7_; have NB683_689 := n8_; have NB689_683 := n9_; have NB684_689 := n10_; have NB689_684 := n11_; clear n0_ n1_ n2_ n3_ n4_ n5_ n6_ n7_ n8_ n9_ n10_ n11_; clear hb hbox hg; have hnb11 := NB689_683.out; have hnc11 := NB683_689.out; have hnb12 := NB689_684.out; have hnc12 := NB684_689.out; have hcz13_0 : w10.cell? ⟨gb689, 0, none⟩ = some (.int .i64 0) := (qj BK689.out 0).trans rfl; have hcz13_1 : w10.cell? ⟨gb689, 1, none⟩ = some (.int .i64 0) := (qj BK689.out 1).trans rfl; have hcz13_2 : w10.cell? ⟨gb689, 2, none⟩ = some (.int .i64 0) := (qj BK689.out 2).trans rfl; have hfz13_0 := qm BK689.out 0; have hfz13_1 := qm BK689.out 1; have hfz13_2 := qm BK689.out 2; obtain ⟨Ao14, co14, eo14⟩ := Kd.zn HO_3.out; subst eo14))
     go_loopg [6] k1 (fun kq v6 w' => ∃ (x6_2 : Int), v6 = .int .i64 x6_2 ∧ qa (qp.l1 kq x3_1 x4_1 x6_2 a0_0 l0_1 l0_2 ((qc l0_2 x4_1).f0) ((qc l0_2 x4_1).f1) ((qc l0_2 x4_1).f2) = some (r1, r2, r3)) ∧ qa (kq ≤ k1) ∧ qa (Kd.R k55 55 w' w.heap.size (fun k_ => (w.heap.size ≤ k_) ∧ k_ ≠ gb689) (.slice Ao14 x3_1.length co14) x3_1) ∧ qa (Kd.V Kd.string 9 w' w.heap.size (fun k_ => (P0_1_ k_ ∨ w.heap.size ≤ k_) ∧ some k_ ≠ ((.slice Ao14 x3_1.length co14) : Value).ownBlock ∧ k_ ≠ gb683 ∧ k_ ≠ gb684 ∧ k_ ≠ gb689) (.slice A0_1 l0_1.length c0_1) l0_1) ∧ qa (w'.heap[gb683]? = some (.cells #[.int .i64 a0_0, (.slice A0_1 l0_1.length c0_1), (.slice (some ad688) l0_2.length c0_2)] 25 (0, 0))) ∧ qa (w'.heap[gb684]? = some (.cells #[.int .i64 0, (.slice none 0 0), (.slice none 0 0)] 25 (0, 0))) ∧ qa (w'.heap[gb689]? = some (.cells #[.int .i64 ((qc l0_2 x4_1).f0), .int .i64 ((qc l0_2 x4_1).f1), .int .i64 ((qc l0_2 x4_1).f2)] 55 (0, 0))) ∧ qa (Below w.heap.size w w'))
     case atStart => exact ⟨((x3_1.length : Int)), (by first | rfl | (simp; done) | (simp [*]; done)), H', ⟨Nat.le_refl _⟩, ⟨by (with_reducible repeat (first | apply Kd.R_alloc | apply Kd.qo | apply Kd.qz)); exact Kd.qW (Kd.vT (p := ⟨gb689, 2, none⟩) (Kd.vT (p := ⟨gb689, 1, none⟩) (Kd.vT (p := ⟨gb689, 0, none⟩) (Kd.qW HO_3.out (fun k_ hk => (⟨hk, hk.2⟩ : _ ∧ k_ ≠ gb689))) (fun _ hk => hk.2) (.int .i64 ((qc l0_2 x4_1).f0))) (fun _ hk => hk.2) (.int .i64 ((qc l0_2 x4_1).f1))) (fun _ hk => hk.2) (.int .i64 ((qc l0_2 x4_1).f2))) (fun _ hk => ⟨hk.1.1, hk.1.2⟩)⟩, ⟨by (with_reducible repeat (first | apply Kd.V_alloc | apply Kd.V_drewN | apply Kd.vg)); exact Kd.zg (Kd.jA (p := ⟨gb689, 2, none⟩) (Kd.jA (p := ⟨gb689, 1, none⟩) (Kd.jA (p := ⟨gb689, 0, none⟩) (Kd.zg HO_684001.out (fun k_ hk => (⟨hk, hk.2⟩ : _ ∧ k_ ≠ gb689))) (fun _ hk => hk.2) (.int .i64 ((qc l0_2 x4_1).f0))) (fun _ hk => hk.2) (.int .i64 ((qc l0_2 x4_1).f1))) (fun _ hk => hk.2) (.int .i64 ((qc l0_2 x4_1).f2))) (fun _ hk => ⟨hk.1.1.1, ⟨hk.1.1.2.1, ⟨hk.1.1.2.2.1, ⟨hk.1.1.2.2.2, hk.1.2⟩⟩⟩⟩)⟩, ⟨by (with_reducible repeat (first | refine qi ?_ _ | refine ql ?_ | refine qh ?_ _)); refine vG ?_ NB683_689.out _; (with_reducible repeat (first | refine qi ?_ _ | refine ql ?_ | refine qh ?_ _)); refine vG ?_ NB683_689.out _; (with_reducible repeat (first | refine qi ?_ _ | refine ql ?_ | refine qh ?_ _)); refine vG ?_ NB683_689.out _; (with_reducible repeat (first | refine qi ?_ _ | refine ql ?_ | refine qh ?_ _)); exact BK683.out⟩, ⟨by (with_reducible repeat (first | refine qi ?_ _ | refine ql ?_ | refine qh ?_ _)); refine vG ?_ NB684_689.out _; (with_reducible repeat (first | refine qi ?_ _ | refine ql ?_ | refine qh ?_ _)); refine vG ?_ NB684_689.out _; (with_reducible repeat (first | refine qi ?_ _ | refine ql ?_ | refine qh ?_ _)); refine vG ?_ NB684_689.out _; (with_reducible repeat (first | refine qi ?_ _ | refine ql ?_ | refine qh ?_ _)); exact BK684.out⟩, ⟨by (with_reducible repeat (first | refine qi ?_ _ | refine ql ?_ | refine qh ?_ _)); refine zq (cs := #[.int .i64 ((qc l0_2 x4_1).f0), .int .i64 ((qc l0_2 x4_1).f1), .int .i64 0]) ?_ 2 _ rfl; (with_reducible repeat (first | refine qi ?_ _ | refine ql ?_ | refine qh ?_ _)); refine zq (cs := #[.int .i64 ((qc l0_2 x4_1).f0), .int .i64 0, .int .i64 0]) ?_ 1 _ rfl; (with_reducible repeat (first | refine qi ?_ _ | refine ql ?_ | refine qh ?_ _)); refine zq (cs := #[.int .i64 0, .int .i64 0, .int .i64 0]) ?_ 0 _ rfl; (with_reducible repeat (first | refine qi ?_ _ | refine ql ?_ | refine qh ?_ _)); exact BK689.out⟩, ⟨by repeat (first | (with_reducible first | exact HB.out | apply qg | apply qb | apply qf | refine qd ?_ GE683.out | refine qd ?_ GE684.out | refine qd ?_ GE689.out) | exact HB.out)⟩⟩
     case round =>
      clear H'
      try clear c1
      try clear p2
      try clear c6
      try clear c6b0
      try clear p6
      try clear q6
      try clear hx6
      try clear c7
      try clear c7b0
      try clear c8
      try clear c11
      try clear c12
      try clear hcz13_0
      try clear hcz13_1
      try clear hcz13_2
      try clear hcz9_0
      try clear hcz9_1
      try clear hcz9_2
      try clear hfz13_0
      try clear hfz13_1
      try clear hfz13_2
      try clear hfz9_0
      try clear hfz9_1
      try clear hfz9_2
      try clear hx688_0
      try clear hx688_1
      try clear hx688_2
      try clear p2
      try clear p688
      try clear q688
      obtain ⟨x6_2, rfl, HA, HK2, HO_3, HO_684001, BK683, BK684, BK689, HB⟩ := hrel
      cases gk with
      | zero => exact absurd HA.out (by simp [qp.l1])
      | succ k2 =>
       have H := HA.out
       clear HA
       simp only [qp.l1] at H
       by_cases c15 : x6_2 > 0
       ·rw [if_pos c15] at H
        have c15b0 : decide (0 < x6_2) = true := decide_eq_true c15
        clear c15
        obtain ⟨ji16, hji16⟩ : ∃ j_ : Int, (wrap64 (x6_2 - 1)) = j_ := ⟨_, rfl⟩
        replace H : (if 0 ≤ (ji16) then (if (ji16) < (x3_1.length : Int) then ((vw.f ((qc l0_2 x4_1).f0) ((qc l0_2 x4_1).f1) ((qc l0_2 x4_1).f2) ((qc x3_1 (ji16)).f0) ((qc x3_1 (ji16)).f1) ((qc x3_1 (ji16)).f2)).bind fun t691 => (if t691 = true then (qp.l1 k2 x3_1 x4_1 ji16 a0_0 l0_1 l0_2 ((qc l0_2 x4_1).f0) ((qc l0_2 x4_1).f1) ((qc l0_2 x4_1).f2)) else (if (((qc x3_1 (ji16)).f0) == ((qc l0_2 x4_1).f0) && (((qc x3_1 (ji16)).f1) == ((qc l0_2 x4_1).f1) && (((qc x3_1 (ji16)).f2) == ((qc l0_2 x4_1).f2)))) = true then (qp.l0 k2 x3_1 (wrap64 (x4_1 + 1)) a0_0 l0_1 l0_2) else ((some (([] : List (S55)) : List (S55))).bind fun y693 => (if 0 ≤ x6_2 then (if x6_2 ≤ (x3_1.length : Int) then ((some (x3_1.drop (x6_2 : Int).toNat : List (S55))).bind fun y696 => (if y693.length + y696.length < 5864062014805 then ((some (y693 ++ y696 : List (S55))).bind fun y700 => ((some (([] : List (S55)) : List (S55))).bind fun y703 => ((some (x3_1.take (x6_2 : Int).toNat : List (S55))).bind fun y706 => (if y703.length + y706.length < 5864062014805 then ((some (y703 ++ y706 : List (S55))).bind fun y710 => ((some (([(⟨((qc l0_2 x4_1).f0), ((qc l0_2 x4_1).f1), ((qc l0_2 x4_1).f2)⟩ : S55)] : List (S55)) : List (S55))).bind fun y713 => (if y710.length + y713.length < 5864062014805 then ((some (y710 ++ y713 : List (S55))).bind fun y716 => (if y716.length + y700.length < 5864062014805 then (qp.l0 k2 (y716 ++ y700) (wrap64 (x4_1 + 1)) a0_0 l0_1 l0_2) else (none))) else (none)))) else (none))))) else (none))) else (none)) else (none)))))) else (none)) else (none)) = some (r1, r2, r3) := by first | (rw [hji16] at H; exact H) | (simp only [hji16] at H ⊢; exact H)
        have hji16w : (IntKind.i64.wrap (x6_2 - 1)) = ji16 := (qw _).trans hji16
        by_cases c17 : 0 ≤ (ji16)
        ·rw [if_pos c17] at H
         have c17b0 : decide (0 ≤ (ji16)) = true := decide_eq_true c17
         clear c17
         by_cases c18 : (ji16) < (x3_1.length : Int)
         ·rw [if_pos c18] at H
          have c18b0 : decide ((ji16) < (x3_1.length : Int)) = true := decide_eq_true c18
          clear c18
          replace H := Option.bind_eq_some_iff.mp H
          obtain ⟨t691, A190, H⟩ := H
          replace H : (if t691 = true then (qp.l1 k2 x3_1 x4_1 ji16 a0_0 l0_1 l0_2 ((qc l0_2 x4_1).f0) ((qc l0_2 x4_1).f1) ((qc l0_2 x4_1).f2)) else (if (((qc x3_1 (ji16)).f0) == ((qc l0_2 x4_1).f0) && (((qc x3_1 (ji16)).f1) == ((qc l0_2 x4_1).f1) && (((qc x3_1 (ji16)).f2) == ((qc l0_2 x4_1).f2)))) = true then (qp.l0 k2 x3_1 (wrap64 (x4_1 + 1)) a0_0 l0_1 l0_2) else ((some (([] : List (S55)) : List (S55))).bind fun y693 => (if 0 ≤ x6_2 then (if x6_2 ≤ (x3_1.length : Int) then ((some (x3_1.drop (x6_2 : Int).toNat : List (S55))).bind fun y696 => (if y693.length + y696.length < 5864062014805 then ((some (y693 ++ y696 : List (S55))).bind fun y700 => ((some (([] : List (S55)) : List (S55))).bind fun y703 => ((some (x3_1.take (x6_2 : Int).toNat : List (S55))).bind fun y706 => (if y703.length + y706.length < 5864062014805 then ((some (y703 ++ y706 : List (S55))).bind fun y710 => ((some (([(⟨((qc l0_2 x4_1).f0), ((qc l0_2 x4_1).f1), ((qc l0_2 x4_1).f2)⟩ : S55)] : List (S55)) : List (S55))).bind fun y713 => (if y710.length + y713.length < 5864062014805 then ((some (y710 ++ y713 : List (S55))).bind fun y716 => (if y716.length + y700.length < 5864062014805 then (qp.l0 k2 (y716 ++ y700) (wrap64 (x4_1 + 1)) a0_0 l0_1 l0_2) else (none))) else (none)))) else (none))))) else (none))) else (none)) else (none))))) = some (r1, r2, r3) := H
          have A19 := qa.mk A190
          clear A190
          by_cases c20 : t691 = true
          ·subst c20
           have H1 : (qp.l1 k2 x3_1 x4_1 ji16 a0_0 l0_1 l0_2 ((qc l0_2 x4_1).f0) ((qc l0_2 x4_1).f1) ((qc l0_2 x4_1).f2)) = some (r1, r2, r3) := by rw [if_pos rfl] at H; exact H
           clear H
           have H := H1
           clear H1
           have H' := qa.mk H
           clear H
           try go_wp2
           have n0_ := qa.mk (Kd.qz HO_3.out)
           have n1_ := qa.mk (Kd.vg HO_684001.out)
           have n2_ := qa.mk (ql BK683.out)
           have n3_ := qa.mk (ql BK684.out)
           have n4_ := qa.mk (ql BK689.out)
           have n5_ := qa.mk (qf HB.out)
           clear HO_3
           clear HO_684001
           clear BK683
           clear BK684
           clear BK689
           clear HB
           have HO_3 := n0_
           have HO_684001 := n1_
           have BK683 := n2_
           have BK684 := n3_
           have BK689 := n4_
           have HB := n5_
           clear n0_ n1_ n2_ n3_ n4_ n5_
           have p690 : 0 ≤ ((ji16) : Int) := of_decide_eq_true (by first | (with_reducible assumption) | assumption)
           have q690 : (ji16) < (x3_1.length : Int) := of_decide_eq_true (by first | (with_reducible assumption) | assumption)
           obtain ⟨ad690, e690, hx690_0, hx690_1, hx690_2⟩ := vU (Kd.qH HO_3.out).2.2 (ji16) p690 q690
           cases e690
           replace p690 := eq_true p690
           replace q690 := eq_true q690
           refine zI (n := 11) (S := fun w' => w'.cell? ⟨gb689, 0, none⟩ = some (.int .i64 ((qc l0_2 x4_1).f0)) ∧ w'.cell? ⟨gb689, 1, none⟩ = some (.int .i64 ((qc l0_2 x4_1).f1)) ∧ w'.cell? ⟨gb689, 2, none⟩ = some (.int .i64 ((qc l0_2 x4_1).f2)) ∧ w'.cell? (ad690.add (((ji16)).toNat * 3)) = some (.int .i64 ((qc x3_1 (ji16)).f0)) ∧ w'.cell? ⟨(ad690.add (((ji16)).toNat * 3)).block, (ad690.add (((ji16)).toNat * 3)).off + 1, none⟩ = some (.int .i64 ((qc x3_1 (ji16)).f1)) ∧ w'.cell? ⟨(ad690.add (((ji16)).toNat * 3)).block, (ad690.add (((ji16)).toNat * 3)).off + 2, none⟩ = some (.int .i64 ((qc x3_1 (ji16)).f2))) (ds := []) tb4_0 (by kernel_rfl) rfl rfl ⟨(qj BK689.out 0).trans rfl, (qj BK689.out 1).trans rfl, (qj BK689.out 2).trans rfl, hx690_0, hx690_1, hx690_2⟩ (fun hHeld => ?_); refine zS qp.tab7 qp.bits7 (fun HT_ HW_ => ?_)
           generalize wr.drew = w21 at HO_3 HO_684001 BK683 BK684 BK689 HB hx690_0 hx690_1 hx690_2 hHeld ⊢
           refine qy (i := 0) (N := some 23) tb4_1 rfl rfl (vo HT_.out (by kernel_rfl)) (fun _ _ _ h => h) (.inl ⟨by rfl, by intro w'; go_simp; with_reducible rfl⟩) (by simp only [Act.put, sA, sB, sC, qw, qx]; rfl) ?_
           refine qy (i := 1) (N := some 24) tb4_2 rfl rfl (vo HT_.out (by kernel_rfl)) (fun _ _ _ h => h) (.inl ⟨by rfl, by intro w'; go_simp; with_reducible rfl⟩) (by simp only [Act.put, sA, sB, sC, qw, qx]; rfl) ?_
           refine qy (i := 2) (N := some 25) tb4_3 rfl rfl (vo HT_.out (by kernel_rfl)) (fun _ _ _ h => h) (.inl ⟨by rfl, by intro w'; go_simp; with_reducible rfl⟩) (by simp only [Act.put, sA, sB, sC, qw, qx]; rfl) ?_
           refine qy (i := 4) (N := some 27) tb4_4 rfl rfl (vo HT_.out (by kernel_rfl)) (fun _ _ _ h => h) (.inl ⟨by rfl, by intro w'; go_simp; with_reducible rfl⟩) (by simp only [Act.put, sA, sB, sC, qw, qx]; rfl) ?_
           refine qy (i := 5) (N := some 28) tb4_5 rfl rfl (vo HT_.out (by kernel_rfl)) (fun _ _ _ h => h) (.inl ⟨by rfl, by intro w'; go_simp; with_reducible rfl⟩) (by simp only [Act.put, sA, sB, sC, qw, qx]; rfl) ?_
           refine qy (i := 6) (N := some 29) tb4_6 rfl rfl (vo HT_.out (by kernel_rfl)) (fun _ _ _ h => h) (.inl ⟨by rfl, by intro w'; go_simp; with_reducible rfl⟩) (by simp only [Act.put, sA, sB, sC, qw, qx]; rfl) ?_
           refine qy (i := 7) (N := some 30) tb4_7 rfl rfl (vo HT_.out (by kernel_rfl)) (fun _ _ _ h => h) (.inl ⟨by rfl, by intro w'; go_simp; with_reducible rfl⟩) (by simp only [Act.put, sA, sB, sC, qw, qx]; rfl) ?_
           refine vJ (i := 3) (N := some 26) tb4_8 rfl rfl (zu HT_.out HW_.out (by kernel_rfl)) (fun _ _ _ h => h) (.inl ⟨by rfl, by rintro w' ⟨s0, s1, s2, s3, s4, s5⟩; go_simp; with_reducible rfl⟩) hHeld (by simp only [Act.put, sA, sB, sC, qw, qx]; rfl) ?_
           refine vJ (i := 8) (N := some 31) tb4_9 rfl rfl (zu HT_.out HW_.out (by kernel_rfl)) (fun _ _ _ h => h) (.inl ⟨by rfl, by rintro w' ⟨s0, s1, s2, s3, s4, s5⟩; go_simp; with_reducible rfl⟩) hHeld (by simp only [Act.put, sA, sB, sC, qw, qx]; rfl) ?_
           refine one_ (i := 9) (N := some 32) tb4_10 rfl rfl (zU HT_.out (by kernel_rfl)) (by decide) (fun K hK => ?_)
           refine jI Try.func82 (by kernel_rfl) rfl #[.agg #[.int .i64 ((qc l0_2 x4_1).f0), .int .i64 ((qc l0_2 x4_1).f1), .int .i64 ((qc l0_2 x4_1).f2)], .agg #[.int .i64 ((qc x3_1 (ji16)).f0), .int .i64 ((qc x3_1 (ji16)).f1), .int .i64 ((qc x3_1 (ji16)).f2)]] (by rfl) rfl rfl (by (try simp only [List.map_toArray, List.map_cons, List.map_nil]); first | done | (simp only [hji16]; rfl) | rfl | (simp only [List.length_drop, List.length_take]; rfl)) ?_
           with_reducible refine (vw.calls ((qc l0_2 x4_1).f0) ((qc l0_2 x4_1).f1) ((qc l0_2 x4_1).f2) ((qc x3_1 (ji16)).f0) ((qc x3_1 (ji16)).f1) ((qc x3_1 (ji16)).f2) true _ A19.out).mono ?_
           rintro e w22 ⟨rfl, hb⟩
           have HS3_ := (hb.cell (World.block_lt_of_cell? _ _ (hHeld.2.2.2.1))).trans (hHeld.2.2.2.1)
           have HS4_ := (hb.cell (World.block_lt_of_cell? _ _ (hHeld.2.2.2.2.1))).trans (hHeld.2.2.2.2.1)
           have HS5_ := (hb.cell (World.block_lt_of_cell? _ _ (hHeld.2.2.2.2.2))).trans (hHeld.2.2.2.2.2)
           refine ⟨_, rfl, ?_⟩
           have n0_ := qa.mk (Kd.qL (by (with_reducible repeat (first | apply Kd.R_alloc | apply Kd.qo | apply Kd.qz)); exact HO_3.out) hb)
           have n1_ := qa.mk (Kd.zf (by (with_reducible repeat (first | apply Kd.V_alloc | apply Kd.V_drewN | apply Kd.vg)); exact HO_684001.out) hb)
           have n2_ := qa.mk (qB (g := gb683) (o := .cells #[.int .i64 a0_0, .slice A0_1 l0_1.length c0_1, .slice (some ad688) l0_2.length c0_2] 25 (0, 0)) (by (with_reducible repeat (first | refine qi ?_ _ | refine ql ?_ | refine qh ?_ _)); exact BK683.out) hb)
           have n3_ := qa.mk (qB (g := gb684) (o := .cells #[.int .i64 0, .slice none 0 0, .slice none 0 0] 25 (0, 0)) (by (with_reducible repeat (first | refine qi ?_ _ | refine ql ?_ | refine qh ?_ _)); exact BK684.out) hb)
           have n4_ := qa.mk (qB (g := gb689) (o := .cells #[.int .i64 ((qc l0_2 x4_1).f0), .int .i64 ((qc l0_2 x4_1).f1), .int .i64 ((qc l0_2 x4_1).f2)] 55 (0, 0)) (by (with_reducible repeat (first | refine qi ?_ _ | refine ql ?_ | refine qh ?_ _)); exact BK689.out) hb)
           have n5_ := qa.mk (qD (by repeat (first | (with_reducible first | exact HB.out | apply qg | apply qb | apply qf | refine qd ?_ GE683.out | refine qd ?_ GE684.out | refine qd ?_ GE689.out) | exact HB.out)) hb)
           clear HO_3
           clear HO_684001
           clear BK683
           clear BK684
           clear BK689
           clear HB
           have HO_3 := n0_
           have HO_684001 := n1_
           have BK683 := n2_
           have BK684 := n3_
           have BK689 := n4_
           have HB := n5_
           clear n0_ n1_ n2_ n3_ n4_ n5_
           (try clear hb)
           (try clear hb2)
           (try clear hk)
           (try clear hi)
           refine hK.out _ _ ⟨(qj BK689.out 0).trans rfl, (qj BK689.out 1).trans rfl, (qj BK689.out 2).trans rfl, HS3_, HS4_, HS5_⟩ (fun hHeld => ?_)
           clear hK K
           refine zo (a' := ?_) ?_ ?_
           rotate_left
           ·show Act.put _ (some 32) _ = _
            simp only [Act.put, sA, sB, sC, qw, qx]
            rfl
           refine qy (i := 10) (N := some 33) tb4_11 rfl rfl (vo HT_.out (by kernel_rfl)) (fun _ _ _ h => h) (.inl ⟨by rfl, by intro w'; go_simp; with_reducible rfl⟩) (by simp only [Act.put, sA, sB, sC, qw, qx]; rfl) ?_
           refine zP (wO HT_.out (by kernel_rfl)) ?_
           try go_wp2
           go_roundg k2
           case measure => have := HK1.out; have := HK2.out; omega
           case rel => exact ⟨(ji16), (by first | rfl | (simp; done) | (simp only [← hji16] <;> (first | rfl | simp)) | (simp [*]; done)), H', ⟨by have := HK1.out; have := HK2.out; omega⟩, ⟨by (with_reducible repeat (first | apply Kd.R_alloc | apply Kd.qo | apply Kd.qz)); exact HO_3.out⟩, ⟨by (with_reducible repeat (first | apply Kd.V_alloc | apply Kd.V_drewN | apply Kd.vg)); exact HO_684001.out⟩, ⟨by (with_reducible repeat (first | refine qi ?_ _ | refine ql ?_ | refine qh ?_ _)); exact BK683.out⟩, ⟨by (with_reducible repeat (first | refine qi ?_ _ | refine ql ?_ | refine qh ?_ _)); exact BK684.out⟩, ⟨by (with_reducible repeat (first | refine qi ?_ _ | refine ql ?_ | refine qh ?_ _)); exact BK689.out⟩, ⟨by repeat (first | (with_reducible first | exact HB.out | apply qg | apply qb | apply qf | refine qd ?_ GE683.out | refine qd ?_ GE684.out | refine qd ?_ GE689.out) | exact HB.out)⟩⟩
          ·replace c20 := Bool.eq_false_iff.mpr c20
           subst c20
           have H1 : (if (((qc x3_1 (ji16)).f0) == ((qc l0_2 x4_1).f0) && (((qc x3_1 (ji16)).f1) == ((qc l0_2 x4_1).f1) && (((qc x3_1 (ji16)).f2) == ((qc l0_2 x4_1).f2)))) = true then (qp.l0 k2 x3_1 (wrap64 (x4_1 + 1)) a0_0 l0_1 l0_2) else ((some (([] : List (S55)) : List (S55))).bind fun y693 => (if 0 ≤ x6_2 then (if x6_2 ≤ (x3_1.length : Int) then ((some (x3_1.drop (x6_2 : Int).toNat : List (S55))).bind fun y696 => (if y693.length + y696.length < 5864062014805 then ((some (y693 ++ y696 : List (S55))).bind fun y700 => ((some (([] : List (S55)) : List (S55))).bind fun y703 => ((some (x3_1.take (x6_2 : Int).toNat : List (S55))).bind fun y706 => (if y703.length + y706.length < 5864062014805 then ((some (y703 ++ y706 : List (S55))).bind fun y710 => ((some (([(⟨((qc l0_2 x4_1).f0), ((qc l0_2 x4_1).f1), ((qc l0_2 x4_1).f2)⟩ : S55)] : List (S55)) : List (S55))).bind fun y713 => (if y710.length + y713.length < 5864062014805 then ((some (y710 ++ y713 : List (S55))).bind fun y716 => (if y716.length + y700.length < 5864062014805 then (qp.l0 k2 (y716 ++ y700) (wrap64 (x4_1 + 1)) a0_0 l0_1 l0_2) else (none))) else (none)))) else (none))))) else (none))) else (none)) else (none)))) = some (r1, r2, r3) := by rw [if_neg (show ¬ (false = true) by decide)] at H; exact H
           clear H
           have H := H1
           clear H1
           by_cases c23 : (((qc x3_1 (ji16)).f0) == ((qc l0_2 x4_1).f0) && (((qc x3_1 (ji16)).f1) == ((qc l0_2 x4_1).f1) && (((qc x3_1 (ji16)).f2) == ((qc l0_2 x4_1).f2)))) = true
           ·rw [if_pos c23] at H
            have c23b0 : (((qc x3_1 (ji16)).f0) == ((qc l0_2 x4_1).f0) && (((qc x3_1 (ji16)).f1) == ((qc l0_2 x4_1).f1) && (((qc x3_1 (ji16)).f2) == ((qc l0_2 x4_1).f2)))) = true := c23
            (try (have c23b1 : decide (((qc x3_1 (ji16)).f0) = ((qc l0_2 x4_1).f0) && (((qc x3_1 (ji16)).f1) == ((qc l0_2 x4_1).f1) && (((qc x3_1 (ji16)).f2) == ((qc l0_2 x4_1).f2)))) = true := by simpa using c23))
            (try (have c23b2 : (((qc x3_1 (ji16)).f0) == ((qc l0_2 x4_1).f0) && (((qc x3_1 (ji16)).f1) == ((qc l0_2 x4_1).f1) && (((qc x3_1 (ji16)).f2) == ((qc l0_2 x4_1).f2)))) = true := by simpa using c23))
            clear c23
            have H' := qa.mk H
            clear H
            try go_wp2
            have n0_ := qa.mk (Kd.qz HO_3.out)
            have n1_ := qa.mk (Kd.vg HO_684001.out)
            have n2_ := qa.mk (ql BK683.out)
            have n3_ := qa.mk (ql BK684.out)
            have n4_ := qa.mk (ql BK689.out)
            have n5_ := qa.mk (qf HB.out)
            clear HO_3
            clear HO_684001
            clear BK683
            clear BK684
            clear BK689
            clear HB
            have HO_3 := n0_
            have HO_684001 := n1_
            have BK683 := n2_
            have BK684 := n3_
            have BK689 := n4_
            have HB := n5_
            clear n0_ n1_ n2_ n3_ n4_ n5_
            have p690 : 0 ≤ ((ji16) : Int) := of_decide_eq_true (by first | (with_reducible assumption) | assumption)
            have q690 : (ji16) < (x3_1.length : Int) := of_decide_eq_true (by first | (with_reducible assumption) | assumption)
            obtain ⟨ad690, e690, hx690_0, hx690_1, hx690_2⟩ := vU (Kd.qH HO_3.out).2.2 (ji16) p690 q690
            cases e690
            replace p690 := eq_true p690
            replace q690 := eq_true q690
            refine zI (n := 11) (S := fun w' => w'.cell? ⟨gb689, 0, none⟩ = some (.int .i64 ((qc l0_2 x4_1).f0)) ∧ w'.cell? ⟨gb689, 1, none⟩ = some (.int .i64 ((qc l0_2 x4_1).f1)) ∧ w'.cell? ⟨gb689, 2, none⟩ = some (.int .i64 ((qc l0_2 x4_1).f2)) ∧ w'.cell? (ad690.add (((ji16)).toNat * 3)) = some (.int .i64 ((qc x3_1 (ji16)).f0)) ∧ w'.cell? ⟨(ad690.add (((ji16)).toNat * 3)).block, (ad690.add (((ji16)).toNat * 3)).off + 1, none⟩ = some (.int .i64 ((qc x3_1 (ji16)).f1)) ∧ w'.cell? ⟨(ad690.add (((ji16)).toNat * 3)).block, (ad690.add (((ji16)).toNat * 3)).off + 2, none⟩ = some (.int .i64 ((qc x3_1 (ji16)).f2))) (ds := []) tb4_0 (by kernel_rfl) rfl rfl ⟨(qj BK689.out 0).trans rfl, (qj BK689.out 1).trans rfl, (qj BK689.out 2).trans rfl, hx690_0, hx690_1, hx690_2⟩ (fun hHeld => ?_); refine zS qp.tab7 qp.bits7 (fun HT_ HW_ => ?_)
            generalize wr.drew = w24 at HO_3 HO_684001 BK683 BK684 BK689 HB hx690_0 hx690_1 hx690_2 hHeld ⊢
            refine qy (i := 0) (N := some 23) tb4_1 rfl rfl (vo HT_.out (by kernel_rfl)) (fun _ _ _ h => h) (.inl ⟨by rfl, by intro w'; go_simp; with_reducible rfl⟩) (by simp only [Act.put, sA, sB, sC, qw, qx]; rfl) ?_
            refine qy (i := 1) (N := some 24) tb4_2 rfl rfl (vo HT_.out (by kernel_rfl)) (fun _ _ _ h => h) (.inl ⟨by rfl, by intro w'; go_simp; with_reducible rfl⟩) (by simp only [Act.put, sA, sB, sC, qw, qx]; rfl) ?_
            refine qy (i := 2) (N := some 25) tb4_3 rfl rfl (vo HT_.out (by kernel_rfl)) (fun _ _ _ h => h) (.inl ⟨by rfl, by intro w'; go_simp; with_reducible rfl⟩) (by simp only [Act.put, sA, sB, sC, qw, qx]; rfl) ?_
            refine qy (i := 4) (N := some 27) tb4_4 rfl rfl (vo HT_.out (by kernel_rfl)) (fun _ _ _ h => h) (.inl ⟨by rfl, by intro w'; go_simp; with_reducible rfl⟩) (by simp only [Act.put, sA, sB, sC, qw, qx]; rfl) ?_
            refine qy (i := 5) (N := some 28) tb4_5 rfl rfl (vo HT_.out (by kernel_rfl)) (fun _ _ _ h => h) (.inl ⟨by rfl, by intro w'; go_simp; with_reducible rfl⟩) (by simp only [Act.put, sA, sB, sC, qw, qx]; rfl) ?_
            refine qy (i := 6) (N := some 29) tb4_6 rfl rfl (vo HT_.out (by kernel_rfl)) (fun _ _ _ h => h) (.inl ⟨by rfl, by intro w'; go_simp; with_reducible rfl⟩) (by simp only [Act.put, sA, sB, sC, qw, qx]; rfl) ?_
            refine qy (i := 7) (N := some 30) tb4_7 rfl rfl (vo HT_.out (by kernel_rfl)) (fun _ _ _ h => h) (.inl ⟨by rfl, by intro w'; go_simp; with_reducible rfl⟩) (by simp only [Act.put, sA, sB, sC, qw, qx]; rfl) ?_
            refine vJ (i := 3) (N := some 26) tb4_8 rfl rfl (zu HT_.out HW_.out (by kernel_rfl)) (fun _ _ _ h => h) (.inl ⟨by rfl, by rintro w' ⟨s0, s1, s2, s3, s4, s5⟩; go_simp; with_reducible rfl⟩) hHeld (by simp only [Act.put, sA, sB, sC, qw, qx]; rfl) ?_
            refine vJ (i := 8) (N := some 31) tb4_9 rfl rfl (zu HT_.out HW_.out (by kernel_rfl)) (fun _ _ _ h => h) (.inl ⟨by rfl, by rintro w' ⟨s0, s1, s2, s3, s4, s5⟩; go_simp; with_reducible rfl⟩) hHeld (by simp only [Act.put, sA, sB, sC, qw, qx]; rfl) ?_
            refine one_ (i := 9) (N := some 32) tb4_10 rfl rfl (zU HT_.out (by kernel_rfl)) (by decide) (fun K hK => ?_)
            refine jI Try.func82 (by kernel_rfl) rfl #[.agg #[.int .i64 ((qc l0_2 x4_1).f0), .int .i64 ((qc l0_2 x4_1).f1), .int .i64 ((qc l0_2 x4_1).f2)], .agg #[.int .i64 ((qc x3_1 (ji16)).f0), .int .i64 ((qc x3_1 (ji16)).f1), .int .i64 ((qc x3_1 (ji16)).f2)]] (by rfl) rfl rfl (by (try simp only [List.map_toArray, List.map_cons, List.map_nil]); first | done | (simp only [hji16]; rfl) | rfl | (simp only [List.length_drop, List.length_take]; rfl)) ?_
            with_reducible refine (vw.calls ((qc l0_2 x4_1).f0) ((qc l0_2 x4_1).f1) ((qc l0_2 x4_1).f2) ((qc x3_1 (ji16)).f0) ((qc x3_1 (ji16)).f1) ((qc x3_1 (ji16)).f2) false _ A19.out).mono ?_
            rintro e w25 ⟨rfl, hb⟩
            have HS3_ := (hb.cell (World.block_lt_of_cell? _ _ (hHeld.2.2.2.1))).trans (hHeld.2.2.2.1)
            have HS4_ := (hb.cell (World.block_lt_of_cell? _ _ (hHeld.2.2.2.2.1))).trans (hHeld.2.2.2.2.1)
            have HS5_ := (hb.cell (World.block_lt_of_cell? _ _ (hHeld.2.2.2.2.2))).trans (hHeld.2.2.2.2.2)
            refine ⟨_, rfl, ?_⟩
            have n0_ := qa.mk (Kd.qL (by (with_reducible repeat (first | apply Kd.R_alloc | apply Kd.qo | apply Kd.qz)); exact HO_3.out) hb)
            have n1_ := qa.mk (Kd.zf (by (with_reducible repeat (first | apply Kd.V_alloc | apply Kd.V_drewN | apply Kd.vg)); exact HO_684001.out) hb)
            have n2_ := qa.mk (qB (g := gb683) (o := .cells #[.int .i64 a0_0, .slice A0_1 l0_1.length c0_1, .slice (some ad688) l0_2.length c0_2] 25 (0, 0)) (by (with_reducible repeat (first | refine qi ?_ _ | refine ql ?_ | refine qh ?_ _)); exact BK683.out) hb)
            have n3_ := qa.mk (qB (g := gb684) (o := .cells #[.int .i64 0, .slice none 0 0, .slice none 0 0] 25 (0, 0)) (by (with_reducible repeat (first | refine qi ?_ _ | refine ql ?_ | refine qh ?_ _)); exact BK684.out) hb)
            have n4_ := qa.mk (qB (g := gb689) (o := .cells #[.int .i64 ((qc l0_2 x4_1).f0), .int .i64 ((qc l0_2 x4_1).f1), .int .i64 ((qc l0_2 x4_1).f2)] 55 (0, 0)) (by (with_reducible repeat (first | refine qi ?_ _ | refine ql ?_ | refine qh ?_ _)); exact BK689.out) hb)
            have n5_ := qa.mk (qD (by repeat (first | (with_reducible first | exact HB.out | apply qg | apply qb | apply qf | refine qd ?_ GE683.out | refine qd ?_ GE684.out | refine qd ?_ GE689.out) | exact HB.out)) hb)
            clear HO_3
            clear HO_684001
            clear BK683
            clear BK684
            clear BK689
            clear HB
            have HO_3 := n0_
            have HO_684001 := n1_
            have BK683 := n2_
            have BK684 := n3_
            have BK689 := n4_
            have HB := n5_
            clear n0_ n1_ n2_ n3_ n4_ n5_
            (try clear hb)
            (try clear hb2)
            (try clear hk)
            (try clear hi)
            refine hK.out _ _ ⟨(qj BK689.out 0).trans rfl, (qj BK689.out 1).trans rfl, (qj BK689.out 2).trans rfl, HS3_, HS4_, HS5_⟩ (fun hHeld => ?_)
            clear hK K
            refine zo (a' := ?_) ?_ ?_
            rotate_left
            ·show Act.put _ (some 32) _ = _
             simp only [Act.put, sA, sB, sC, qw, qx]
             rfl
            refine qy (i := 10) (N := some 33) tb4_11 rfl rfl (vo HT_.out (by kernel_rfl)) (fun _ _ _ h => h) (.inl ⟨by rfl, by intro w'; go_simp; with_reducible rfl⟩) (by simp only [Act.put, sA, sB, sC, qw, qx]; rfl) ?_
            refine zP (wO HT_.out (by kernel_rfl)) ?_
            try go_wp2
            have n0_ := qa.mk (Kd.qz HO_3.out)
            have n1_ := qa.mk (Kd.vg HO_684001.out)
            have n2_ := qa.mk (ql BK683.out)
            have n3_ := qa.mk (ql BK684.out)
            have n4_ := qa.mk (ql BK689.out)
            have n5_ := qa.mk (qf HB.out)
            clear HO_3
            clear HO_684001
            clear BK683
            clear BK684
            clear BK689
            clear HB
            have HO_3 := n0_
            have HO_684001 := n1_
            have BK683 := n2_
            have BK684 := n3_
            have BK689 := n4_
            have HB := n5_
            clear n0_ n1_ n2_ n3_ n4_ n5_
            have p692 : 0 ≤ ((ji16) : Int) := of_decide_eq_true (by first | (with_reducible assumption) | assumption)
            have q692 : (ji16) < (x3_1.length : Int) := of_decide_eq_true (by first | (with_reducible assumption) | assumption)
            obtain ⟨ad692, e692, hx692_0, hx692_1, hx692_2⟩ := vU (Kd.qH HO_3.out).2.2 (ji16) p692 q692
            obtain rfl : ad690 = ad692 := (by injection e692)
            replace p692 := eq_true p692
            replace q692 := eq_true q692
            refine zI (n := 11) (S := fun w' => w'.cell? ⟨gb689, 0, none⟩ = some (.int .i64 ((qc l0_2 x4_1).f0)) ∧ w'.cell? ⟨gb689, 1, none⟩ = some (.int .i64 ((qc l0_2 x4_1).f1)) ∧ w'.cell? ⟨gb689, 2, none⟩ = some (.int .i64 ((qc l0_2 x4_1).f2)) ∧ w'.cell? (ad690.add (((ji16)).toNat * 3)) = some (.int .i64 ((qc x3_1 (ji16)).f0)) ∧ w'.cell? ⟨(ad690.add (((ji16)).toNat * 3)).block, (ad690.add (((ji16)).toNat * 3)).off + 1, none⟩ = some (.int .i64 ((qc x3_1 (ji16)).f1)) ∧ w'.cell? ⟨(ad690.add (((ji16)).toNat * 3)).block, (ad690.add (((ji16)).toNat * 3)).off + 2, none⟩ = some (.int .i64 ((qc x3_1 (ji16)).f2))) (ds := []) tb4_0 (by kernel_rfl) rfl rfl ⟨(qj BK689.out 0).trans rfl, (qj BK689.out 1).trans rfl, (qj BK689.out 2).trans rfl, hx692_0, hx692_1, hx692_2⟩ (fun hHeld => ?_); refine zS qp.tab9 qp.bits9 (fun HT_ HW_ => ?_)
            generalize w25.drew = w26 at HO_3 HO_684001 BK683 BK684 BK689 HB hx692_0 hx692_1 hx692_2 hHeld ⊢
            refine qy (i := 0) (N := some 36) tb4_1 rfl rfl (vo HT_.out (by kernel_rfl)) (fun _ _ _ h => h) (.inl ⟨by rfl, by intro w'; go_simp; with_reducible rfl⟩) (by simp only [Act.put, sA, sB, sC, qw, qx]; rfl) ?_
            refine qy (i := 1) (N := some 37) tb4_2 rfl rfl (vo HT_.out (by kernel_rfl)) (fun _ _ _ h => h) (.inl ⟨by rfl, by intro w'; go_simp; with_reducible rfl⟩) (by simp only [Act.put, sA, sB, sC, qw, qx]; rfl) ?_
            refine qy (i := 2) (N := some 38) tb4_3 rfl rfl (vo HT_.out (by kernel_rfl)) (fun _ _ _ h => h) (.inl ⟨by rfl, by intro w'; go_simp; with_reducible rfl⟩) (by simp only [Act.put, sA, sB, sC, qw, qx]; rfl) ?_
            refine qy (i := 3) (N := some 39) tb4_12 rfl rfl (vo HT_.out (by kernel_rfl)) (fun _ _ _ h => h) (.inl ⟨by rfl, by intro w'; go_simp; with_reducible rfl⟩) (by simp only [Act.put, sA, sB, sC, qw, qx]; rfl) ?_
            refine qy (i := 4) (N := some 40) tb4_13 rfl rfl (vo HT_.out (by kernel_rfl)) (fun _ _ _ h => h) (.inl ⟨by rfl, by intro w'; go_simp; with_reducible rfl⟩) (by simp only [Act.put, sA, sB, sC, qw, qx]; rfl) ?_
            refine qy (i := 5) (N := some 41) tb4_14 rfl rfl (vo HT_.out (by kernel_rfl)) (fun _ _ _ h => h) (.inl ⟨by rfl, by intro w'; go_simp; with_reducible rfl⟩) (by simp only [Act.put, sA, sB, sC, qw, qx]; rfl) ?_
            refine qy (i := 6) (N := some 42) tb4_15 rfl rfl (vo HT_.out (by kernel_rfl)) (fun _ _ _ h => h) (.inl ⟨by rfl, by intro w'; go_simp; with_reducible rfl⟩) (by simp only [Act.put, sA, sB, sC, qw, qx]; rfl) ?_
            refine vJ (i := 7) (N := some 43) tb4_8 rfl rfl (zu HT_.out HW_.out (by kernel_rfl)) (fun _ _ _ h => h) (.inl ⟨by rfl, by rintro w' ⟨s0, s1, s2, s3, s4, s5⟩; go_simp; with_reducible rfl⟩) hHeld (by simp only [Act.put, sA, sB, sC, qw, qx]; rfl) ?_
            refine vJ (i := 8) (N := some 44) tb4_9 rfl rfl (zu HT_.out HW_.out (by kernel_rfl)) (fun _ _ _ h => h) (.inl ⟨by rfl, by rintro w' ⟨s0, s1, s2, s3, s4, s5⟩; go_simp; with_reducible rfl⟩) hHeld (by simp only [Act.put, sA, sB, sC, qw, qx]; rfl) ?_
            refine qy (i := 9) (N := some 45) tb4_10 rfl rfl (vo HT_.out (by kernel_rfl)) (fun _ _ _ h => h) (.inl ⟨by rfl, by intro w'; go_simp; with_reducible rfl⟩) (by simp only [Act.put, sA, sB, sC, qw, qx]; rfl) ?_
            refine qy (i := 10) (N := some 46) tb4_11 rfl rfl (vo HT_.out (by kernel_rfl)) (fun _ _ _ h => h) (.inl ⟨by rfl, by intro w'; go_simp; with_reducible rfl⟩) (by simp only [Act.put, sA, sB, sC, qw, qx]; rfl) ?_
            refine zP (wO HT_.out (by kernel_rfl)) ?_
            try go_wp2
            go_roundg k2
            case measure => have := HK1.out; have := HK2.out; omega
            case rel => exact ⟨(x3_1), (wrap64 (x4_1 + 1)), (by first | rfl | (simp; done) | (simp [*]; done)), H', ⟨by have := HK1.out; have := HK2.out; omega⟩, ⟨by (with_reducible repeat (first | apply Kd.R_alloc | apply Kd.qo | apply Kd.qz)); exact Kd.qW HO_3.out (fun _ hk => hk.1)⟩, ⟨by (with_reducible repeat (first | apply Kd.V_alloc | apply Kd.V_drewN | apply Kd.vg)); exact Kd.zg HO_684001.out (fun _ hk => ⟨hk.1, ⟨hk.2.1, ⟨hk.2.2.1, hk.2.2.2.1⟩⟩⟩)⟩, ⟨by (with_reducible repeat (first | refine qi ?_ _ | refine ql ?_ | refine qh ?_ _)); exact BK683.out⟩, ⟨by (with_reducible repeat (first | refine qi ?_ _ | refine ql ?_ | refine qh ?_ _)); exact BK684.out⟩, ⟨by repeat (first | (with_reducible first | exact HB.out | apply qg | apply qb | apply qf | refine qd ?_ GE683.out | refine qd ?_ GE684.out | refine qd ?_ GE689.out) | exact HB.out)⟩⟩
           ·rw [if_neg c23] at H
            have c23b0 : (((qc x3_1 (ji16)).f0) == ((qc l0_2 x4_1).f0) && (((qc x3_1 (ji16)).f1) == ((qc l0_2 x4_1).f1) && (((qc x3_1 (ji16)).f2) == ((qc l0_2 x4_1).f2)))) = false := by simpa using c23
            (try (have c23b1 : decide (((qc x3_1 (ji16)).f0) = ((qc l0_2 x4_1).f0) && (((qc x3_1 (ji16)).f1) == ((qc l0_2 x4_1).f1) && (((qc x3_1 (ji16)).f2) == ((qc l0_2 x4_1).f2)))) = false := by simpa using c23))
            (try (have c23b2 : (((qc x3_1 (ji16)).f0) == ((qc l0_2 x4_1).f0) && (((qc x3_1 (ji16)).f1) == ((qc l0_2 x4_1).f1) && (((qc x3_1 (ji16)).f2) == ((qc l0_2 x4_1).f2)))) = false := by simpa using c23))
            (try (have c23b3 : ¬ (((qc x3_1 (ji16)).f0) = ((qc l0_2 x4_1).f0) && (((qc x3_1 (ji16)).f1) == ((qc l0_2 x4_1).f1) && (((qc x3_1 (ji16)).f2) == ((qc l0_2 x4_1).f2)))) := by simpa using c23))
            clear c23
            obtain ⟨y693, hy693⟩ : ∃ y_ : List (S55), y_ = (([] : List (S55))) := ⟨_, rfl⟩
            replace H : (if 0 ≤ x6_2 then (if x6_2 ≤ (x3_1.length : Int) then ((some (x3_1.drop (x6_2 : Int).toNat : List (S55))).bind fun y696 => (if y693.length + y696.length < 5864062014805 then ((some (y693 ++ y696 : List (S55))).bind fun y700 => ((some (([] : List (S55)) : List (S55))).bind fun y703 => ((some (x3_1.take (x6_2 : Int).toNat : List (S55))).bind fun y706 => (if y703.length + y706.length < 5864062014805 then ((some (y703 ++ y706 : List (S55))).bind fun y710 => ((some (([(⟨((qc l0_2 x4_1).f0), ((qc l0_2 x4_1).f1), ((qc l0_2 x4_1).f2)⟩ : S55)] : List (S55)) : List (S55))).bind fun y713 => (if y710.length + y713.length < 5864062014805 then ((some (y710 ++ y713 : List (S55))).bind fun y716 => (if y716.length + y700.length < 5864062014805 then (qp.l0 k2 (y716 ++ y700) (wrap64 (x4_1 + 1)) a0_0 l0_1 l0_2) else (none))) else (none)))) else (none))))) else (none))) else (none)) else (none)) = some (r1, r2, r3) := by first | (rw [hy693]; with_reducible exact H) | (have H2_ := (Option.bind_some _ _).symm.trans H; rw [hy693]; with_reducible exact H2_) | (have H2_ := (Option.bind_some _ _).symm.trans H; with_reducible exact H2_) | with_reducible exact H | (rw [hy693]; exact H) | exact H
            have Ny693 := qa.mk hy693
            clear hy693
            by_cases c27 : 0 ≤ x6_2
            ·rw [if_pos c27] at H
             have c27b0 := eq_true c27
             have c27b1 : decide (0 ≤ x6_2) = true := decide_eq_true c27
             clear c27
             by_cases c28 : x6_2 ≤ (x3_1.length : Int)
             ·rw [if_pos c28] at H
              have c28b0 := eq_true c28
              have c28b1 : decide (x6_2 ≤ (x3_1.length : Int)) = true := decide_eq_true c28
              clear c28
              obtain ⟨y696, hy696⟩ : ∃ y_ : List (S55), y_ = (x3_1.drop (x6_2 : Int).toNat) := ⟨_, rfl⟩
              replace H : (if y693.length + y696.length < 5864062014805 then ((some (y693 ++ y696 : List (S55))).bind fun y700 => ((some (([] : List (S55)) : List (S55))).bind fun y703 => ((some (x3_1.take (x6_2 : Int).toNat : List (S55))).bind fun y706 => (if y703.length + y706.length < 5864062014805 then ((some (y703 ++ y706 : List (S55))).bind fun y710 => ((some (([(⟨((qc l0_2 x4_1).f0), ((qc l0_2 x4_1).f1), ((qc l0_2 x4_1).f2)⟩ : S55)] : List (S55)) : List (S55))).bind fun y713 => (if y710.length + y713.length < 5864062014805 then ((some (y710 ++ y713 : List (S55))).bind fun y716 => (if y716.length + y700.length < 5864062014805 then (qp.l0 k2 (y716 ++ y700) (wrap64 (x4_1 + 1)) a0_0 l0_1 l0_2) else (none))) else (none)))) else (none))))) else (none)) = some (r1, r2, r3) := by first | (rw [hy696]; with_reducible exact H) | (have H2_ := (Option.bind_some _ _).symm.trans H; rw [hy696]; with_reducible exact H2_) | (have H2_ := (Option.bind_some _ _).symm.trans H; with_reducible exact H2_) | with_reducible exact H | (rw [hy696]; exact H) | exact H
              have Ny696 := qa.mk hy696
              clear hy696
              by_cases c29 : y693.length + y696.length < 5864062014805
              ·rw [if_pos c29] at H
               have LMc29 := qa.mk c29
               clear c29
               obtain ⟨y700, hy700⟩ : ∃ y_ : List (S55), y_ = (y693 ++ y696) := ⟨_, rfl⟩
               replace H : ((some (([] : List (S55)) : List (S55))).bind fun y703 => ((some (x3_1.take (x6_2 : Int).toNat : List (S55))).bind fun y706 => (if y703.length + y706.length < 5864062014805 then ((some (y703 ++ y706 : List (S55))).bind fun y710 => ((some (([(⟨((qc l0_2 x4_1).f0), ((qc l0_2 x4_1).f1), ((qc l0_2 x4_1).f2)⟩ : S55)] : List (S55)) : List (S55))).bind fun y713 => (if y710.length + y713.length < 5864062014805 then ((some (y710 ++ y713 : List (S55))).bind fun y716 => (if y716.length + y700.length < 5864062014805 then (qp.l0 k2 (y716 ++ y700) (wrap64 (x4_1 + 1)) a0_0 l0_1 l0_2) else (none))) else (none)))) else (none)))) = some (r1, r2, r3) := by first | (rw [hy700]; with_reducible exact H) | (have H2_ := (Option.bind_some _ _).symm.trans H; rw [hy700]; with_reducible exact H2_) | (have H2_ := (Option.bind_some _ _).symm.trans H; with_reducible exact H2_) | with_reducible exact H | (rw [hy700]; exact H) | exact H
               have Ny700 := qa.mk hy700
               clear hy700
               obtain ⟨y703, hy703⟩ : ∃ y_ : List (S55), y_ = (([] : List (S55))) := ⟨_, rfl⟩
               replace H : ((some (x3_1.take (x6_2 : Int).toNat : List (S55))).bind fun y706 => (if y703.length + y706.length < 5864062014805 then ((some (y703 ++ y706 : List (S55))).bind fun y710 => ((some (([(⟨((qc l0_2 x4_1).f0), ((qc l0_2 x4_1).f1), ((qc l0_2 x4_1).f2)⟩ : S55)] : List (S55)) : List (S55))).bind fun y713 => (if y710.length + y713.length < 5864062014805 then ((some (y710 ++ y713 : List (S55))).bind fun y716 => (if y716.length + y700.length < 5864062014805 then (qp.l0 k2 (y716 ++ y700) (wrap64 (x4_1 + 1)) a0_0 l0_1 l0_2) else (none))) else (none)))) else (none))) = some (r1, r2, r3) := by first | (rw [hy703]; with_reducible exact H) | (have H2_ := (Option.bind_some _ _).symm.trans H; rw [hy703]; with_reducible exact H2_) | (have H2_ := (Option.bind_some _ _).symm.trans H; with_reducible exact H2_) | with_reducible exact H | (rw [hy703]; exact H) | exact H
               have Ny703 := qa.mk hy703
               clear hy703
               have c30b0 := eq_true (of_decide_eq_true (by first | (with_reducible assumption) | assumption) : 0 ≤ x6_2)
               have c31b0 := eq_true (of_decide_eq_true (by first | (with_reducible assumption) | assumption) : x6_2 ≤ (x3_1.length : Int))
               obtain ⟨y706, hy706⟩ : ∃ y_ : List (S55), y_ = (x3_1.take (x6_2 : Int).toNat) := ⟨_, rfl⟩
               replace H : (if y703.length + y706.length < 5864062014805 then ((some (y703 ++ y706 : List (S55))).bind fun y710 => ((some (([(⟨((qc l0_2 x4_1).f0), ((qc l0_2 x4_1).f1), ((qc l0_2 x4_1).f2)⟩ : S55)] : List (S55)) : List (S55))).bind fun y713 => (if y710.length + y713.length < 5864062014805 then ((some (y710 ++ y713 : List (S55))).bind fun y716 => (if y716.length + y700.length < 5864062014805 then (qp.l0 k2 (y716 ++ y700) (wrap64 (x4_1 + 1)) a0_0 l0_1 l0_2) else (none))) else (none)))) else (none)) = some (r1, r2, r3) := by first | (rw [hy706]; with_reducible exact H) | (have H2_ := (Option.bind_some _ _).symm.trans H; rw [hy706]; with_reducible exact H2_) | (have H2_ := (Option.bind_some _ _).symm.trans H; with_reducible exact H2_) | with_reducible exact H | (rw [hy706]; exact H) | exact H
               have Ny706 := qa.mk hy706
               clear hy706
               by_cases c32 : y703.length + y706.length < 5864062014805
               ·rw [if_pos c32] at H
                have LMc32 := qa.mk c32
                clear c32
                obtain ⟨y710, hy710⟩ : ∃ y_ : List (S55), y_ = (y703 ++ y706) := ⟨_, rfl⟩
                replace H : ((some (([(⟨((qc l0_2 x4_1).f0), ((qc l0_2 x4_1).f1), ((qc l0_2 x4_1).f2)⟩ : S55)] : List (S55)) : List (S55))).bind fun y713 => (if y710.length + y713.length < 5864062014805 then ((some (y710 ++ y713 : List (S55))).bind fun y716 => (if y716.length + y700.length < 5864062014805 then (qp.l0 k2 (y716 ++ y700) (wrap64 (x4_1 + 1)) a0_0 l0_1 l0_2) else (none))) else (none))) = some (r1, r2, r3) := by first | (rw [hy710]; with_reducible exact H) | (have H2_ := (Option.bind_some _ _).symm.trans H; rw [hy710]; with_reducible exact H2_) | (have H2_ := (Option.bind_some _ _).symm.trans H; with_reducible exact H2_) | with_reducible exact H | (rw [hy710]; exact H) | exact H
                have Ny710 := qa.mk hy710
                clear hy710
                obtain ⟨y713, hy713⟩ : ∃ y_ : List (S55), y_ = (([(⟨((qc l0_2 x4_1).f0), ((qc l0_2 x4_1).f1), ((qc l0_2 x4_1).f2)⟩ : S55)] : List (S55))) := ⟨_, rfl⟩
                replace H : (if y710.length + y713.length < 5864062014805 then ((some (y710 ++ y713 : List (S55))).bind fun y716 => (if y716.length + y700.length < 5864062014805 then (qp.l0 k2 (y716 ++ y700) (wrap64 (x4_1 + 1)) a0_0 l0_1 l0_2) else (none))) else (none)) = some (r1, r2, r3) := by first | (rw [hy713]; with_reducible exact H) | (have H2_ := (Option.bind_some _ _).symm.trans H; rw [hy713]; with_reducible exact H2_) | (have H2_ := (Option.bind_some _ _).symm.trans H; with_reducible exact H2_) | with_reducible exact H | (rw [hy713]; exact H) | exact H
                have Ny713 := qa.mk hy713
                clear hy713
                by_cases c33 : y710.length + y713.length < 5864062014805
                ·rw [if_pos c33] at H
                 have LMc33 := qa.mk c33
                 clear c33
                 obtain ⟨y716, hy716⟩ : ∃ y_ : List (S55), y_ = (y710 ++ y713) := ⟨_, rfl⟩
                 replace H : (if y716.length + y700.length < 5864062014805 then (qp.l0 k2 (y716 ++ y700) (wrap64 (x4_1 + 1)) a0_0 l0_1 l0_2) else (none)) = some (r1, r2, r3) := by first | (rw [hy716]; with_reducible exact H) | (have H2_ := (Option.bind_some _ _).symm.trans H; rw [hy716]; with_reducible exact H2_) | (have H2_ := (Option.bind_some _ _).symm.trans H; with_reducible exact H2_) | with_reducible exact H | (rw [hy716]; exact H) | exact H
                 have Ny716 := qa.mk hy716
                 clear hy716
                 by_cases c34 : y716.length + y700.length < 5864062014805
                 ·rw [if_pos c34] at H
                  have LMc34 := qa.mk c34
                  clear c34
                  obtain ⟨y719, hy719⟩ : ∃ y_ : List (S55), y_ = (y716 ++ y700) := ⟨_, rfl⟩
                  replace H : (qp.l0 k2 y719 (wrap64 (x4_1 + 1)) a0_0 l0_1 l0_2) = some (r1, r2, r3) := by first | (rw [hy719]; with_reducible exact H) | (have H2_ := (Option.bind_some _ _).symm.trans H; rw [hy719]; with_reducible exact H2_) | (have H2_ := (Option.bind_some _ _).symm.trans H; with_reducible exact H2_) | with_reducible exact H | (rw [hy719]; exact H) | exact H
                  have Ny719 := qa.mk hy719
                  clear hy719
                  have H' := qa.mk H
                  clear H
                  try go_wp2
                  have n0_ := qa.mk (Kd.qz HO_3.out)
                  have n1_ := qa.mk (Kd.vg HO_684001.out)
                  have n2_ := qa.mk (ql BK683.out)
                  have n3_ := qa.mk (ql BK684.out)
                  have n4_ := qa.mk (ql BK689.out)
                  have n5_ := qa.mk (qf HB.out)
                  clear HO_3
                  clear HO_684001
                  clear BK683
                  clear BK684
                  clear BK689
                  clear HB
                  have HO_3 := n0_
                  have HO_684001 := n1_
                  have BK683 := n2_
                  have BK684 := n3_
                  have BK689 := n4_
                  have HB := n5_
                  clear n0_ n1_ n2_ n3_ n4_ n5_
                  have p690 : 0 ≤ ((ji16) : Int) := of_decide_eq_true (by first | (with_reducible assumption) | assumption)
                  have q690 : (ji16) < (x3_1.length : Int) := of_decide_eq_true (by first | (with_reducible assumption) | assumption)
                  obtain ⟨ad690, e690, hx690_0, hx690_1, hx690_2⟩ := vU (Kd.qH HO_3.out).2.2 (ji16) p690 q690
                  cases e690
                  replace p690 := eq_true p690
                  replace q690 := eq_true q690
                  refine zI (n := 11) (S := fun w' => w'.cell? ⟨gb689, 0, none⟩ = some (.int .i64 ((qc l0_2 x4_1).f0)) ∧ w'.cell? ⟨gb689, 1, none⟩ = some (.int .i64 ((qc l0_2 x4_1).f1)) ∧ w'.cell? ⟨gb689, 2, none⟩ = some (.int .i64 ((qc l0_2 x4_1).f2)) ∧ w'.cell? (ad690.add (((ji16)).toNat * 3)) = some (.int .i64 ((qc x3_1 (ji16)).f0)) ∧ w'.cell? ⟨(ad690.add (((ji16)).toNat * 3)).block, (ad690.add (((ji16)).toNat * 3)).off + 1, none⟩ = some (.int .i64 ((qc x3_1 (ji16)).f1)) ∧ w'.cell? ⟨(ad690.add (((ji16)).toNat * 3)).block, (ad690.add (((ji16)).toNat * 3)).off + 2, none⟩ = some (.int .i64 ((qc x3_1 (ji16)).f2))) (ds := []) tb4_0 (by kernel_rfl) rfl rfl ⟨(qj BK689.out 0).trans rfl, (qj BK689.out 1).trans rfl, (qj BK689.out 2).trans rfl, hx690_0, hx690_1, hx690_2⟩ (fun hHeld => ?_); refine zS qp.tab7 qp.bits7 (fun HT_ HW_ => ?_)
                  generalize wr.drew = w35 at HO_3 HO_684001 BK683 BK684 BK689 HB hx690_0 hx690_1 hx690_2 hHeld ⊢
                  refine qy (i := 0) (N := some 23) tb4_1 rfl rfl (vo HT_.out (by kernel_rfl)) (fun _ _ _ h => h) (.inl ⟨by rfl, by intro w'; go_simp; with_reducible rfl⟩) (by simp only [Act.put, sA, sB, sC, qw, qx]; rfl) ?_
                  refine qy (i := 1) (N := some 24) tb4_2 rfl rfl (vo HT_.out (by kernel_rfl)) (fun _ _ _ h => h) (.inl ⟨by rfl, by intro w'; go_simp; with_reducible rfl⟩) (by simp only [Act.put, sA, sB, sC, qw, qx]; rfl) ?_
                  refine qy (i := 2) (N := some 25) tb4_3 rfl rfl (vo HT_.out (by kernel_rfl)) (fun _ _ _ h => h) (.inl ⟨by rfl, by intro w'; go_simp; with_reducible rfl⟩) (by simp only [Act.put, sA, sB, sC, qw, qx]; rfl) ?_
                  refine qy (i := 4) (N := some 27) tb4_4 rfl rfl (vo HT_.out (by kernel_rfl)) (fun _ _ _ h => h) (.inl ⟨by rfl, by intro w'; go_simp; with_reducible rfl⟩) (by simp only [Act.put, sA, sB, sC, qw, qx]; rfl) ?_
                  refine qy (i := 5) (N := some 28) tb4_5 rfl rfl (vo HT_.out (by kernel_rfl)) (fun _ _ _ h => h) (.inl ⟨by rfl, by intro w'; go_simp; with_reducible rfl⟩) (by simp only [Act.put, sA, sB, sC, qw, qx]; rfl) ?_
                  refine qy (i := 6) (N := some 29) tb4_6 rfl rfl (vo HT_.out (by kernel_rfl)) (fun _ _ _ h => h) (.inl ⟨by rfl, by intro w'; go_simp; with_reducible rfl⟩) (by simp only [Act.put, sA, sB, sC, qw, qx]; rfl) ?_
                  refine qy (i := 7) (N := some 30) tb4_7 rfl rfl (vo HT_.out (by kernel_rfl)) (fun _ _ _ h => h) (.inl ⟨by rfl, by intro w'; go_simp; with_reducible rfl⟩) (by simp only [Act.put, sA, sB, sC, qw, qx]; rfl) ?_
                  refine vJ (i := 3) (N := some 26) tb4_8 rfl rfl (zu HT_.out HW_.out (by kernel_rfl)) (fun _ _ _ h => h) (.inl ⟨by rfl, by rintro w' ⟨s0, s1, s2, s3, s4, s5⟩; go_simp; with_reducible rfl⟩) hHeld (by simp only [Act.put, sA, sB, sC, qw, qx]; rfl) ?_
                  refine vJ (i := 8) (N := some 31) tb4_9 rfl rfl (zu HT_.out HW_.out (by kernel_rfl)) (fun _ _ _ h => h) (.inl ⟨by rfl, by rintro w' ⟨s0, s1, s2, s3, s4, s5⟩; go_simp; with_reducible rfl⟩) hHeld (by simp only [Act.put, sA, sB, sC, qw, qx]; rfl) ?_
                  refine one_ (i := 9) (N := some 32) tb4_10 rfl rfl (zU HT_.out (by kernel_rfl)) (by decide) (fun K hK => ?_)
                  refine jI Try.func82 (by kernel_rfl) rfl #[.agg #[.int .i64 ((qc l0_2 x4_1).f0), .int .i64 ((qc l0_2 x4_1).f1), .int .i64 ((qc l0_2 x4_1).f2)], .agg #[.int .i64 ((qc x3_1 (ji16)).f0), .int .i64 ((qc x3_1 (ji16)).f1), .int .i64 ((qc x3_1 (ji16)).f2)]] (by rfl) rfl rfl (by (try simp only [List.map_toArray, List.map_cons, List.map_nil]); first | done | (simp only [hji16]; rfl) | rfl | (simp only [List.length_drop, List.length_take]; rfl)) ?_
                  with_reducible refine (vw.calls ((qc l0_2 x4_1).f0) ((qc l0_2 x4_1).f1) ((qc l0_2 x4_1).f2) ((qc x3_1 (ji16)).f0) ((qc x3_1 (ji16)).f1) ((qc x3_1 (ji16)).f2) false _ A19.out).mono ?_
                  rintro e w36 ⟨rfl, hb⟩
                  have HS3_ := (hb.cell (World.block_lt_of_cell? _ _ (hHeld.2.2.2.1))).trans (hHeld.2.2.2.1)
                  have HS4_ := (hb.cell (World.block_lt_of_cell? _ _ (hHeld.2.2.2.2.1))).trans (hHeld.2.2.2.2.1)
                  have HS5_ := (hb.cell (World.block_lt_of_cell? _ _ (hHeld.2.2.2.2.2))).trans (hHeld.2.2.2.2.2)
                  refine ⟨_, rfl, ?_⟩
                  have n0_ := qa.mk (Kd.qL (by (with_reducible repeat (first | apply Kd.R_alloc | apply Kd.qo | apply Kd.qz)); exact HO_3.out) hb)
                  have n1_ := qa.mk (Kd.zf (by (with_reducible repeat (first | apply Kd.V_alloc | apply Kd.V_drewN | apply Kd.vg)); exact HO_684001.out) hb)
                  have n2_ := qa.mk (qB (g := gb683) (o := .cells #[.int .i64 a0_0, .slice A0_1 l0_1.length c0_1, .slice (some ad688) l0_2.length c0_2] 25 (0, 0)) (by (with_reducible repeat (first | refine qi ?_ _ | refine ql ?_ | refine qh ?_ _)); exact BK683.out) hb)
                  have n3_ := qa.mk (qB (g := gb684) (o := .cells #[.int .i64 0, .slice none 0 0, .slice none 0 0] 25 (0, 0)) (by (with_reducible repeat (first | refine qi ?_ _ | refine ql ?_ | refine qh ?_ _)); exact BK684.out) hb)
                  have n4_ := qa.mk (qB (g := gb689) (o := .cells #[.int .i64 ((qc l0_2 x4_1).f0), .int .i64 ((qc l0_2 x4_1).f1), .int .i64 ((qc l0_2 x4_1).f2)] 55 (0, 0)) (by (with_reducible repeat (first | refine qi ?_ _ | refine ql ?_ | refine qh ?_ _)); exact BK689.out) hb)
                  have n5_ := qa.mk (qD (by repeat (first | (with_reducible first | exact HB.out | apply qg | apply qb | apply qf | refine qd ?_ GE683.out | refine qd ?_ GE684.out | refine qd ?_ GE689.out) | exact HB.out)) hb)
                  clear HO_3
                  clear HO_684001
                  clear BK683
                  clear BK684
                  clear BK689
                  clear HB
                  have HO_3 := n0_
                  have HO_684001 := n1_
                  have BK683 := n2_
                  have BK684 := n3_
                  have BK689 := n4_
                  have HB := n5_
                  clear n0_ n1_ n2_ n3_ n4_ n5_
                  (try clear hb)
                  (try clear hb2)
                  (try clear hk)
                  (try clear hi)
                  refine hK.out _ _ ⟨(qj BK689.out 0).trans rfl, (qj BK689.out 1).trans rfl, (qj BK689.out 2).trans rfl, HS3_, HS4_, HS5_⟩ (fun hHeld => ?_)
                  clear hK K
                  refine zo (a' := ?_) ?_ ?_
                  rotate_left
                  ·show Act.put _ (some 32) _ = _
                   simp only [Act.put, sA, sB, sC, qw, qx]
                   rfl
                  refine qy (i := 10) (N := some 33) tb4_11 rfl rfl (vo HT_.out (by kernel_rfl)) (fun _ _ _ h => h) (.inl ⟨by rfl, by intro w'; go_simp; with_reducible rfl⟩) (by simp only [Act.put, sA, sB, sC, qw, qx]; rfl) ?_
                  refine zP (wO HT_.out (by kernel_rfl)) ?_
                  try go_wp2
                  have n0_ := qa.mk (Kd.qz HO_3.out)
                  have n1_ := qa.mk (Kd.vg HO_684001.out)
                  have n2_ := qa.mk (ql BK683.out)
                  have n3_ := qa.mk (ql BK684.out)
                  have n4_ := qa.mk (ql BK689.out)
                  have n5_ := qa.mk (qf HB.out)
                  clear HO_3
                  clear HO_684001
                  clear BK683
                  clear BK684
                  clear BK689
                  clear HB
                  have HO_3 := n0_
                  have HO_684001 := n1_
                  have BK683 := n2_
                  have BK684 := n3_
                  have BK689 := n4_
                  have HB := n5_
                  clear n0_ n1_ n2_ n3_ n4_ n5_
                  have p692 : 0 ≤ ((ji16) : Int) := of_decide_eq_true (by first | (with_reducible assumption) | assumption)
                  have q692 : (ji16) < (x3_1.length : Int) := of_decide_eq_true (by first | (with_reducible assumption) | assumption)
                  obtain ⟨ad692, e692, hx692_0, hx692_1, hx692_2⟩ := vU (Kd.qH HO_3.out).2.2 (ji16) p692 q692
                  obtain rfl : ad690 = ad692 := (by injection e692)
                  replace p692 := eq_true p692
                  replace q692 := eq_true q692
                  refine zI (n := 11) (S := fun w' => w'.cell? ⟨gb689, 0, none⟩ = some (.int .i64 ((qc l0_2 x4_1).f0)) ∧ w'.cell? ⟨gb689, 1, none⟩ = some (.int .i64 ((qc l0_2 x4_1).f1)) ∧ w'.cell? ⟨gb689, 2, none⟩ = some (.int .i64 ((qc l0_2 x4_1).f2)) ∧ w'.cell? (ad690.add (((ji16)).toNat * 3)) = some (.int .i64 ((qc x3_1 (ji16)).f0)) ∧ w'.cell? ⟨(ad690.add (((ji16)).toNat * 3)).block, (ad690.add (((ji16)).toNat * 3)).off + 1, none⟩ = some (.int .i64 ((qc x3_1 (ji16)).f1)) ∧ w'.cell? ⟨(ad690.add (((ji16)).toNat * 3)).block, (ad690.add (((ji16)).toNat * 3)).off + 2, none⟩ = some (.int .i64 ((qc x3_1 (ji16)).f2))) (ds := []) tb4_0 (by kernel_rfl) rfl rfl ⟨(qj BK689.out 0).trans rfl, (qj BK689.out 1).trans rfl, (qj BK689.out 2).trans rfl, hx692_0, hx692_1, hx692_2⟩ (fun hHeld => ?_); refine zS qp.tab9 qp.bits9 (fun HT_ HW_ => ?_)
                  generalize w36.drew = w37 at HO_3 HO_684001 BK683 BK684 BK689 HB hx692_0 hx692_1 hx692_2 hHeld ⊢
                  refine qy (i := 0) (N := some 36) tb4_1 rfl rfl (vo HT_.out (by kernel_rfl)) (fun _ _ _ h => h) (.inl ⟨by rfl, by intro w'; go_simp; with_reducible rfl⟩) (by simp only [Act.put, sA, sB, sC, qw, qx]; rfl) ?_
                  refine qy (i := 1) (N := some 37) tb4_2 rfl rfl (vo HT_.out (by kernel_rfl)) (fun _ _ _ h => h) (.inl ⟨by rfl, by intro w'; go_simp; with_reducible rfl⟩) (by simp only [Act.put, sA, sB, sC, qw, qx]; rfl) ?_
                  refine qy (i := 2) (N := some 38) tb4_3 rfl rfl (vo HT_.out (by kernel_rfl)) (fun _ _ _ h => h) (.inl ⟨by rfl, by intro w'; go_simp; with_reducible rfl⟩) (by simp only [Act.put, sA, sB, sC, qw, qx]; rfl) ?_
                  refine qy (i := 3) (N := some 39) tb4_12 rfl rfl (vo HT_.out (by kernel_rfl)) (fun _ _ _ h => h) (.inl ⟨by rfl, by intro w'; go_simp; with_reducible rfl⟩) (by simp only [Act.put, sA, sB, sC, qw, qx]; rfl) ?_
                  refine qy (i := 4) (N := some 40) tb4_13 rfl rfl (vo HT_.out (by kernel_rfl)) (fun _ _ _ h => h) (.inl ⟨by rfl, by intro w'; go_simp; with_reducible rfl⟩) (by simp only [Act.put, sA, sB, sC, qw, qx]; rfl) ?_
                  refine qy (i := 5) (N := some 41) tb4_14 rfl rfl (vo HT_.out (by kernel_rfl)) (fun _ _ _ h => h) (.inl ⟨by rfl, by intro w'; go_simp; with_reducible rfl⟩) (by simp only [Act.put, sA, sB, sC, qw, qx]; rfl) ?_
                  refine qy (i := 6) (N := some 42) tb4_15 rfl rfl (vo HT_.out (by kernel_rfl)) (fun _ _ _ h => h) (.inl ⟨by rfl, by intro w'; go_simp; with_reducible rfl⟩) (by simp only [Act.put, sA, sB, sC, qw, qx]; rfl) ?_
                  refine vJ (i := 7) (N := some 43) tb4_8 rfl rfl (zu HT_.out HW_.out (by kernel_rfl)) (fun _ _ _ h => h) (.inl ⟨by rfl, by rintro w' ⟨s0, s1, s2, s3, s4, s5⟩; go_simp; with_reducible rfl⟩) hHeld (by simp only [Act.put, sA, sB, sC, qw, qx]; rfl) ?_
                  refine vJ (i := 8) (N := some 44) tb4_9 rfl rfl (zu HT_.out HW_.out (by kernel_rfl)) (fun _ _ _ h => h) (.inl ⟨by rfl, by rintro w' ⟨s0, s1, s2, s3, s4, s5⟩; go_simp; with_reducible rfl⟩) hHeld (by simp only [Act.put, sA, sB, sC, qw, qx]; rfl) ?_
                  refine qy (i := 9) (N := some 45) tb4_10 rfl rfl (vo HT_.out (by kernel_rfl)) (fun _ _ _ h => h) (.inl ⟨by rfl, by intro w'; go_simp; with_reducible rfl⟩) (by simp only [Act.put, sA, sB, sC, qw, qx]; rfl) ?_
                  refine qy (i := 10) (N := some 46) tb4_11 rfl rfl (vo HT_.out (by kernel_rfl)) (fun _ _ _ h => h) (.inl ⟨by rfl, by intro w'; go_simp; with_reducible rfl⟩) (by simp only [Act.put, sA, sB, sC, qw, qx]; rfl) ?_
                  refine zP (wO HT_.out (by kernel_rfl)) ?_
                  try go_wp2_with (first | ((with_reducible refine qY (N := 47) rfl ?_); refine Kd.jS k55 _ 55 ?hg (N := 47) ?hd (xs := ([] : List (S55))) (inner := []) (ok := fun _ => True) (okp := fun _ => True) ?hr ?hp (fun _ hk => hk) trivial (Below.refl _ _) (Nat.le_refl _) (by simp) ?_; (case hd => rfl); (case hg => rfl); (case hr => first | (go_simp; done) | (go_simp; rfl)); (case hp => exact (Reps.none _ _)); intro v694 w38 ho39 hb hg_ hnew_; clear hg_ hnew_; (first | rw [← Ny693.out] at ho39 | (simp only [Int.reduceToNat] at ho39; rw [← Ny693.out] at ho39)); have n0_ := qa.mk (Kd.vv (by (with_reducible repeat (first | apply Kd.R_alloc | apply Kd.qo | apply Kd.qz)); exact HO_3.out) (Kd.vE ho39) hb); have n1_ := qa.mk (Kd.zL (by (with_reducible repeat (first | apply Kd.V_alloc | apply Kd.V_drewN | apply Kd.vg)); exact HO_684001.out) (Kd.vE ho39) hb); have n2_ := qa.mk (Kd.vO (Kd.wY (Kd.vR (Kd.wS (M := fun k_ => (w.heap.size ≤ k_)) ho39 (qA (by repeat (first | (with_reducible first | exact HB.out | apply qg | apply qb | apply qf | refine qd ?_ GE683.out | refine qd ?_ GE684.out | refine qd ?_ GE689.out) | exact HB.out))) (fun k_ h_ => h_)) (Kd.R_lt (by (with_reducible repeat (first | apply Kd.R_alloc | apply Kd.qo | apply Kd.qz)); exact HO_3.out))) (g := gb689) (o := .cells #[.int .i64 ((qc l0_2 x4_1).f0), .int .i64 ((qc l0_2 x4_1).f1), .int .i64 ((qc l0_2 x4_1).f2)] 55 (0, 0)) (by (with_reducible repeat (first | refine qi ?_ _ | refine ql ?_ | refine qh ?_ _)); exact BK689.out)) (qA (by repeat (first | (with_reducible first | exact HB.out | apply qg | apply qb | apply qf | refine qd ?_ GE683.out | refine qd ?_ GE684.out | refine qd ?_ GE689.out) | exact HB.out)))); have n3_ := qa.mk (qB (g := gb683) (o := .cells #[.int .i64 a0_0, .slice A0_1 l0_1.length c0_1, .slice (some ad688) l0_2.length c0_2] 25 (0, 0)) (by (with_reducible repeat (first | refine qi ?_ _ | refine ql ?_ | refine qh ?_ _)); exact BK683.out) hb); have n4_ := qa.mk (qB (g := gb684) (o := .cells #[.int .i64 0, .slice none 0 0, .slice none 0 0] 25 (0, 0)) (by (with_reducible repeat (first | refine qi ?_ _ | refine ql ?_ | refine qh ?_ _)); exact BK684.out) hb); have n5_ := qa.mk (qB (g := gb689) (o := .cells #[.int .i64 ((qc l0_2 x4_1).f0), .int .i64 ((qc l0_2 x4_1).f1), .int .i64 ((qc l0_2 x4_1).f2)] 55 (0, 0)) (by (with_reducible repeat (first | refine qi ?_ _ | refine ql ?_ | refine qh ?_ _)); exact BK689.out) hb); have n6_ := qa.mk (qD (by repeat (first | (with_reducible first | exact HB.out | apply qg | apply qb | apply qf | refine qd ?_ GE683.out | refine qd ?_ GE684.out | refine qd ?_ GE689.out) | exact HB.out)) hb); clear HO_3; clear HO_684001; clear BK683; clear BK684; clear BK689; clear HB; have HO_3 := n0_; have HO_684001 := n1_; have HO695 := n2_; have BK683 := n3_; have BK684 := n4_; have BK689 := n5_; have HB := n6_; clear n0_ n1_ n2_ n3_ n4_ n5_ n6_; clear hb ho39; have q40 : (x6_2 : Int) ≤ ((x3_1.length : Int) : Int) := of_decide_eq_true (by first | (with_reducible assumption) | assumption); obtain ⟨i040, hi040, _, hsz40, _⟩ := info_parts zZ; have hroom40 : x3_1.length ≤ co14 := (Kd.qH HO_3.out).2.1; have hC40 : Kd.C k55 _ (some ad690) x3_1.length x3_1 := (Kd.qH HO_3.out).2.2; have q040 : (0 : Int) ≤ (x6_2 : Int) := of_decide_eq_true (by first | (with_reducible assumption) | assumption); have hcut40 := xZ (P := Try.prog) 23 55 .i64 Try.underlying23 hi040 3 hsz40 (some ad690) x3_1.length co14 x6_2 q040 q40; have hr40 := Kd.jb (m := (x6_2 : Int).toNat) (c := co14) hC40 (by omega) hroom40; obtain ⟨A40, hA40⟩ : ∃ A1, A1 = (if co14 = (x6_2 : Int).toNat then (some ad690) else ((some ad690) : Option Addr).map (·.add ((x6_2 : Int).toNat * 3))) := ⟨_, rfl⟩; obtain ⟨c40, hc40⟩ : ∃ c1, c1 = co14 - (x6_2 : Int).toNat := ⟨_, rfl⟩; have hy40 : y696.length = x3_1.length - (x6_2 : Int).toNat := (by rw [Ny696.out, List.length_drop] <;> omega); rw [show (x3_1).drop (x6_2 : Int).toNat = y696 from Ny696.out.symm] at hr40; replace hr40 : Kd.C k55 _ A40 y696.length y696 := (by rw [hA40]; exact hr40); rw [← hy40, ← hA40, ← hc40] at hcut40; have HR699 := qa.mk hr40; have HC699 := qa.mk (show y696.length ≤ c40 from by rw [hy40, hc40]; exact Nat.sub_le_sub_right hroom40 _); clear hr40 hC40 hroom40 hi040 hsz40 hc40; have KY40 := qa.mk hy40; have KA40 := qa.mk hA40; clear hy40 hA40; have KL40 := qa.mk (show (x6_2 : Int).toNat ≤ x3_1.length from by omega); replace q40 := eq_true q40) | ((with_reducible refine zz (b := .append) (xs := #[.tmp 47, .tmp 50]) rfl ?_); at_builtin; refine Kd.zW k55 (w0 := w) w.heap.size rfl (.tmp 47) (.tmp 50) 23 55 (.agg #[(.int .i64 0), (.int .i64 0), (.int .i64 0)]) 24 rfl Try.underlying23 zZ rfl (by decide) (by omega) v694 y693 y696 _ _ _ (fun k_ => (w.heap.size ≤ k_) ∧ some k_ ≠ (.slice (some ad690) x3_1.length co14 : Value).ownBlock ∧ k_ ≠ gb689) (fun _ => False) rfl rfl ?aO ?aR (fun _ _ h => h) (fun _ h => h.elim) ?aF ?aB ?aS ?aL ?_; (case aR => repeat (first | exact (by repeat (first | (with_reducible exact HR699.out) | (with_reducible refine Kd.C_alloc ?_ _) | (with_reducible refine Kd.C_drewN ?_ _) | (with_reducible refine Kd.qQ ?_) | exact HR699.out)) | (with_reducible refine Kd.C_alloc ?_ _) | (with_reducible refine Kd.C_drewN ?_ _) | (with_reducible refine Kd.qQ ?_))); (case aB => exact (by repeat (first | (with_reducible first | exact HB.out | apply qg | apply qb | apply qf | refine qd ?_ GE683.out | refine qd ?_ GE684.out | refine qd ?_ GE689.out) | exact HB.out))); (case aF => exact (fun k_ hk => ⟨(Nat.le_trans (qA (by repeat (first | (with_reducible first | exact HB.out | apply qg | apply qb | apply qf | refine qd ?_ GE683.out | refine qd ?_ GE684.out | refine qd ?_ GE689.out) | exact HB.out))) hk), Kd.fresh' (Kd.R_lt (by (with_reducible repeat (first | apply Kd.R_alloc | apply Kd.qo | apply Kd.qz)); exact HO_3.out)) k_ hk, Kd.wD (g := gb689) (o := .cells #[.int .i64 ((qc l0_2 x4_1).f0), .int .i64 ((qc l0_2 x4_1).f1), .int .i64 ((qc l0_2 x4_1).f2)] 55 (0, 0)) (by (with_reducible repeat (first | refine qi ?_ _ | refine ql ?_ | refine qh ?_ _)); exact BK689.out) k_ hk⟩)); (case aO => exact (by (with_reducible repeat (first | apply Kd.R_alloc | apply Kd.qo | apply Kd.qz)); exact Kd.qW HO695.out (fun _ hk => ⟨hk.1.1.1, ⟨hk.1.2, hk.2⟩⟩))); (case aS => exact (qA (by repeat (first | (with_reducible first | exact HB.out | apply qg | apply qb | apply qf | refine qd ?_ GE683.out | refine qd ?_ GE684.out | refine qd ?_ GE689.out) | exact HB.out)))); (case aL => have := LMc29.out; omega); intro v701 w41 ho hb hg hat; rw [← Ny700.out] at ho; have n0_ := qa.mk (Kd.vB (ok := (fun k_ => (w.heap.size ≤ k_) ∧ k_ ≠ gb689)) (by (with_reducible repeat (first | apply Kd.R_alloc | apply Kd.qo | apply Kd.qz)); exact HO_3.out) hg hat); have n1_ := qa.mk (Kd.zJ (ok := (fun k_ => (P0_1_ k_ ∨ w.heap.size ≤ k_) ∧ some k_ ≠ (.slice (some ad690) x3_1.length co14 : Value).ownBlock ∧ k_ ≠ gb683 ∧ k_ ≠ gb684 ∧ k_ ≠ gb689)) (by (with_reducible repeat (first | apply Kd.V_alloc | apply Kd.V_drewN | apply Kd.vg)); exact HO_684001.out) hg hat); have n2_ := qa.mk (q9 (g := gb683) (o := .cells #[.int .i64 a0_0, .slice A0_1 l0_1.length c0_1, .slice (some ad688) l0_2.length c0_2] 25 (0, 0)) (by (with_reducible repeat (first | refine qi ?_ _ | refine ql ?_ | refine qh ?_ _)); exact BK683.out) hg (Kd.R_ne HO695.out BK683.out (by decide))); have n3_ := qa.mk (q9 (g := gb684) (o := .cells #[.int .i64 0, .slice none 0 0, .slice none 0 0] 25 (0, 0)) (by (with_reducible repeat (first | refine qi ?_ _ | refine ql ?_ | refine qh ?_ _)); exact BK684.out) hg (Kd.R_ne HO695.out BK684.out (by decide))); have n4_ := qa.mk (q9 (g := gb689) (o := .cells #[.int .i64 ((qc l0_2 x4_1).f0), .int .i64 ((qc l0_2 x4_1).f1), .int .i64 ((qc l0_2 x4_1).f2)] 55 (0, 0)) (by (with_reducible repeat (first | refine qi ?_ _ | refine ql ?_ | refine qh ?_ _)); exact BK689.out) hg (Kd.wX HO695.out (fun _ hk => hk.2))); have n5_ := qa.mk (hb); have n6_ := qa.mk ((show Kd.C k55 w41 A40 y696.length y696 from by rw [Ny696.out, KA40.out]; exact Kd.jb (m := (x6_2 : Int).toNat) (c := co14) ((Kd.qH (Kd.vB (ok := (fun k_ => (w.heap.size ≤ k_) ∧ k_ ≠ gb689)) (by (with_reducible repeat (first | apply Kd.R_alloc | apply Kd.qo | apply Kd.qz)); exact HO_3.out) hg hat)).2.2) KL40.out ((Kd.qH (Kd.vB (ok := (fun k_ => (w.heap.size ≤ k_) ∧ k_ ≠ gb689)) (by (with_reducible repeat (first | apply Kd.R_alloc | apply Kd.qo | apply Kd.qz)); exact HO_3.out) hg hat)).2.1))); have n7_ := qa.mk (ho); clear HO_3; clear HO_684001; clear BK683; clear BK684; clear BK689; clear HB; clear HR699; clear HO695; have HO_3 := n0_; have HO_684001 := n1_; have BK683 := n2_; have BK684 := n3_; have BK689 := n4_; have HB := n5_; have HR699 := n6_; have HO702 := n7_; clear n0_ n1_ n2_ n3_ n4_ n5_ n6_ n7_; clear ho hb hg hat; obtain ⟨Ao42, co42, eo42⟩ := Kd.zn HO702.out; subst eo42))
                  have n0_ := qa.mk (Kd.qz HO_3.out)
                  have n1_ := qa.mk (Kd.vg HO_684001.out)
                  have n2_ := qa.mk (Kd.qz HO702.out)
                  have n3_ := qa.mk (ql BK683.out)
                  have n4_ := qa.mk (ql BK684.out)
                  have n5_ := qa.mk (ql BK689.out)
                  have n6_ := qa.mk (Kd.qQ HR699.out)
                  have n7_ := qa.mk (qf HB.out)
                  clear HO_3
                  clear HO_684001
                  clear HO702
                  clear BK683
                  clear BK684
                  clear BK689
                  clear HR699
                  clear HB
                  have HO_3 := n0_
                  have HO_684001 := n1_
                  have HO702 := n2_
                  have BK683 := n3_
                  have BK684 := n4_
                  have BK689 := n5_
                  have HR699 := n6_
                  have HB := n7_
                  clear n0_ n1_ n2_ n3_ n4_ n5_ n6_ n7_
                  have q44 : (x6_2 : Int) ≤ ((x3_1.length : Int) : Int) := of_decide_eq_true (by first | (with_reducible assumption) | assumption)
                  obtain ⟨i044, hi044, _, hsz44, _⟩ := info_parts zZ
                  have hroom44 : x3_1.length ≤ co14 := (Kd.qH HO_3.out).2.1
                  have hC44 : Kd.C k55 _ (some ad690) x3_1.length x3_1 := (Kd.qH HO_3.out).2.2
                  have hcut44 := cut_to (P := Try.prog) 23 55 .i64 Try.underlying23 hi044 (some ad690) x3_1.length co14 x6_2 (of_decide_eq_true (by first | (with_reducible assumption) | assumption)) q44 hroom44
                  have hr44 := Kd.jF (m := (x6_2 : Int).toNat) hC44 (by omega)
                  have hy44 : y706.length = (x6_2 : Int).toNat := (by rw [Ny706.out, List.length_take]; omega)
                  rw [← Ny706.out] at hr44
                  rw [← hy44] at hcut44
                  have HR709 := qa.mk hr44
                  have HC709 := qa.mk (show y706.length ≤ co14 from by omega)
                  clear hr44 hC44 hroom44 hi044 hsz44
                  have KY44 := qa.mk hy44
                  clear hy44
                  have KL44 := qa.mk (show (x6_2 : Int).toNat ≤ x3_1.length from by omega)
                  replace q44 := eq_true q44
                  refine zI (n := 11) (S := fun w' => w'.cell? ⟨gb689, 0, none⟩ = some (.int .i64 ((qc l0_2 x4_1).f0)) ∧ w'.cell? ⟨gb689, 1, none⟩ = some (.int .i64 ((qc l0_2 x4_1).f1)) ∧ w'.cell? ⟨gb689, 2, none⟩ = some (.int .i64 ((qc l0_2 x4_1).f2))) (ds := []) tb4_0 (by kernel_rfl) rfl rfl ⟨(qj BK689.out 0).trans rfl, (qj BK689.out 1).trans rfl, (qj BK689.out 2).trans rfl⟩ (fun hHeld => ?_); refine zS qp.tab11 qp.bits11 (fun HT_ HW_ => ?_)
                  generalize w41.drew = w43 at HO_3 HO_684001 HO702 BK683 BK684 BK689 HR699 HB HR709 hHeld ⊢
                  refine qy (i := 1) (N := some 53) tb4_16 rfl rfl (vo HT_.out (by kernel_rfl)) (fun _ _ _ h => h) (.inl ⟨by rfl, by intro w'; go_simp; with_reducible rfl⟩) (by simp only [Act.put, sA, sB, sC, qw, qx]; rfl) ?_
                  refine qy (i := 2) (N := some 54) tb4_17 rfl rfl (vo HT_.out (by kernel_rfl)) (fun _ _ _ h => h) (.inl ⟨by rfl, by intro w'; go_simp; with_reducible rfl⟩) (by simp only [Act.put, sA, sB, sC, qw, qx]; rfl) ?_
                  refine qy (i := 3) (N := some 55) tb4_18 rfl rfl (vo HT_.out (by kernel_rfl)) (fun _ _ _ h => h) (.inl ⟨by rfl, by intro w'; go_simp; with_reducible rfl⟩) (by simp only [Act.put, sA, sB, sC, qw, qx]; rfl) ?_
                  refine qy (i := 8) (N := some 60) tb4_19 rfl rfl (vo HT_.out (by kernel_rfl)) (fun _ _ _ h => h) (.inl ⟨by rfl, by intro w'; go_simp; with_reducible rfl⟩) (by simp only [Act.put, sA, sB, sC, qw, qx]; rfl) ?_
                  refine vJ (i := 5) (N := some 57) tb4_20 rfl rfl (zu HT_.out HW_.out (by kernel_rfl)) (fun _ _ _ h => h) (.inl ⟨by rfl, by rintro w' ⟨s0, s1, s2⟩; go_simp; with_reducible rfl⟩) hHeld (by simp only [Act.put, sA, sB, sC, qw, qx]; rfl) ?_
                  refine join_ (σ := Value × Value × Value) 3 tb4_21 (fun s_ => [(52, s_.1), (56, s_.2.1), (58, s_.2.2)]) (fun s_ w' => (w'.cell? ⟨gb689, 0, none⟩ = some (.int .i64 ((qc l0_2 x4_1).f0)) ∧ w'.cell? ⟨gb689, 1, none⟩ = some (.int .i64 ((qc l0_2 x4_1).f1)) ∧ w'.cell? ⟨gb689, 2, none⟩ = some (.int .i64 ((qc l0_2 x4_1).f2))) ∧ (Kd.R k55 55 w' w.heap.size (fun k_ => (w.heap.size ≤ k_) ∧ some k_ ≠ (s_.2.1 : Value).ownBlock ∧ some k_ ≠ (s_.2.2 : Value).ownBlock ∧ some k_ ≠ (.slice (some ad690) x3_1.length co14 : Value).ownBlock ∧ k_ ≠ gb689) (.slice Ao42 y700.length co42) y700) ∧ (Kd.R k55 55 w' w.heap.size (fun k_ => (w.heap.size ≤ k_) ∧ some k_ ≠ (.slice Ao42 y700.length co42 : Value).ownBlock ∧ some k_ ≠ (s_.2.2 : Value).ownBlock ∧ some k_ ≠ (.slice (some ad690) x3_1.length co14 : Value).ownBlock ∧ k_ ≠ gb689) s_.2.1 y710) ∧ (Kd.R k55 55 w' w.heap.size (fun k_ => (w.heap.size ≤ k_) ∧ some k_ ≠ (.slice Ao42 y700.length co42 : Value).ownBlock ∧ some k_ ≠ (s_.2.1 : Value).ownBlock ∧ some k_ ≠ (.slice (some ad690) x3_1.length co14 : Value).ownBlock ∧ k_ ≠ gb689) s_.2.2 y713) ∧ (Kd.R k55 55 w' w.heap.size (fun k_ => (w.heap.size ≤ k_) ∧ some k_ ≠ (.slice Ao42 y700.length co42 : Value).ownBlock ∧ some k_ ≠ (s_.2.1 : Value).ownBlock ∧ some k_ ≠ (s_.2.2 : Value).ownBlock ∧ k_ ≠ gb689) (.slice (some ad690) x3_1.length co14) x3_1) ∧ (Kd.V Kd.string 9 w' w.heap.size (fun k_ => (P0_1_ k_ ∨ w.heap.size ≤ k_) ∧ some k_ ≠ (.slice Ao42 y700.length co42 : Value).ownBlock ∧ some k_ ≠ (s_.2.1 : Value).ownBlock ∧ some k_ ≠ (s_.2.2 : Value).ownBlock ∧ some k_ ≠ (.slice (some ad690) x3_1.length co14 : Value).ownBlock ∧ k_ ≠ gb683 ∧ k_ ≠ gb684 ∧ k_ ≠ gb689) (.slice A0_1 l0_1.length c0_1) l0_1) ∧ (w'.heap[gb683]? = some (.cells #[.int .i64 a0_0, .slice A0_1 l0_1.length c0_1, .slice (some ad688) l0_2.length c0_2] 25 (0, 0))) ∧ (w'.heap[gb684]? = some (.cells #[.int .i64 0, .slice none 0 0, .slice none 0 0] 25 (0, 0))) ∧ (w'.heap[gb689]? = some (.cells #[.int .i64 ((qc l0_2 x4_1).f0), .int .i64 ((qc l0_2 x4_1).f1), .int .i64 ((qc l0_2 x4_1).f2)] 55 (0, 0))) ∧ (Below w.heap.size w w')) ?_ ?_
                  rotate_left
                  ·intro hCont
                   refine two_ (i := 0) (j := 6) (Ni := some 52) (Nj := some 58) tb4_22 tb4_23 rfl rfl rfl rfl (yO HT_.out (by kernel_rfl)) (by decide) (by decide) (fun K hK => ?_) (fun K hK => ?_)
                   ·skip
                    refine Kd.zC k55 _ 55 ?hg (N := 52) ?hd (xs := ([] : List (S55))) (inner := []) (ok := fun _ => True) (okp := fun _ => True) ?hr ?hp (fun _ hk => hk) trivial (Below.refl _ _) (Nat.le_refl _) (by simp) ?_; (case hd => rfl); (case hg => rfl); (case hr => first | (go_simp; done) | (go_simp; rfl)); (case hp => exact (Reps.none _ _))
                    intro v704 w45 ho46 hb hg_ hnew_
                    clear hg_ hnew_
                    (first | rw [← Ny703.out] at ho46 | (simp only [Int.reduceToNat] at ho46; rw [← Ny703.out] at ho46))
                    have n0_ := qa.mk (Kd.vv (by (with_reducible repeat (first | apply Kd.R_alloc | apply Kd.qo | apply Kd.qz)); exact HO_3.out) (Kd.vE ho46) hb)
                    have n1_ := qa.mk (Kd.zL (by (with_reducible repeat (first | apply Kd.V_alloc | apply Kd.V_drewN | apply Kd.vg)); exact HO_684001.out) (Kd.vE ho46) hb)
                    have n2_ := qa.mk (Kd.vv (by (with_reducible repeat (first | apply Kd.R_alloc | apply Kd.qo | apply Kd.qz)); exact HO702.out) (Kd.vE ho46) hb)
                    have n3_ := qa.mk (Kd.vO (Kd.wY (Kd.vR (Kd.vR (Kd.wS (M := fun k_ => (w.heap.size ≤ k_)) ho46 (qA (by repeat (first | (with_reducible first | exact HB.out | apply qg | apply qb | apply qf | refine qd ?_ GE683.out | refine qd ?_ GE684.out | refine qd ?_ GE689.out) | exact HB.out))) (fun k_ h_ => h_)) (Kd.R_lt (by (with_reducible repeat (first | apply Kd.R_alloc | apply Kd.qo | apply Kd.qz)); exact HO_3.out))) (Kd.R_lt (by (with_reducible repeat (first | apply Kd.R_alloc | apply Kd.qo | apply Kd.qz)); exact HO702.out))) (g := gb689) (o := .cells #[.int .i64 ((qc l0_2 x4_1).f0), .int .i64 ((qc l0_2 x4_1).f1), .int .i64 ((qc l0_2 x4_1).f2)] 55 (0, 0)) (by (with_reducible repeat (first | refine qi ?_ _ | refine ql ?_ | refine qh ?_ _)); exact BK689.out)) (qA (by repeat (first | (with_reducible first | exact HB.out | apply qg | apply qb | apply qf | refine qd ?_ GE683.out | refine qd ?_ GE684.out | refine qd ?_ GE689.out) | exact HB.out))))
                    have n4_ := qa.mk (qB (g := gb683) (o := .cells #[.int .i64 a0_0, .slice A0_1 l0_1.length c0_1, .slice (some ad688) l0_2.length c0_2] 25 (0, 0)) (by (with_reducible repeat (first | refine qi ?_ _ | refine ql ?_ | refine qh ?_ _)); exact BK683.out) hb)
                    have n5_ := qa.mk (qB (g := gb684) (o := .cells #[.int .i64 0, .slice none 0 0, .slice none 0 0] 25 (0, 0)) (by (with_reducible repeat (first | refine qi ?_ _ | refine ql ?_ | refine qh ?_ _)); exact BK684.out) hb)
                    have n6_ := qa.mk (qB (g := gb689) (o := .cells #[.int .i64 ((qc l0_2 x4_1).f0), .int .i64 ((qc l0_2 x4_1).f1), .int .i64 ((qc l0_2 x4_1).f2)] 55 (0, 0)) (by (with_reducible repeat (first | refine qi ?_ _ | refine ql ?_ | refine qh ?_ _)); exact BK689.out) hb)
                    have n7_ := qa.mk (Kd.qU (by repeat (first | (with_reducible exact HR699.out) | (with_reducible refine Kd.C_alloc ?_ _) | (with_reducible refine Kd.C_drewN ?_ _) | (with_reducible refine Kd.qQ ?_) | exact HR699.out)) hb)
                    have n8_ := qa.mk (Kd.qU (by repeat (first | (with_reducible exact HR709.out) | (with_reducible refine Kd.C_alloc ?_ _) | (with_reducible refine Kd.C_drewN ?_ _) | (with_reducible refine Kd.qQ ?_) | exact HR709.out)) hb)
                    have n9_ := qa.mk (qD (by repeat (first | (with_reducible first | exact HB.out | apply qg | apply qb | apply qf | refine qd ?_ GE683.out | refine qd ?_ GE684.out | refine qd ?_ GE689.out) | exact HB.out)) hb)
                    clear HO_3
                    clear HO_684001
                    clear HO702
                    clear BK683
                    clear BK684
                    clear BK689
                    clear HR699
                    clear HR709
                    clear HB
                    have HO_3 := n0_
                    have HO_684001 := n1_
                    have HO702 := n2_
                    have HO705 := n3_
                    have BK683 := n4_
                    have BK684 := n5_
                    have BK689 := n6_
                    have HR699 := n7_
                    have HR709 := n8_
                    have HB := n9_
                    clear n0_ n1_ n2_ n3_ n4_ n5_ n6_ n7_ n8_ n9_
                    clear hb ho46
                    refine hK.out _ _ ⟨(qj BK689.out 0).trans rfl, (qj BK689.out 1).trans rfl, (qj BK689.out 2).trans rfl⟩ (fun hHeld => ?_)
                    clear hK K
                    refine zo (a' := ?_) ?_ ?_
                    rotate_left
                    ·show Act.put _ (some 52) _ = _
                     simp only [Act.put, sA, sB, sC, qw, qx]
                     rfl
                    refine two_ (i := 4) (j := 6) (Ni := some 56) (Nj := some 58) tb4_24 tb4_25 rfl rfl rfl rfl (yO HT_.out (by kernel_rfl)) (by decide) (by decide) (fun K hK => ?_) (fun K hK => ?_)
                    ·skip
                     refine Kd.vM k55 (w0 := w) w.heap.size (by rfl) (.tmp 52) (.tmp 55) 23 55 (.agg #[(.int .i64 0), (.int .i64 0), (.int .i64 0)]) 24 rfl Try.underlying23 zZ rfl (by decide) (by omega) v704 y703 y706 _ _ _ (fun k_ => (w.heap.size ≤ k_) ∧ some k_ ≠ (.slice (some ad690) x3_1.length co14 : Value).ownBlock ∧ some k_ ≠ (.slice Ao42 y700.length co42 : Value).ownBlock ∧ k_ ≠ gb689) (fun _ => False) rfl rfl ?aO ?aR (fun _ _ h => h) (fun _ h => h.elim) ?aF ?aB ?aS ?aL ?_
                     (case aR => repeat (first | exact (by repeat (first | (with_reducible exact HR709.out) | (with_reducible refine Kd.C_alloc ?_ _) | (with_reducible refine Kd.C_drewN ?_ _) | (with_reducible refine Kd.qQ ?_) | exact HR709.out)) | (with_reducible refine Kd.C_alloc ?_ _) | (with_reducible refine Kd.C_drewN ?_ _) | (with_reducible refine Kd.qQ ?_)))
                     (case aB => exact (by repeat (first | (with_reducible first | exact HB.out | apply qg | apply qb | apply qf | refine qd ?_ GE683.out | refine qd ?_ GE684.out | refine qd ?_ GE689.out) | exact HB.out)))
                     (case aF => exact (fun k_ hk => ⟨(Nat.le_trans (qA (by repeat (first | (with_reducible first | exact HB.out | apply qg | apply qb | apply qf | refine qd ?_ GE683.out | refine qd ?_ GE684.out | refine qd ?_ GE689.out) | exact HB.out))) hk), Kd.fresh' (Kd.R_lt (by (with_reducible repeat (first | apply Kd.R_alloc | apply Kd.qo | apply Kd.qz)); exact HO_3.out)) k_ hk, Kd.fresh' (Kd.R_lt (by (with_reducible repeat (first | apply Kd.R_alloc | apply Kd.qo | apply Kd.qz)); exact HO702.out)) k_ hk, Kd.wD (g := gb689) (o := .cells #[.int .i64 ((qc l0_2 x4_1).f0), .int .i64 ((qc l0_2 x4_1).f1), .int .i64 ((qc l0_2 x4_1).f2)] 55 (0, 0)) (by (with_reducible repeat (first | refine qi ?_ _ | refine ql ?_ | refine qh ?_ _)); exact BK689.out) k_ hk⟩))
                     (case aO => exact (by (with_reducible repeat (first | apply Kd.R_alloc | apply Kd.qo | apply Kd.qz)); exact Kd.qW HO705.out (fun _ hk => ⟨hk.1.1.1.1, ⟨hk.1.1.2, ⟨hk.1.2, hk.2⟩⟩⟩)))
                     (case aS => exact (qA (by repeat (first | (with_reducible first | exact HB.out | apply qg | apply qb | apply qf | refine qd ?_ GE683.out | refine qd ?_ GE684.out | refine qd ?_ GE689.out) | exact HB.out))))
                     (case aL => have := LMc32.out; omega)
                     intro v711 w47 ho hb hg hat
                     rw [← Ny710.out] at ho
                     have n0_ := qa.mk (Kd.vB (ok := (fun k_ => (w.heap.size ≤ k_) ∧ some k_ ≠ (.slice Ao42 y700.length co42 : Value).ownBlock ∧ k_ ≠ gb689)) (by (with_reducible repeat (first | apply Kd.R_alloc | apply Kd.qo | apply Kd.qz)); exact Kd.qW HO_3.out (fun _ hk => ⟨⟨hk.1.1.1, ⟨hk.1.2, hk.1.1.2⟩⟩, hk.2⟩)) hg hat)
                     have n1_ := qa.mk (Kd.zJ (ok := (fun k_ => (P0_1_ k_ ∨ w.heap.size ≤ k_) ∧ some k_ ≠ (.slice (some ad690) x3_1.length co14 : Value).ownBlock ∧ some k_ ≠ (.slice Ao42 y700.length co42 : Value).ownBlock ∧ k_ ≠ gb683 ∧ k_ ≠ gb684 ∧ k_ ≠ gb689)) (by (with_reducible repeat (first | apply Kd.V_alloc | apply Kd.V_drewN | apply Kd.vg)); exact Kd.zg HO_684001.out (fun _ hk => ⟨⟨hk.1.1.1, ⟨hk.1.1.2.1, ⟨hk.1.2, ⟨hk.1.1.2.2.1, ⟨hk.1.1.2.2.2.1, hk.1.1.2.2.2.2⟩⟩⟩⟩⟩, hk.2⟩)) hg hat)
                     have n2_ := qa.mk (q9 (g := gb683) (o := .cells #[.int .i64 a0_0, .slice A0_1 l0_1.length c0_1, .slice (some ad688) l0_2.length c0_2] 25 (0, 0)) (by (with_reducible repeat (first | refine qi ?_ _ | refine ql ?_ | refine qh ?_ _)); exact BK683.out) hg (Kd.R_ne HO705.out BK683.out (by decide)))
                     have n3_ := qa.mk (q9 (g := gb684) (o := .cells #[.int .i64 0, .slice none 0 0, .slice none 0 0] 25 (0, 0)) (by (with_reducible repeat (first | refine qi ?_ _ | refine ql ?_ | refine qh ?_ _)); exact BK684.out) hg (Kd.R_ne HO705.out BK684.out (by decide)))
                     have n4_ := qa.mk (q9 (g := gb689) (o := .cells #[.int .i64 ((qc l0_2 x4_1).f0), .int .i64 ((qc l0_2 x4_1).f1), .int .i64 ((qc l0_2 x4_1).f2)] 55 (0, 0)) (by (with_reducible repeat (first | refine qi ?_ _ | refine ql ?_ | refine qh ?_ _)); exact BK689.out) hg (Kd.wX HO705.out (fun _ hk => hk.2)))
                     have n5_ := qa.mk (Kd.vB (ok := (fun k_ => (w.heap.size ≤ k_) ∧ some k_ ≠ (.slice (some ad690) x3_1.length co14 : Value).ownBlock ∧ k_ ≠ gb689)) (by (with_reducible repeat (first | apply Kd.R_alloc | apply Kd.qo | apply Kd.qz)); exact HO702.out) hg hat)
                     have n6_ := qa.mk (hb)
                     have n7_ := qa.mk ((show Kd.C k55 w47 A40 y696.length y696 from by rw [Ny696.out, KA40.out]; exact Kd.jb (m := (x6_2 : Int).toNat) (c := co14) ((Kd.qH (Kd.vB (ok := (fun k_ => (w.heap.size ≤ k_) ∧ some k_ ≠ (.slice Ao42 y700.length co42 : Value).ownBlock ∧ k_ ≠ gb689)) (by (with_reducible repeat (first | apply Kd.R_alloc | apply Kd.qo | apply Kd.qz)); exact Kd.qW HO_3.out (fun _ hk => ⟨⟨hk.1.1.1, ⟨hk.1.2, hk.1.1.2⟩⟩, hk.2⟩)) hg hat)).2.2) KL40.out ((Kd.qH (Kd.vB (ok := (fun k_ => (w.heap.size ≤ k_) ∧ some k_ ≠ (.slice Ao42 y700.length co42 : Value).ownBlock ∧ k_ ≠ gb689)) (by (with_reducible repeat (first | apply Kd.R_alloc | apply Kd.qo | apply Kd.qz)); exact Kd.qW HO_3.out (fun _ hk => ⟨⟨hk.1.1.1, ⟨hk.1.2, hk.1.1.2⟩⟩, hk.2⟩)) hg hat)).2.1)))
                     have n8_ := qa.mk ((show Kd.C k55 w47 (some ad690) y706.length y706 from by rw [Ny706.out]; exact Kd.jF (m := (x6_2 : Int).toNat) ((Kd.qH (Kd.vB (ok := (fun k_ => (w.heap.size ≤ k_) ∧ some k_ ≠ (.slice Ao42 y700.length co42 : Value).ownBlock ∧ k_ ≠ gb689)) (by (with_reducible repeat (first | apply Kd.R_alloc | apply Kd.qo | apply Kd.qz)); exact Kd.qW HO_3.out (fun _ hk => ⟨⟨hk.1.1.1, ⟨hk.1.2, hk.1.1.2⟩⟩, hk.2⟩)) hg hat)).2.2) KL44.out))
                     have n9_ := qa.mk (ho)
                     clear HO_3
                     clear HO_684001
                     clear BK683
                     clear BK684
                     clear BK689
                     clear HO702
                     clear HB
                     clear HR699
                     clear HR709
                     clear HO705
                     have HO_3 := n0_
                     have HO_684001 := n1_
                     have BK683 := n2_
                     have BK684 := n3_
                     have BK689 := n4_
                     have HO702 := n5_
                     have HB := n6_
                     have HR699 := n7_
                     have HR709 := n8_
                     have HO712 := n9_
                     clear n0_ n1_ n2_ n3_ n4_ n5_ n6_ n7_ n8_ n9_
                     clear ho hb hg hat
                     refine hK.out _ _ ⟨(qj BK689.out 0).trans rfl, (qj BK689.out 1).trans rfl, (qj BK689.out 2).trans rfl⟩ (fun hHeld => ?_)
                     clear hK K
                     refine zo (a' := ?_) ?_ ?_
                     rotate_left
                     ·show Act.put _ (some 56) _ = _
                      simp only [Act.put, sA, sB, sC, qw, qx]
                      rfl
                     refine one_ (i := 6) (N := some 58) tb4_21 rfl rfl (zU HT_.out (by kernel_rfl)) (by decide) (fun K hK => ?_)
                     refine Kd.zC k55 _ 55 ?hg (N := 58) ?hd (xs := ([(⟨((qc l0_2 x4_1).f0), ((qc l0_2 x4_1).f1), ((qc l0_2 x4_1).f2)⟩ : S55)] : List (S55))) (inner := [.int .i64 ((qc l0_2 x4_1).f0), .int .i64 ((qc l0_2 x4_1).f1), .int .i64 ((qc l0_2 x4_1).f2)]) (ok := fun _ => True) (okp := fun _ => True) ?hr ?hp (fun _ hk => hk) trivial (Below.refl _ _) (Nat.le_refl _) (by simp) ?_; (case hd => rfl); (case hg => rfl); (case hr => first | (go_simp; done) | (go_simp; rfl)); (case hp => exact (Reps.c3 (show Kd.M k55 _ _ _ (⟨((qc l0_2 x4_1).f0), ((qc l0_2 x4_1).f1), ((qc l0_2 x4_1).f2)⟩ : S55) [.int .i64 ((qc l0_2 x4_1).f0), .int .i64 ((qc l0_2 x4_1).f1), .int .i64 ((qc l0_2 x4_1).f2)] from (wm _ _ _ (⟨((qc l0_2 x4_1).f0), ((qc l0_2 x4_1).f1), ((qc l0_2 x4_1).f2)⟩ : S55) )) (Reps.none _ _)))
                     intro v714 w48 ho49 hb hg_ hnew_
                     clear hg_ hnew_
                     (first | rw [← Ny713.out] at ho49 | (simp only [Int.reduceToNat] at ho49; rw [← Ny713.out] at ho49))
                     have n0_ := qa.mk (Kd.vv (by (with_reducible repeat (first | apply Kd.R_alloc | apply Kd.qo | apply Kd.qz)); exact HO_3.out) (Kd.vE ho49) hb)
                     have n1_ := qa.mk (Kd.zL (by (with_reducible repeat (first | apply Kd.V_alloc | apply Kd.V_drewN | apply Kd.vg)); exact HO_684001.out) (Kd.vE ho49) hb)
                     have n2_ := qa.mk (Kd.vv (by (with_reducible repeat (first | apply Kd.R_alloc | apply Kd.qo | apply Kd.qz)); exact HO702.out) (Kd.vE ho49) hb)
                     have n3_ := qa.mk (Kd.vv (by (with_reducible repeat (first | apply Kd.R_alloc | apply Kd.qo | apply Kd.qz)); exact HO712.out) (Kd.vE ho49) hb)
                     have n4_ := qa.mk (Kd.vO (Kd.wY (Kd.vR (Kd.vR (Kd.vR (Kd.wS (M := fun k_ => (w.heap.size ≤ k_)) ho49 (qA (by repeat (first | (with_reducible first | exact HB.out | apply qg | apply qb | apply qf | refine qd ?_ GE683.out | refine qd ?_ GE684.out | refine qd ?_ GE689.out) | exact HB.out))) (fun k_ h_ => h_)) (Kd.R_lt (by (with_reducible repeat (first | apply Kd.R_alloc | apply Kd.qo | apply Kd.qz)); exact HO_3.out))) (Kd.R_lt (by (with_reducible repeat (first | apply Kd.R_alloc | apply Kd.qo | apply Kd.qz)); exact HO702.out))) (Kd.R_lt (by (with_reducible repeat (first | apply Kd.R_alloc | apply Kd.qo | apply Kd.qz)); exact HO712.out))) (g := gb689) (o := .cells #[.int .i64 ((qc l0_2 x4_1).f0), .int .i64 ((qc l0_2 x4_1).f1), .int .i64 ((qc l0_2 x4_1).f2)] 55 (0, 0)) (by (with_reducible repeat (first | refine qi ?_ _ | refine ql ?_ | refine qh ?_ _)); exact BK689.out)) (qA (by repeat (first | (with_reducible first | exact HB.out | apply qg | apply qb | apply qf | refine qd ?_ GE683.out | refine qd ?_ GE684.out | refine qd ?_ GE689.out) | exact HB.out))))
                     have n5_ := qa.mk (qB (g := gb683) (o := .cells #[.int .i64 a0_0, .slice A0_1 l0_1.length c0_1, .slice (some ad688) l0_2.length c0_2] 25 (0, 0)) (by (with_reducible repeat (first | refine qi ?_ _ | refine ql ?_ | refine qh ?_ _)); exact BK683.out) hb)
                     have n6_ := qa.mk (qB (g := gb684) (o := .cells #[.int .i64 0, .slice none 0 0, .slice none 0 0] 25 (0, 0)) (by (with_reducible repeat (first | refine qi ?_ _ | refine ql ?_ | refine qh ?_ _)); exact BK684.out) hb)
                     have n7_ := qa.mk (qB (g := gb689) (o := .cells #[.int .i64 ((qc l0_2 x4_1).f0), .int .i64 ((qc l0_2 x4_1).f1), .int .i64 ((qc l0_2 x4_1).f2)] 55 (0, 0)) (by (with_reducible repeat (first | refine qi ?_ _ | refine ql ?_ | refine qh ?_ _)); exact BK689.out) hb)
                     have n8_ := qa.mk (Kd.qU (by repeat (first | (with_reducible exact HR699.out) | (with_reducible refine Kd.C_alloc ?_ _) | (with_reducible refine Kd.C_drewN ?_ _) | (with_reducible refine Kd.qQ ?_) | exact HR699.out)) hb)
                     have n9_ := qa.mk (Kd.qU (by repeat (first | (with_reducible exact HR709.out) | (with_reducible refine Kd.C_alloc ?_ _) | (with_reducible refine Kd.C_drewN ?_ _) | (with_reducible refine Kd.qQ ?_) | exact HR709.out)) hb)
                     have n10_ := qa.mk (qD (by repeat (first | (with_reducible first | exact HB.out | apply qg | apply qb | apply qf | refine qd ?_ GE683.out | refine qd ?_ GE684.out | refine qd ?_ GE689.out) | exact HB.out)) hb)
                     clear HO_3
                     clear HO_684001
                     clear HO702
                     clear HO712
                     clear BK683
                     clear BK684
                     clear BK689
                     clear HR699
                     clear HR709
                     clear HB
                     have HO_3 := n0_
                     have HO_684001 := n1_
                     have HO702 := n2_
                     have HO712 := n3_
                     have HO715 := n4_
                     have BK683 := n5_
                     have BK684 := n6_
                     have BK689 := n7_
                     have HR699 := n8_
                     have HR709 := n9_
                     have HB := n10_
                     clear n0_ n1_ n2_ n3_ n4_ n5_ n6_ n7_ n8_ n9_ n10_
                     clear hb ho49
                     refine hK.out _ _ ⟨(qj BK689.out 0).trans rfl, (qj BK689.out 1).trans rfl, (qj BK689.out 2).trans rfl⟩ (fun hHeld => ?_)
                     clear hK K
                     refine zo (a' := ?_) ?_ ?_
                     rotate_left
                     ·show Act.put _ (some 58) _ = _
                      simp only [Act.put, sA, sB, sC, qw, qx]
                      rfl
                     exact zo (by simp only [wZ, Act.put, List.setIfInBounds_toArray, List.set_cons_zero, List.set_cons_succ]) (hCont (v704, v711, v714) _ ⟨hHeld, (by (with_reducible repeat (first | apply Kd.R_alloc | apply Kd.qo | apply Kd.qz)); exact Kd.qW HO702.out (fun _ hk => ⟨hk.1.1.1, ⟨hk.1.2, ⟨hk.2, ⟨hk.1.1.2.1, hk.1.1.2.2⟩⟩⟩⟩)), (by (with_reducible repeat (first | apply Kd.R_alloc | apply Kd.qo | apply Kd.qz)); exact Kd.qW HO712.out (fun _ hk => ⟨hk.1.1, ⟨hk.1.2.2.1, ⟨hk.2, ⟨hk.1.2.1, hk.1.2.2.2⟩⟩⟩⟩)), (by (with_reducible repeat (first | apply Kd.R_alloc | apply Kd.qo | apply Kd.qz)); exact Kd.qW HO715.out (fun _ hk => ⟨hk.1.1.1.1.1, ⟨hk.1.1.2, ⟨hk.1.2, ⟨hk.1.1.1.2, hk.2⟩⟩⟩⟩)), (by (with_reducible repeat (first | apply Kd.R_alloc | apply Kd.qo | apply Kd.qz)); exact Kd.qW HO_3.out (fun _ hk => ⟨hk.1.1.1, ⟨hk.1.1.2.1, ⟨hk.1.2, ⟨hk.2, hk.1.1.2.2⟩⟩⟩⟩)), (by (with_reducible repeat (first | apply Kd.V_alloc | apply Kd.V_drewN | apply Kd.vg)); exact Kd.zg HO_684001.out (fun _ hk => ⟨hk.1.1.1, ⟨hk.1.1.2.2.1, ⟨hk.1.2, ⟨hk.2, ⟨hk.1.1.2.1, ⟨hk.1.1.2.2.2.1, ⟨hk.1.1.2.2.2.2.1, hk.1.1.2.2.2.2.2⟩⟩⟩⟩⟩⟩⟩)), (by (with_reducible repeat (first | refine qi ?_ _ | refine ql ?_ | refine qh ?_ _)); exact BK683.out), (by (with_reducible repeat (first | refine qi ?_ _ | refine ql ?_ | refine qh ?_ _)); exact BK684.out), (by (with_reducible repeat (first | refine qi ?_ _ | refine ql ?_ | refine qh ?_ _)); exact BK689.out), (by repeat (first | (with_reducible first | exact HB.out | apply qg | apply qb | apply qf | refine qd ?_ GE683.out | refine qd ?_ GE684.out | refine qd ?_ GE689.out) | exact HB.out))⟩)
                    ·skip
                     refine Kd.zC k55 _ 55 ?hg (N := 58) ?hd (xs := ([(⟨((qc l0_2 x4_1).f0), ((qc l0_2 x4_1).f1), ((qc l0_2 x4_1).f2)⟩ : S55)] : List (S55))) (inner := [.int .i64 ((qc l0_2 x4_1).f0), .int .i64 ((qc l0_2 x4_1).f1), .int .i64 ((qc l0_2 x4_1).f2)]) (ok := fun _ => True) (okp := fun _ => True) ?hr ?hp (fun _ hk => hk) trivial (Below.refl _ _) (Nat.le_refl _) (by simp) ?_; (case hd => rfl); (case hg => rfl); (case hr => first | (go_simp; done) | (go_simp; rfl)); (case hp => exact (Reps.c3 (show Kd.M k55 _ _ _ (⟨((qc l0_2 x4_1).f0), ((qc l0_2 x4_1).f1), ((qc l0_2 x4_1).f2)⟩ : S55) [.int .i64 ((qc l0_2 x4_1).f0), .int .i64 ((qc l0_2 x4_1).f1), .int .i64 ((qc l0_2 x4_1).f2)] from (wm _ _ _ (⟨((qc l0_2 x4_1).f0), ((qc l0_2 x4_1).f1), ((qc l0_2 x4_1).f2)⟩ : S55) )) (Reps.none _ _)))
                     intro v714 w47 ho48 hb hg_ hnew_
                     clear hg_ hnew_
                     (first | rw [← Ny713.out] at ho48 | (simp only [Int.reduceToNat] at ho48; rw [← Ny713.out] at ho48))
                     have n0_ := qa.mk (Kd.vv (by (with_reducible repeat (first | apply Kd.R_alloc | apply Kd.qo | apply Kd.qz)); exact HO_3.out) (Kd.vE ho48) hb)
                     have n1_ := qa.mk (Kd.zL (by (with_reducible repeat (first | apply Kd.V_alloc | apply Kd.V_drewN | apply Kd.vg)); exact HO_684001.out) (Kd.vE ho48) hb)
                     have n2_ := qa.mk (Kd.vv (by (with_reducible repeat (first | apply Kd.R_alloc | apply Kd.qo | apply Kd.qz)); exact HO702.out) (Kd.vE ho48) hb)
                     have n3_ := qa.mk (Kd.vv (by (with_reducible repeat (first | apply Kd.R_alloc | apply Kd.qo | apply Kd.qz)); exact HO705.out) (Kd.vE ho48) hb)
                     have n4_ := qa.mk (Kd.vO (Kd.wY (Kd.vR (Kd.vR (Kd.vR (Kd.wS (M := fun k_ => (w.heap.size ≤ k_)) ho48 (qA (by repeat (first | (with_reducible first | exact HB.out | apply qg | apply qb | apply qf | refine qd ?_ GE683.out | refine qd ?_ GE684.out | refine qd ?_ GE689.out) | exact HB.out))) (fun k_ h_ => h_)) (Kd.R_lt (by (with_reducible repeat (first | apply Kd.R_alloc | apply Kd.qo | apply Kd.qz)); exact HO_3.out))) (Kd.R_lt (by (with_reducible repeat (first | apply Kd.R_alloc | apply Kd.qo | apply Kd.qz)); exact HO702.out))) (Kd.R_lt (by (with_reducible repeat (first | apply Kd.R_alloc | apply Kd.qo | apply Kd.qz)); exact HO705.out))) (g := gb689) (o := .cells #[.int .i64 ((qc l0_2 x4_1).f0), .int .i64 ((qc l0_2 x4_1).f1), .int .i64 ((qc l0_2 x4_1).f2)] 55 (0, 0)) (by (with_reducible repeat (first | refine qi ?_ _ | refine ql ?_ | refine qh ?_ _)); exact BK689.out)) (qA (by repeat (first | (with_reducible first | exact HB.out | apply qg | apply qb | apply qf | refine qd ?_ GE683.out | refine qd ?_ GE684.out | refine qd ?_ GE689.out) | exact HB.out))))
                     have n5_ := qa.mk (qB (g := gb683) (o := .cells #[.int .i64 a0_0, .slice A0_1 l0_1.length c0_1, .slice (some ad688) l0_2.length c0_2] 25 (0, 0)) (by (with_reducible repeat (first | refine qi ?_ _ | refine ql ?_ | refine qh ?_ _)); exact BK683.out) hb)
                     have n6_ := qa.mk (qB (g := gb684) (o := .cells #[.int .i64 0, .slice none 0 0, .slice none 0 0] 25 (0, 0)) (by (with_reducible repeat (first | refine qi ?_ _ | refine ql ?_ | refine qh ?_ _)); exact BK684.out) hb)
                     have n7_ := qa.mk (qB (g := gb689) (o := .cells #[.int .i64 ((qc l0_2 x4_1).f0), .int .i64 ((qc l0_2 x4_1).f1), .int .i64 ((qc l0_2 x4_1).f2)] 55 (0, 0)) (by (with_reducible repeat (first | refine qi ?_ _ | refine ql ?_ | refine qh ?_ _)); exact BK689.out) hb)
                     have n8_ := qa.mk (Kd.qU (by repeat (first | (with_reducible exact HR699.out) | (with_reducible refine Kd.C_alloc ?_ _) | (with_reducible refine Kd.C_drewN ?_ _) | (with_reducible refine Kd.qQ ?_) | exact HR699.out)) hb)
                     have n9_ := qa.mk (Kd.qU (by repeat (first | (with_reducible exact HR709.out) | (with_reducible refine Kd.C_alloc ?_ _) | (with_reducible refine Kd.C_drewN ?_ _) | (with_reducible refine Kd.qQ ?_) | exact HR709.out)) hb)
                     have n10_ := qa.mk (qD (by repeat (first | (with_reducible first | exact HB.out | apply qg | apply qb | apply qf | refine qd ?_ GE683.out | refine qd ?_ GE684.out | refine qd ?_ GE689.out) | exact HB.out)) hb)
                     clear HO_3
                     clear HO_684001
                     clear HO702
                     clear HO705
                     clear BK683
                     clear BK684
                     clear BK689
                     clear HR699
                     clear HR709
                     clear HB
                     have HO_3 := n0_
                     have HO_684001 := n1_
                     have HO702 := n2_
                     have HO705 := n3_
                     have HO715 := n4_
                     have BK683 := n5_
                     have BK684 := n6_
                     have BK689 := n7_
                     have HR699 := n8_
                     have HR709 := n9_
                     have HB := n10_
                     clear n0_ n1_ n2_ n3_ n4_ n5_ n6_ n7_ n8_ n9_ n10_
                     clear hb ho48
                     refine hK.out _ _ ⟨(qj BK689.out 0).trans rfl, (qj BK689.out 1).trans rfl, (qj BK689.out 2).trans rfl⟩ (fun hHeld => ?_)
                     clear hK K
                     refine zo (a' := ?_) ?_ ?_
                     rotate_left
                     ·show Act.put _ (some 58) _ = _
                      simp only [Act.put, sA, sB, sC, qw, qx]
                      rfl
                     refine one_ (i := 4) (N := some 56) tb4_21 rfl rfl (zU HT_.out (by kernel_rfl)) (by decide) (fun K hK => ?_)
                     refine Kd.vM k55 (w0 := w) w.heap.size (by rfl) (.tmp 52) (.tmp 55) 23 55 (.agg #[(.int .i64 0), (.int .i64 0), (.int .i64 0)]) 24 rfl Try.underlying23 zZ rfl (by decide) (by omega) v704 y703 y706 _ _ _ (fun k_ => (w.heap.size ≤ k_) ∧ some k_ ≠ (.slice (some ad690) x3_1.length co14 : Value).ownBlock ∧ some k_ ≠ (.slice Ao42 y700.length co42 : Value).ownBlock ∧ some k_ ≠ (v714 : Value).ownBlock ∧ k_ ≠ gb689) (fun _ => False) rfl rfl ?aO ?aR (fun _ _ h => h) (fun _ h => h.elim) ?aF ?aB ?aS ?aL ?_
                     (case aR => repeat (first | exact (by repeat (first | (with_reducible exact HR709.out) | (with_reducible refine Kd.C_alloc ?_ _) | (with_reducible refine Kd.C_drewN ?_ _) | (with_reducible refine Kd.qQ ?_) | exact HR709.out)) | (with_reducible refine Kd.C_alloc ?_ _) | (with_reducible refine Kd.C_drewN ?_ _) | (with_reducible refine Kd.qQ ?_)))
                     (case aB => exact (by repeat (first | (with_reducible first | exact HB.out | apply qg | apply qb | apply qf | refine qd ?_ GE683.out | refine qd ?_ GE684.out | refine qd ?_ GE689.out) | exact HB.out)))
                     (case aF => exact (fun k_ hk => ⟨(Nat.le_trans (qA (by repeat (first | (with_reducible first | exact HB.out | apply qg | apply qb | apply qf | refine qd ?_ GE683.out | refine qd ?_ GE684.out | refine qd ?_ GE689.out) | exact HB.out))) hk), Kd.fresh' (Kd.R_lt (by (with_reducible repeat (first | apply Kd.R_alloc | apply Kd.qo | apply Kd.qz)); exact HO_3.out)) k_ hk, Kd.fresh' (Kd.R_lt (by (with_reducible repeat (first | apply Kd.R_alloc | apply Kd.qo | apply Kd.qz)); exact HO702.out)) k_ hk, Kd.fresh' (Kd.R_lt (by (with_reducible repeat (first | apply Kd.R_alloc | apply Kd.qo | apply Kd.qz)); exact HO715.out)) k_ hk, Kd.wD (g := gb689) (o := .cells #[.int .i64 ((qc l0_2 x4_1).f0), .int .i64 ((qc l0_2 x4_1).f1), .int .i64 ((qc l0_2 x4_1).f2)] 55 (0, 0)) (by (with_reducible repeat (first | refine qi ?_ _ | refine ql ?_ | refine qh ?_ _)); exact BK689.out) k_ hk⟩))
                     (case aO => exact (by (with_reducible repeat (first | apply Kd.R_alloc | apply Kd.qo | apply Kd.qz)); exact Kd.qW HO705.out (fun _ hk => ⟨hk.1.1.1.1.1, ⟨hk.1.1.1.2, ⟨hk.1.1.2, ⟨hk.2, hk.1.2⟩⟩⟩⟩)))
                     (case aS => exact (qA (by repeat (first | (with_reducible first | exact HB.out | apply qg | apply qb | apply qf | refine qd ?_ GE683.out | refine qd ?_ GE684.out | refine qd ?_ GE689.out) | exact HB.out))))
                     (case aL => have := LMc32.out; omega)
                     intro v711 w49 ho hb hg hat
                     rw [← Ny710.out] at ho
                     have n0_ := qa.mk (Kd.vB (ok := (fun k_ => (w.heap.size ≤ k_) ∧ some k_ ≠ (.slice Ao42 y700.length co42 : Value).ownBlock ∧ some k_ ≠ (v714 : Value).ownBlock ∧ k_ ≠ gb689)) (by (with_reducible repeat (first | apply Kd.R_alloc | apply Kd.qo | apply Kd.qz)); exact Kd.qW HO_3.out (fun _ hk => ⟨⟨hk.1.1.1.1, ⟨hk.1.1.2, ⟨hk.2, hk.1.1.1.2⟩⟩⟩, hk.1.2⟩)) hg hat)
                     have n1_ := qa.mk (Kd.zJ (ok := (fun k_ => (P0_1_ k_ ∨ w.heap.size ≤ k_) ∧ some k_ ≠ (.slice (some ad690) x3_1.length co14 : Value).ownBlock ∧ some k_ ≠ (.slice Ao42 y700.length co42 : Value).ownBlock ∧ some k_ ≠ (v714 : Value).ownBlock ∧ k_ ≠ gb683 ∧ k_ ≠ gb684 ∧ k_ ≠ gb689)) (by (with_reducible repeat (first | apply Kd.V_alloc | apply Kd.V_drewN | apply Kd.vg)); exact Kd.zg HO_684001.out (fun _ hk => ⟨⟨hk.1.1.1.1, ⟨hk.1.1.1.2.1, ⟨hk.1.1.2, ⟨hk.2, ⟨hk.1.1.1.2.2.1, ⟨hk.1.1.1.2.2.2.1, hk.1.1.1.2.2.2.2⟩⟩⟩⟩⟩⟩, hk.1.2⟩)) hg hat)
                     have n2_ := qa.mk (q9 (g := gb683) (o := .cells #[.int .i64 a0_0, .slice A0_1 l0_1.length c0_1, .slice (some ad688) l0_2.length c0_2] 25 (0, 0)) (by (with_reducible repeat (first | refine qi ?_ _ | refine ql ?_ | refine qh ?_ _)); exact BK683.out) hg (Kd.R_ne HO705.out BK683.out (by decide)))
                     have n3_ := qa.mk (q9 (g := gb684) (o := .cells #[.int .i64 0, .slice none 0 0, .slice none 0 0] 25 (0, 0)) (by (with_reducible repeat (first | refine qi ?_ _ | refine ql ?_ | refine qh ?_ _)); exact BK684.out) hg (Kd.R_ne HO705.out BK684.out (by decide)))
                     have n4_ := qa.mk (q9 (g := gb689) (o := .cells #[.int .i64 ((qc l0_2 x4_1).f0), .int .i64 ((qc l0_2 x4_1).f1), .int .i64 ((qc l0_2 x4_1).f2)] 55 (0, 0)) (by (with_reducible repeat (first | refine qi ?_ _ | refine ql ?_ | refine qh ?_ _)); exact BK689.out) hg (Kd.wX HO705.out (fun _ hk => hk.1.2)))
                     have n5_ := qa.mk (Kd.vB (ok := (fun k_ => (w.heap.size ≤ k_) ∧ some k_ ≠ (.slice (some ad690) x3_1.length co14 : Value).ownBlock ∧ some k_ ≠ (v714 : Value).ownBlock ∧ k_ ≠ gb689)) (by (with_reducible repeat (first | apply Kd.R_alloc | apply Kd.qo | apply Kd.qz)); exact Kd.qW HO702.out (fun _ hk => ⟨⟨hk.1.1.1, ⟨hk.1.1.2.1, ⟨hk.2, hk.1.1.2.2⟩⟩⟩, hk.1.2⟩)) hg hat)
                     have n6_ := qa.mk (Kd.vB (ok := (fun k_ => (w.heap.size ≤ k_) ∧ some k_ ≠ (.slice (some ad690) x3_1.length co14 : Value).ownBlock ∧ some k_ ≠ (.slice Ao42 y700.length co42 : Value).ownBlock ∧ k_ ≠ gb689)) (by (with_reducible repeat (first | apply Kd.R_alloc | apply Kd.qo | apply Kd.qz)); exact Kd.qW HO715.out (fun _ hk => ⟨⟨hk.1.1.1.1.1, ⟨hk.1.1.1.2, ⟨hk.1.1.2, hk.2⟩⟩⟩, hk.1.2⟩)) hg hat)
                     have n7_ := qa.mk (hb)
                     have n8_ := qa.mk ((show Kd.C k55 w49 A40 y696.length y696 from by rw [Ny696.out, KA40.out]; exact Kd.jb (m := (x6_2 : Int).toNat) (c := co14) ((Kd.qH (Kd.vB (ok := (fun k_ => (w.heap.size ≤ k_) ∧ some k_ ≠ (.slice Ao42 y700.length co42 : Value).ownBlock ∧ some k_ ≠ (v714 : Value).ownBlock ∧ k_ ≠ gb689)) (by (with_reducible repeat (first | apply Kd.R_alloc | apply Kd.qo | apply Kd.qz)); exact Kd.qW HO_3.out (fun _ hk => ⟨⟨hk.1.1.1.1, ⟨hk.1.1.2, ⟨hk.2, hk.1.1.1.2⟩⟩⟩, hk.1.2⟩)) hg hat)).2.2) KL40.out ((Kd.qH (Kd.vB (ok := (fun k_ => (w.heap.size ≤ k_) ∧ some k_ ≠ (.slice Ao42 y700.length co42 : Value).ownBlock ∧ some k_ ≠ (v714 : Value).ownBlock ∧ k_ ≠ gb689)) (by (with_reducible repeat (first | apply Kd.R_alloc | apply Kd.qo | apply Kd.qz)); exact Kd.qW HO_3.out (fun _ hk => ⟨⟨hk.1.1.1.1, ⟨hk.1.1.2, ⟨hk.2, hk.1.1.1.2⟩⟩⟩, hk.1.2⟩)) hg hat)).2.1)))
                     have n9_ := qa.mk ((show Kd.C k55 w49 (some ad690) y706.length y706 from by rw [Ny706.out]; exact Kd.jF (m := (x6_2 : Int).toNat) ((Kd.qH (Kd.vB (ok := (fun k_ => (w.heap.size ≤ k_) ∧ some k_ ≠ (.slice Ao42 y700.length co42 : Value).ownBlock ∧ some k_ ≠ (v714 : Value).ownBlock ∧ k_ ≠ gb689)) (by (with_reducible repeat (first | apply Kd.R_alloc | apply Kd.qo | apply Kd.qz)); exact Kd.qW HO_3.out (fun _ hk => ⟨⟨hk.1.1.1.1, ⟨hk.1.1.2, ⟨hk.2, hk.1.1.1.2⟩⟩⟩, hk.1.2⟩)) hg hat)).2.2) KL44.out))
                     have n10_ := qa.mk (ho)
                     clear HO_3
                     clear HO_684001
                     clear BK683
                     clear BK684
                     clear BK689
                     clear HO702
                     clear HO715
                     clear HB
                     clear HR699
                     clear HR709
                     clear HO705
                     have HO_3 := n0_
                     have HO_684001 := n1_
                     have BK683 := n2_
                     have BK684 := n3_
                     have BK689 := n4_
                     have HO702 := n5_
                     have HO715 := n6_
                     have HB := n7_
                     have HR699 := n8_
                     have HR709 := n9_
                     have HO712 := n10_
                     clear n0_ n1_ n2_ n3_ n4_ n5_ n6_ n7_ n8_ n9_ n10_
                     clear ho hb hg hat
                     refine hK.out _ _ ⟨(qj BK689.out 0).trans rfl, (qj BK689.out 1).trans rfl, (qj BK689.out 2).trans rfl⟩ (fun hHeld => ?_)
                     clear hK K
                     refine zo (a' := ?_) ?_ ?_
                     rotate_left
                     ·show Act.put _ (some 56) _ = _
                      simp only [Act.put, sA, sB, sC, qw, qx]
                      rfl
                     exact zo (by simp only [wZ, Act.put, List.setIfInBounds_toArray, List.set_cons_zero, List.set_cons_succ]) (hCont (v704, v711, v714) _ ⟨hHeld, (by (with_reducible repeat (first | apply Kd.R_alloc | apply Kd.qo | apply Kd.qz)); exact Kd.qW HO702.out (fun _ hk => ⟨hk.1.1, ⟨hk.2, ⟨hk.1.2.2.1, ⟨hk.1.2.1, hk.1.2.2.2⟩⟩⟩⟩)), (by (with_reducible repeat (first | apply Kd.R_alloc | apply Kd.qo | apply Kd.qz)); exact Kd.qW HO712.out (fun _ hk => ⟨hk.1, ⟨hk.2.2.1, ⟨hk.2.2.2.1, ⟨hk.2.1, hk.2.2.2.2⟩⟩⟩⟩)), (by (with_reducible repeat (first | apply Kd.R_alloc | apply Kd.qo | apply Kd.qz)); exact Kd.qW HO715.out (fun _ hk => ⟨hk.1.1, ⟨hk.1.2.2.1, ⟨hk.2, ⟨hk.1.2.1, hk.1.2.2.2⟩⟩⟩⟩)), (by (with_reducible repeat (first | apply Kd.R_alloc | apply Kd.qo | apply Kd.qz)); exact Kd.qW HO_3.out (fun _ hk => ⟨hk.1.1, ⟨hk.1.2.1, ⟨hk.2, ⟨hk.1.2.2.1, hk.1.2.2.2⟩⟩⟩⟩)), (by (with_reducible repeat (first | apply Kd.V_alloc | apply Kd.V_drewN | apply Kd.vg)); exact Kd.zg HO_684001.out (fun _ hk => ⟨hk.1.1, ⟨hk.1.2.2.1, ⟨hk.2, ⟨hk.1.2.2.2.1, ⟨hk.1.2.1, ⟨hk.1.2.2.2.2.1, ⟨hk.1.2.2.2.2.2.1, hk.1.2.2.2.2.2.2⟩⟩⟩⟩⟩⟩⟩)), (by (with_reducible repeat (first | refine qi ?_ _ | refine ql ?_ | refine qh ?_ _)); exact BK683.out), (by (with_reducible repeat (first | refine qi ?_ _ | refine ql ?_ | refine qh ?_ _)); exact BK684.out), (by (with_reducible repeat (first | refine qi ?_ _ | refine ql ?_ | refine qh ?_ _)); exact BK689.out), (by repeat (first | (with_reducible first | exact HB.out | apply qg | apply qb | apply qf | refine qd ?_ GE683.out | refine qd ?_ GE684.out | refine qd ?_ GE689.out) | exact HB.out))⟩)
                   ·skip
                    refine Kd.zC k55 _ 55 ?hg (N := 58) ?hd (xs := ([(⟨((qc l0_2 x4_1).f0), ((qc l0_2 x4_1).f1), ((qc l0_2 x4_1).f2)⟩ : S55)] : List (S55))) (inner := [.int .i64 ((qc l0_2 x4_1).f0), .int .i64 ((qc l0_2 x4_1).f1), .int .i64 ((qc l0_2 x4_1).f2)]) (ok := fun _ => True) (okp := fun _ => True) ?hr ?hp (fun _ hk => hk) trivial (Below.refl _ _) (Nat.le_refl _) (by simp) ?_; (case hd => rfl); (case hg => rfl); (case hr => first | (go_simp; done) | (go_simp; rfl)); (case hp => exact (Reps.c3 (show Kd.M k55 _ _ _ (⟨((qc l0_2 x4_1).f0), ((qc l0_2 x4_1).f1), ((qc l0_2 x4_1).f2)⟩ : S55) [.int .i64 ((qc l0_2 x4_1).f0), .int .i64 ((qc l0_2 x4_1).f1), .int .i64 ((qc l0_2 x4_1).f2)] from (wm _ _ _ (⟨((qc l0_2 x4_1).f0), ((qc l0_2 x4_1).f1), ((qc l0_2 x4_1).f2)⟩ : S55) )) (Reps.none _ _)))
                    intro v714 w45 ho46 hb hg_ hnew_
                    clear hg_ hnew_
                    (first | rw [← Ny713.out] at ho46 | (simp only [Int.reduceToNat] at ho46; rw [← Ny713.out] at ho46))
                    have n0_ := qa.mk (Kd.vv (by (with_reducible repeat (first | apply Kd.R_alloc | apply Kd.qo | apply Kd.qz)); exact HO_3.out) (Kd.vE ho46) hb)
                    have n1_ := qa.mk (Kd.zL (by (with_reducible repeat (first | apply Kd.V_alloc | apply Kd.V_drewN | apply Kd.vg)); exact HO_684001.out) (Kd.vE ho46) hb)
                    have n2_ := qa.mk (Kd.vv (by (with_reducible repeat (first | apply Kd.R_alloc | apply Kd.qo | apply Kd.qz)); exact HO702.out) (Kd.vE ho46) hb)
                    have n3_ := qa.mk (Kd.vO (Kd.wY (Kd.vR (Kd.vR (Kd.wS (M := fun k_ => (w.heap.size ≤ k_)) ho46 (qA (by repeat (first | (with_reducible first | exact HB.out | apply qg | apply qb | apply qf | refine qd ?_ GE683.out | refine qd ?_ GE684.out | refine qd ?_ GE689.out) | exact HB.out))) (fun k_ h_ => h_)) (Kd.R_lt (by (with_reducible repeat (first | apply Kd.R_alloc | apply Kd.qo | apply Kd.qz)); exact HO_3.out))) (Kd.R_lt (by (with_reducible repeat (first | apply Kd.R_alloc | apply Kd.qo | apply Kd.qz)); exact HO702.out))) (g := gb689) (o := .cells #[.int .i64 ((qc l0_2 x4_1).f0), .int .i64 ((qc l0_2 x4_1).f1), .int .i64 ((qc l0_2 x4_1).f2)] 55 (0, 0)) (by (with_reducible repeat (first | refine qi ?_ _ | refine ql ?_ | refine qh ?_ _)); exact BK689.out)) (qA (by repeat (first | (with_reducible first | exact HB.out | apply qg | apply qb | apply qf | refine qd ?_ GE683.out | refine qd ?_ GE684.out | refine qd ?_ GE689.out) | exact HB.out))))
                    have n4_ := qa.mk (qB (g := gb683) (o := .cells #[.int .i64 a0_0, .slice A0_1 l0_1.length c0_1, .slice (some ad688) l0_2.length c0_2] 25 (0, 0)) (by (with_reducible repeat (first | refine qi ?_ _ | refine ql ?_ | refine qh ?_ _)); exact BK683.out) hb)
                    have n5_ := qa.mk (qB (g := gb684) (o := .cells #[.int .i64 0, .slice none 0 0, .slice none 0 0] 25 (0, 0)) (by (with_reducible repeat (first | refine qi ?_ _ | refine ql ?_ | refine qh ?_ _)); exact BK684.out) hb)
                    have n6_ := qa.mk (qB (g := gb689) (o := .cells #[.int .i64 ((qc l0_2 x4_1).f0), .int .i64 ((qc l0_2 x4_1).f1), .int .i64 ((qc l0_2 x4_1).f2)] 55 (0, 0)) (by (with_reducible repeat (first | refine qi ?_ _ | refine ql ?_ | refine qh ?_ _)); exact BK689.out) hb)
                    have n7_ := qa.mk (Kd.qU (by repeat (first | (with_reducible exact HR699.out) | (with_reducible refine Kd.C_alloc ?_ _) | (with_reducible refine Kd.C_drewN ?_ _) | (with_reducible refine Kd.qQ ?_) | exact HR699.out)) hb)
                    have n8_ := qa.mk (Kd.qU (by repeat (first | (with_reducible exact HR709.out) | (with_reducible refine Kd.C_alloc ?_ _) | (with_reducible refine Kd.C_drewN ?_ _) | (with_reducible refine Kd.qQ ?_) | exact HR709.out)) hb)
                    have n9_ := qa.mk (qD (by repeat (first | (with_reducible first | exact HB.out | apply qg | apply qb | apply qf | refine qd ?_ GE683.out | refine qd ?_ GE684.out | refine qd ?_ GE689.out) | exact HB.out)) hb)
                    clear HO_3
                    clear HO_684001
                    clear HO702
                    clear BK683
                    clear BK684
                    clear BK689
                    clear HR699
                    clear HR709
                    clear HB
                    have HO_3 := n0_
                    have HO_684001 := n1_
                    have HO702 := n2_
                    have HO715 := n3_
                    have BK683 := n4_
                    have BK684 := n5_
                    have BK689 := n6_
                    have HR699 := n7_
                    have HR709 := n8_
                    have HB := n9_
                    clear n0_ n1_ n2_ n3_ n4_ n5_ n6_ n7_ n8_ n9_
                    clear hb ho46
                    refine hK.out _ _ ⟨(qj BK689.out 0).trans rfl, (qj BK689.out 1).trans rfl, (qj BK689.out 2).trans rfl⟩ (fun hHeld => ?_)
                    clear hK K
                    refine zo (a' := ?_) ?_ ?_
                    rotate_left
                    ·show Act.put _ (some 58) _ = _
                     simp only [Act.put, sA, sB, sC, qw, qx]
                     rfl
                    refine one_ (i := 0) (N := some 52) tb4_25 rfl rfl (zU HT_.out (by kernel_rfl)) (by decide) (fun K hK => ?_)
                    refine Kd.zC k55 _ 55 ?hg (N := 52) ?hd (xs := ([] : List (S55))) (inner := []) (ok := fun _ => True) (okp := fun _ => True) ?hr ?hp (fun _ hk => hk) trivial (Below.refl _ _) (Nat.le_refl _) (by simp) ?_; (case hd => rfl); (case hg => rfl); (case hr => first | (go_simp; done) | (go_simp; rfl)); (case hp => exact (Reps.none _ _))
                    intro v704 w47 ho48 hb hg_ hnew_
                    clear hg_ hnew_
                    (first | rw [← Ny703.out] at ho48 | (simp only [Int.reduceToNat] at ho48; rw [← Ny703.out] at ho48))
                    have n0_ := qa.mk (Kd.vv (by (with_reducible repeat (first | apply Kd.R_alloc | apply Kd.qo | apply Kd.qz)); exact HO_3.out) (Kd.vE ho48) hb)
                    have n1_ := qa.mk (Kd.zL (by (with_reducible repeat (first | apply Kd.V_alloc | apply Kd.V_drewN | apply Kd.vg)); exact HO_684001.out) (Kd.vE ho48) hb)
                    have n2_ := qa.mk (Kd.vv (by (with_reducible repeat (first | apply Kd.R_alloc | apply Kd.qo | apply Kd.qz)); exact HO702.out) (Kd.vE ho48) hb)
                    have n3_ := qa.mk (Kd.vv (by (with_reducible repeat (first | apply Kd.R_alloc | apply Kd.qo | apply Kd.qz)); exact HO715.out) (Kd.vE ho48) hb)
                    have n4_ := qa.mk (Kd.vO (Kd.wY (Kd.vR (Kd.vR (Kd.vR (Kd.wS (M := fun k_ => (w.heap.size ≤ k_)) ho48 (qA (by repeat (first | (with_reducible first | exact HB.out | apply qg | apply qb | apply qf | refine qd ?_ GE683.out | refine qd ?_ GE684.out | refine qd ?_ GE689.out) | exact HB.out))) (fun k_ h_ => h_)) (Kd.R_lt (by (with_reducible repeat (first | apply Kd.R_alloc | apply Kd.qo | apply Kd.qz)); exact HO_3.out))) (Kd.R_lt (by (with_reducible repeat (first | apply Kd.R_alloc | apply Kd.qo | apply Kd.qz)); exact HO702.out))) (Kd.R_lt (by (with_reducible repeat (first | apply Kd.R_alloc | apply Kd.qo | apply Kd.qz)); exact HO715.out))) (g := gb689) (o := .cells #[.int .i64 ((qc l0_2 x4_1).f0), .int .i64 ((qc l0_2 x4_1).f1), .int .i64 ((qc l0_2 x4_1).f2)] 55 (0, 0)) (by (with_reducible repeat (first | refine qi ?_ _ | refine ql ?_ | refine qh ?_ _)); exact BK689.out)) (qA (by repeat (first | (with_reducible first | exact HB.out | apply qg | apply qb | apply qf | refine qd ?_ GE683.out | refine qd ?_ GE684.out | refine qd ?_ GE689.out) | exact HB.out))))
                    have n5_ := qa.mk (qB (g := gb683) (o := .cells #[.int .i64 a0_0, .slice A0_1 l0_1.length c0_1, .slice (some ad688) l0_2.length c0_2] 25 (0, 0)) (by (with_reducible repeat (first | refine qi ?_ _ | refine ql ?_ | refine qh ?_ _)); exact BK683.out) hb)
                    have n6_ := qa.mk (qB (g := gb684) (o := .cells #[.int .i64 0, .slice none 0 0, .slice none 0 0] 25 (0, 0)) (by (with_reducible repeat (first | refine qi ?_ _ | refine ql ?_ | refine qh ?_ _)); exact BK684.out) hb)
                    have n7_ := qa.mk (qB (g := gb689) (o := .cells #[.int .i64 ((qc l0_2 x4_1).f0), .int .i64 ((qc l0_2 x4_1).f1), .int .i64 ((qc l0_2 x4_1).f2)] 55 (0, 0)) (by (with_reducible repeat (first | refine qi ?_ _ | refine ql ?_ | refine qh ?_ _)); exact BK689.out) hb)
                    have n8_ := qa.mk (Kd.qU (by repeat (first | (with_reducible exact HR699.out) | (with_reducible refine Kd.C_alloc ?_ _) | (with_reducible refine Kd.C_drewN ?_ _) | (with_reducible refine Kd.qQ ?_) | exact HR699.out)) hb)
                    have n9_ := qa.mk (Kd.qU (by repeat (first | (with_reducible exact HR709.out) | (with_reducible refine Kd.C_alloc ?_ _) | (with_reducible refine Kd.C_drewN ?_ _) | (with_reducible refine Kd.qQ ?_) | exact HR709.out)) hb)
                    have n10_ := qa.mk (qD (by repeat (first | (with_reducible first | exact HB.out | apply qg | apply qb | apply qf | refine qd ?_ GE683.out | refine qd ?_ GE684.out | refine qd ?_ GE689.out) | exact HB.out)) hb)
                    clear HO_3
                    clear HO_684001
                    clear HO702
                    clear HO715
                    clear BK683
                    clear BK684
                    clear BK689
                    clear HR699
                    clear HR709
                    clear HB
                    have HO_3 := n0_
                    have HO_684001 := n1_
                    have HO702 := n2_
                    have HO715 := n3_
                    have HO705 := n4_
                    have BK683 := n5_
                    have BK684 := n6_
                    have BK689 := n7_
                    have HR699 := n8_
                    have HR709 := n9_
                    have HB := n10_
                    clear n0_ n1_ n2_ n3_ n4_ n5_ n6_ n7_ n8_ n9_ n10_
                    clear hb ho48
                    refine hK.out _ _ ⟨(qj BK689.out 0).trans rfl, (qj BK689.out 1).trans rfl, (qj BK689.out 2).trans rfl⟩ (fun hHeld => ?_)
                    clear hK K
                    refine zo (a' := ?_) ?_ ?_
                    rotate_left
                    ·show Act.put _ (some 52) _ = _
                     simp only [Act.put, sA, sB, sC, qw, qx]
                     rfl
                    refine one_ (i := 4) (N := some 56) tb4_21 rfl rfl (zU HT_.out (by kernel_rfl)) (by decide) (fun K hK => ?_)
                    refine Kd.vM k55 (w0 := w) w.heap.size (by rfl) (.tmp 52) (.tmp 55) 23 55 (.agg #[(.int .i64 0), (.int .i64 0), (.int .i64 0)]) 24 rfl Try.underlying23 zZ rfl (by decide) (by omega) v704 y703 y706 _ _ _ (fun k_ => (w.heap.size ≤ k_) ∧ some k_ ≠ (.slice (some ad690) x3_1.length co14 : Value).ownBlock ∧ some k_ ≠ (.slice Ao42 y700.length co42 : Value).ownBlock ∧ some k_ ≠ (v714 : Value).ownBlock ∧ k_ ≠ gb689) (fun _ => False) rfl rfl ?aO ?aR (fun _ _ h => h) (fun _ h => h.elim) ?aF ?aB ?aS ?aL ?_
                    (case aR => repeat (first | exact (by repeat (first | (with_reducible exact HR709.out) | (with_reducible refine Kd.C_alloc ?_ _) | (with_reducible refine Kd.C_drewN ?_ _) | (with_reducible refine Kd.qQ ?_) | exact HR709.out)) | (with_reducible refine Kd.C_alloc ?_ _) | (with_reducible refine Kd.C_drewN ?_ _) | (with_reducible refine Kd.qQ ?_)))
                    (case aB => exact (by repeat (first | (with_reducible first | exact HB.out | apply qg | apply qb | apply qf | refine qd ?_ GE683.out | refine qd ?_ GE684.out | refine qd ?_ GE689.out) | exact HB.out)))
                    (case aF => exact (fun k_ hk => ⟨(Nat.le_trans (qA (by repeat (first | (with_reducible first | exact HB.out | apply qg | apply qb | apply qf | refine qd ?_ GE683.out | refine qd ?_ GE684.out | refine qd ?_ GE689.out) | exact HB.out))) hk), Kd.fresh' (Kd.R_lt (by (with_reducible repeat (first | apply Kd.R_alloc | apply Kd.qo | apply Kd.qz)); exact HO_3.out)) k_ hk, Kd.fresh' (Kd.R_lt (by (with_reducible repeat (first | apply Kd.R_alloc | apply Kd.qo | apply Kd.qz)); exact HO702.out)) k_ hk, Kd.fresh' (Kd.R_lt (by (with_reducible repeat (first | apply Kd.R_alloc | apply Kd.qo | apply Kd.qz)); exact HO715.out)) k_ hk, Kd.wD (g := gb689) (o := .cells #[.int .i64 ((qc l0_2 x4_1).f0), .int .i64 ((qc l0_2 x4_1).f1), .int .i64 ((qc l0_2 x4_1).f2)] 55 (0, 0)) (by (with_reducible repeat (first | refine qi ?_ _ | refine ql ?_ | refine qh ?_ _)); exact BK689.out) k_ hk⟩))
                    (case aO => exact (by (with_reducible repeat (first | apply Kd.R_alloc | apply Kd.qo | apply Kd.qz)); exact Kd.qW HO705.out (fun _ hk => ⟨hk.1.1.1.1.1, ⟨hk.1.1.1.2, ⟨hk.1.1.2, ⟨hk.1.2, hk.2⟩⟩⟩⟩)))
                    (case aS => exact (qA (by repeat (first | (with_reducible first | exact HB.out | apply qg | apply qb | apply qf | refine qd ?_ GE683.out | refine qd ?_ GE684.out | refine qd ?_ GE689.out) | exact HB.out))))
                    (case aL => have := LMc32.out; omega)
                    intro v711 w49 ho hb hg hat
                    rw [← Ny710.out] at ho
                    have n0_ := qa.mk (Kd.vB (ok := (fun k_ => (w.heap.size ≤ k_) ∧ some k_ ≠ (.slice Ao42 y700.length co42 : Value).ownBlock ∧ some k_ ≠ (v714 : Value).ownBlock ∧ k_ ≠ gb689)) (by (with_reducible repeat (first | apply Kd.R_alloc | apply Kd.qo | apply Kd.qz)); exact Kd.qW HO_3.out (fun _ hk => ⟨⟨hk.1.1.1.1, ⟨hk.1.1.2, ⟨hk.1.2, hk.1.1.1.2⟩⟩⟩, hk.2⟩)) hg hat)
                    have n1_ := qa.mk (Kd.zJ (ok := (fun k_ => (P0_1_ k_ ∨ w.heap.size ≤ k_) ∧ some k_ ≠ (.slice (some ad690) x3_1.length co14 : Value).ownBlock ∧ some k_ ≠ (.slice Ao42 y700.length co42 : Value).ownBlock ∧ some k_ ≠ (v714 : Value).ownBlock ∧ k_ ≠ gb683 ∧ k_ ≠ gb684 ∧ k_ ≠ gb689)) (by (with_reducible repeat (first | apply Kd.V_alloc | apply Kd.V_drewN | apply Kd.vg)); exact Kd.zg HO_684001.out (fun _ hk => ⟨⟨hk.1.1.1.1, ⟨hk.1.1.1.2.1, ⟨hk.1.1.2, ⟨hk.1.2, ⟨hk.1.1.1.2.2.1, ⟨hk.1.1.1.2.2.2.1, hk.1.1.1.2.2.2.2⟩⟩⟩⟩⟩⟩, hk.2⟩)) hg hat)
                    have n2_ := qa.mk (q9 (g := gb683) (o := .cells #[.int .i64 a0_0, .slice A0_1 l0_1.length c0_1, .slice (some ad688) l0_2.length c0_2] 25 (0, 0)) (by (with_reducible repeat (first | refine qi ?_ _ | refine ql ?_ | refine qh ?_ _)); exact BK683.out) hg (Kd.R_ne HO705.out BK683.out (by decide)))
                    have n3_ := qa.mk (q9 (g := gb684) (o := .cells #[.int .i64 0, .slice none 0 0, .slice none 0 0] 25 (0, 0)) (by (with_reducible repeat (first | refine qi ?_ _ | refine ql ?_ | refine qh ?_ _)); exact BK684.out) hg (Kd.R_ne HO705.out BK684.out (by decide)))
                    have n4_ := qa.mk (q9 (g := gb689) (o := .cells #[.int .i64 ((qc l0_2 x4_1).f0), .int .i64 ((qc l0_2 x4_1).f1), .int .i64 ((qc l0_2 x4_1).f2)] 55 (0, 0)) (by (with_reducible repeat (first | refine qi ?_ _ | refine ql ?_ | refine qh ?_ _)); exact BK689.out) hg (Kd.wX HO705.out (fun _ hk => hk.2)))
                    have n5_ := qa.mk (Kd.vB (ok := (fun k_ => (w.heap.size ≤ k_) ∧ some k_ ≠ (.slice (some ad690) x3_1.length co14 : Value).ownBlock ∧ some k_ ≠ (v714 : Value).ownBlock ∧ k_ ≠ gb689)) (by (with_reducible repeat (first | apply Kd.R_alloc | apply Kd.qo | apply Kd.qz)); exact Kd.qW HO702.out (fun _ hk => ⟨⟨hk.1.1.1, ⟨hk.1.1.2.1, ⟨hk.1.2, hk.1.1.2.2⟩⟩⟩, hk.2⟩)) hg hat)
                    have n6_ := qa.mk (Kd.vB (ok := (fun k_ => (w.heap.size ≤ k_) ∧ some k_ ≠ (.slice (some ad690) x3_1.length co14 : Value).ownBlock ∧ some k_ ≠ (.slice Ao42 y700.length co42 : Value).ownBlock ∧ k_ ≠ gb689)) (by (with_reducible repeat (first | apply Kd.R_alloc | apply Kd.qo | apply Kd.qz)); exact Kd.qW HO715.out (fun _ hk => ⟨⟨hk.1.1.1.1.1, ⟨hk.1.1.1.2, ⟨hk.1.1.2, hk.1.2⟩⟩⟩, hk.2⟩)) hg hat)
                    have n7_ := qa.mk (hb)
                    have n8_ := qa.mk ((show Kd.C k55 w49 A40 y696.length y696 from by rw [Ny696.out, KA40.out]; exact Kd.jb (m := (x6_2 : Int).toNat) (c := co14) ((Kd.qH (Kd.vB (ok := (fun k_ => (w.heap.size ≤ k_) ∧ some k_ ≠ (.slice Ao42 y700.length co42 : Value).ownBlock ∧ some k_ ≠ (v714 : Value).ownBlock ∧ k_ ≠ gb689)) (by (with_reducible repeat (first | apply Kd.R_alloc | apply Kd.qo | apply Kd.qz)); exact Kd.qW HO_3.out (fun _ hk => ⟨⟨hk.1.1.1.1, ⟨hk.1.1.2, ⟨hk.1.2, hk.1.1.1.2⟩⟩⟩, hk.2⟩)) hg hat)).2.2) KL40.out ((Kd.qH (Kd.vB (ok := (fun k_ => (w.heap.size ≤ k_) ∧ some k_ ≠ (.slice Ao42 y700.length co42 : Value).ownBlock ∧ some k_ ≠ (v714 : Value).ownBlock ∧ k_ ≠ gb689)) (by (with_reducible repeat (first | apply Kd.R_alloc | apply Kd.qo | apply Kd.qz)); exact Kd.qW HO_3.out (fun _ hk => ⟨⟨hk.1.1.1.1, ⟨hk.1.1.2, ⟨hk.1.2, hk.1.1.1.2⟩⟩⟩, hk.2⟩)) hg hat)).2.1)))
                    have n9_ := qa.mk ((show Kd.C k55 w49 (some ad690) y706.length y706 from by rw [Ny706.out]; exact Kd.jF (m := (x6_2 : Int).toNat) ((Kd.qH (Kd.vB (ok := (fun k_ => (w.heap.size ≤ k_) ∧ some k_ ≠ (.slice Ao42 y700.length co42 : Value).ownBlock ∧ some k_ ≠ (v714 : Value).ownBlock ∧ k_ ≠ gb689)) (by (with_reducible repeat (first | apply Kd.R_alloc | apply Kd.qo | apply Kd.qz)); exact Kd.qW HO_3.out (fun _ hk => ⟨⟨hk.1.1.1.1, ⟨hk.1.1.2, ⟨hk.1.2, hk.1.1.1.2⟩⟩⟩, hk.2⟩)) hg hat)).2.2) KL44.out))
                    have n10_ := qa.mk (ho)
                    clear HO_3
                    clear HO_684001
                    clear BK683
                    clear BK684
                    clear BK689
                    clear HO702
                    clear HO715
                    clear HB
                    clear HR699
                    clear HR709
                    clear HO705
                    have HO_3 := n0_
                    have HO_684001 := n1_
                    have BK683 := n2_
                    have BK684 := n3_
                    have BK689 := n4_
                    have HO702 := n5_
                    have HO715 := n6_
                    have HB := n7_
                    have HR699 := n8_
                    have HR709 := n9_
                    have HO712 := n10_
                    clear n0_ n1_ n2_ n3_ n4_ n5_ n6_ n7_ n8_ n9_ n10_
                    clear ho hb hg hat
                    refine hK.out _ _ ⟨(qj BK689.out 0).trans rfl, (qj BK689.out 1).trans rfl, (qj BK689.out 2).trans rfl⟩ (fun hHeld => ?_)
                    clear hK K
                    refine zo (a' := ?_) ?_ ?_
                    rotate_left
                    ·show Act.put _ (some 56) _ = _
                     simp only [Act.put, sA, sB, sC, qw, qx]
                     rfl
                    exact zo (by simp only [wZ, Act.put, List.setIfInBounds_toArray, List.set_cons_zero, List.set_cons_succ]) (hCont (v704, v711, v714) _ ⟨hHeld, (by (with_reducible repeat (first | apply Kd.R_alloc | apply Kd.qo | apply Kd.qz)); exact Kd.qW HO702.out (fun _ hk => ⟨hk.1.1, ⟨hk.2, ⟨hk.1.2.2.1, ⟨hk.1.2.1, hk.1.2.2.2⟩⟩⟩⟩)), (by (with_reducible repeat (first | apply Kd.R_alloc | apply Kd.qo | apply Kd.qz)); exact Kd.qW HO712.out (fun _ hk => ⟨hk.1, ⟨hk.2.2.1, ⟨hk.2.2.2.1, ⟨hk.2.1, hk.2.2.2.2⟩⟩⟩⟩)), (by (with_reducible repeat (first | apply Kd.R_alloc | apply Kd.qo | apply Kd.qz)); exact Kd.qW HO715.out (fun _ hk => ⟨hk.1.1, ⟨hk.1.2.2.1, ⟨hk.2, ⟨hk.1.2.1, hk.1.2.2.2⟩⟩⟩⟩)), (by (with_reducible repeat (first | apply Kd.R_alloc | apply Kd.qo | apply Kd.qz)); exact Kd.qW HO_3.out (fun _ hk => ⟨hk.1.1, ⟨hk.1.2.1, ⟨hk.2, ⟨hk.1.2.2.1, hk.1.2.2.2⟩⟩⟩⟩)), (by (with_reducible repeat (first | apply Kd.V_alloc | apply Kd.V_drewN | apply Kd.vg)); exact Kd.zg HO_684001.out (fun _ hk => ⟨hk.1.1, ⟨hk.1.2.2.1, ⟨hk.2, ⟨hk.1.2.2.2.1, ⟨hk.1.2.1, ⟨hk.1.2.2.2.2.1, ⟨hk.1.2.2.2.2.2.1, hk.1.2.2.2.2.2.2⟩⟩⟩⟩⟩⟩⟩)), (by (with_reducible repeat (first | refine qi ?_ _ | refine ql ?_ | refine qh ?_ _)); exact BK683.out), (by (with_reducible repeat (first | refine qi ?_ _ | refine ql ?_ | refine qh ?_ _)); exact BK684.out), (by (with_reducible repeat (first | refine qi ?_ _ | refine ql ?_ | refine qh ?_ _)); exact BK689.out), (by repeat (first | (with_reducible first | exact HB.out | apply qg | apply qb | apply qf | refine qd ?_ GE683.out | refine qd ?_ GE684.out | refine qd ?_ GE689.out) | exact HB.out))⟩)
                  rintro ⟨v704, v711, v714⟩ w50 ⟨hS_, h0_, h1_, h2_, h3_, h4_, h5_, h6_, h7_, h8_⟩
                  have n0_ : qa (Kd.R k55 55 w50 w.heap.size (fun k_ => (w.heap.size ≤ k_) ∧ some k_ ≠ (v711 : Value).ownBlock ∧ some k_ ≠ (v714 : Value).ownBlock ∧ some k_ ≠ (.slice (some ad690) x3_1.length co14 : Value).ownBlock ∧ k_ ≠ gb689) (.slice Ao42 y700.length co42) y700) := ⟨h0_⟩
                  have n1_ : qa (Kd.R k55 55 w50 w.heap.size (fun k_ => (w.heap.size ≤ k_) ∧ some k_ ≠ (.slice Ao42 y700.length co42 : Value).ownBlock ∧ some k_ ≠ (v714 : Value).ownBlock ∧ some k_ ≠ (.slice (some ad690) x3_1.length co14 : Value).ownBlock ∧ k_ ≠ gb689) v711 y710) := ⟨h1_⟩
                  have n2_ : qa (Kd.R k55 55 w50 w.heap.size (fun k_ => (w.heap.size ≤ k_) ∧ some k_ ≠ (.slice Ao42 y700.length co42 : Value).ownBlock ∧ some k_ ≠ (v711 : Value).ownBlock ∧ some k_ ≠ (.slice (some ad690) x3_1.length co14 : Value).ownBlock ∧ k_ ≠ gb689) v714 y713) := ⟨h2_⟩
                  have n3_ : qa (Kd.R k55 55 w50 w.heap.size (fun k_ => (w.heap.size ≤ k_) ∧ some k_ ≠ (.slice Ao42 y700.length co42 : Value).ownBlock ∧ some k_ ≠ (v711 : Value).ownBlock ∧ some k_ ≠ (v714 : Value).ownBlock ∧ k_ ≠ gb689) (.slice (some ad690) x3_1.length co14) x3_1) := ⟨h3_⟩
                  have n4_ : qa (Kd.V Kd.string 9 w50 w.heap.size (fun k_ => (P0_1_ k_ ∨ w.heap.size ≤ k_) ∧ some k_ ≠ (.slice Ao42 y700.length co42 : Value).ownBlock ∧ some k_ ≠ (v711 : Value).ownBlock ∧ some k_ ≠ (v714 : Value).ownBlock ∧ some k_ ≠ (.slice (some ad690) x3_1.length co14 : Value).ownBlock ∧ k_ ≠ gb683 ∧ k_ ≠ gb684 ∧ k_ ≠ gb689) (.slice A0_1 l0_1.length c0_1) l0_1) := ⟨h4_⟩
                  have n5_ : qa (w50.heap[gb683]? = some (.cells #[.int .i64 a0_0, .slice A0_1 l0_1.length c0_1, .slice (some ad688) l0_2.length c0_2] 25 (0, 0))) := ⟨h5_⟩
                  have n6_ : qa (w50.heap[gb684]? = some (.cells #[.int .i64 0, .slice none 0 0, .slice none 0 0] 25 (0, 0))) := ⟨h6_⟩
                  have n7_ : qa (w50.heap[gb689]? = some (.cells #[.int .i64 ((qc l0_2 x4_1).f0), .int .i64 ((qc l0_2 x4_1).f1), .int .i64 ((qc l0_2 x4_1).f2)] 55 (0, 0))) := ⟨h7_⟩
                  have n8_ : qa (Below w.heap.size w w50) := ⟨h8_⟩
                  clear HO_3
                  clear HO_684001
                  clear HO702
                  clear BK683
                  clear BK684
                  clear BK689
                  clear HR699
                  clear HB
                  clear h0_ h1_ h2_ h3_ h4_ h5_ h6_ h7_ h8_
                  have HO702 := n0_
                  have HO712 := n1_
                  have HO715 := n2_
                  have HO_3 := n3_
                  have HO_684001 := n4_
                  have BK683 := n5_
                  have BK684 := n6_
                  have BK689 := n7_
                  have HB := n8_
                  clear n0_ n1_ n2_ n3_ n4_ n5_ n6_ n7_ n8_
                  have hHeld : w50.cell? ⟨gb689, 0, none⟩ = some (.int .i64 ((qc l0_2 x4_1).f0)) ∧ w50.cell? ⟨gb689, 1, none⟩ = some (.int .i64 ((qc l0_2 x4_1).f1)) ∧ w50.cell? ⟨gb689, 2, none⟩ = some (.int .i64 ((qc l0_2 x4_1).f2)) := hS_
                  obtain ⟨Ao52, co52, eo52⟩ := Kd.zn HO715.out
                  (first | subst eo52 | (injection eo52 with f1_ f2_ f3_; have f4_ := f1_.symm; have f5_ := f3_.symm; clear f1_ f2_ f3_; subst f4_; subst f5_))
                  refine zo (a' := ?_) ?_ ?_
                  rotate_left
                  ·simp only [wZ, Act.put, List.setIfInBounds_toArray, List.set_cons_zero, List.set_cons_succ]
                   rfl
                  refine one_ (i := 7) (N := some 59) tb4_9 rfl rfl (zU HT_.out (by kernel_rfl)) (by decide) (fun K hK => ?_)
                  refine Kd.vM k55 (w0 := w) w.heap.size (by rfl) (.tmp 56) (.tmp 58) 23 55 (.agg #[(.int .i64 0), (.int .i64 0), (.int .i64 0)]) 24 rfl Try.underlying23 zZ rfl (by decide) (by omega) v711 y710 y713 _ _ _ (fun k_ => (w.heap.size ≤ k_) ∧ some k_ ≠ (.slice (some ad690) x3_1.length co14 : Value).ownBlock ∧ some k_ ≠ (.slice Ao42 y700.length co42 : Value).ownBlock ∧ some k_ ≠ (.slice Ao52 y713.length co52 : Value).ownBlock ∧ k_ ≠ gb689) (fun _ => False) rfl rfl ?aO ?aR (fun _ _ h => h) (fun _ h => h.elim) ?aF ?aB ?aS ?aL ?_
                  (case aR => repeat (first | exact (Kd.qH HO715.out).2.2 | (with_reducible refine Kd.C_alloc ?_ _) | (with_reducible refine Kd.C_drewN ?_ _) | (with_reducible refine Kd.qQ ?_)))
                  (case aB => exact (by repeat (first | (with_reducible first | exact HB.out | apply qg | apply qb | apply qf | refine qd ?_ GE683.out | refine qd ?_ GE684.out | refine qd ?_ GE689.out) | exact HB.out)))
                  (case aF => exact (fun k_ hk => ⟨(Nat.le_trans (qA (by repeat (first | (with_reducible first | exact HB.out | apply qg | apply qb | apply qf | refine qd ?_ GE683.out | refine qd ?_ GE684.out | refine qd ?_ GE689.out) | exact HB.out))) hk), Kd.fresh' (Kd.R_lt (by (with_reducible repeat (first | apply Kd.R_alloc | apply Kd.qo | apply Kd.qz)); exact HO_3.out)) k_ hk, Kd.fresh' (Kd.R_lt (by (with_reducible repeat (first | apply Kd.R_alloc | apply Kd.qo | apply Kd.qz)); exact HO702.out)) k_ hk, Kd.fresh' (Kd.R_lt (by (with_reducible repeat (first | apply Kd.R_alloc | apply Kd.qo | apply Kd.qz)); exact HO715.out)) k_ hk, Kd.wD (g := gb689) (o := .cells #[.int .i64 ((qc l0_2 x4_1).f0), .int .i64 ((qc l0_2 x4_1).f1), .int .i64 ((qc l0_2 x4_1).f2)] 55 (0, 0)) (by (with_reducible repeat (first | refine qi ?_ _ | refine ql ?_ | refine qh ?_ _)); exact BK689.out) k_ hk⟩))
                  (case aO => exact (by (with_reducible repeat (first | apply Kd.R_alloc | apply Kd.qo | apply Kd.qz)); exact Kd.qW HO712.out (fun _ hk => ⟨hk.1, ⟨hk.2.2.2.1, ⟨hk.2.1, ⟨hk.2.2.1, hk.2.2.2.2⟩⟩⟩⟩)))
                  (case aS => exact (qA (by repeat (first | (with_reducible first | exact HB.out | apply qg | apply qb | apply qf | refine qd ?_ GE683.out | refine qd ?_ GE684.out | refine qd ?_ GE689.out) | exact HB.out))))
                  (case aL => have := LMc33.out; omega)
                  intro v717 w51 ho hb hg hat
                  rw [← Ny716.out] at ho
                  have n0_ := qa.mk (Kd.vB (ok := (fun k_ => (w.heap.size ≤ k_) ∧ some k_ ≠ (.slice Ao42 y700.length co42 : Value).ownBlock ∧ some k_ ≠ (.slice Ao52 y713.length co52 : Value).ownBlock ∧ k_ ≠ gb689)) (by (with_reducible repeat (first | apply Kd.R_alloc | apply Kd.qo | apply Kd.qz)); exact Kd.qW HO_3.out (fun _ hk => ⟨⟨hk.1, ⟨hk.2.1, ⟨hk.2.2.2.1, hk.2.2.2.2⟩⟩⟩, hk.2.2.1⟩)) hg hat)
                  have n1_ := qa.mk (Kd.zJ (ok := (fun k_ => (P0_1_ k_ ∨ w.heap.size ≤ k_) ∧ some k_ ≠ (.slice (some ad690) x3_1.length co14 : Value).ownBlock ∧ some k_ ≠ (.slice Ao42 y700.length co42 : Value).ownBlock ∧ some k_ ≠ (.slice Ao52 y713.length co52 : Value).ownBlock ∧ k_ ≠ gb683 ∧ k_ ≠ gb684 ∧ k_ ≠ gb689)) (by (with_reducible repeat (first | apply Kd.V_alloc | apply Kd.V_drewN | apply Kd.vg)); exact Kd.zg HO_684001.out (fun _ hk => ⟨⟨hk.1, ⟨hk.2.2.2.2.1, ⟨hk.2.1, ⟨hk.2.2.2.1, ⟨hk.2.2.2.2.2.1, ⟨hk.2.2.2.2.2.2.1, hk.2.2.2.2.2.2.2⟩⟩⟩⟩⟩⟩, hk.2.2.1⟩)) hg hat)
                  have n2_ := qa.mk (q9 (g := gb683) (o := .cells #[.int .i64 a0_0, .slice A0_1 l0_1.length c0_1, .slice (some ad688) l0_2.length c0_2] 25 (0, 0)) (by (with_reducible repeat (first | refine qi ?_ _ | refine ql ?_ | refine qh ?_ _)); exact BK683.out) hg (Kd.R_ne HO712.out BK683.out (by decide)))
                  have n3_ := qa.mk (q9 (g := gb684) (o := .cells #[.int .i64 0, .slice none 0 0, .slice none 0 0] 25 (0, 0)) (by (with_reducible repeat (first | refine qi ?_ _ | refine ql ?_ | refine qh ?_ _)); exact BK684.out) hg (Kd.R_ne HO712.out BK684.out (by decide)))
                  have n4_ := qa.mk (q9 (g := gb689) (o := .cells #[.int .i64 ((qc l0_2 x4_1).f0), .int .i64 ((qc l0_2 x4_1).f1), .int .i64 ((qc l0_2 x4_1).f2)] 55 (0, 0)) (by (with_reducible repeat (first | refine qi ?_ _ | refine ql ?_ | refine qh ?_ _)); exact BK689.out) hg (Kd.wX HO712.out (fun _ hk => hk.2.2.2.2)))
                  have n5_ := qa.mk (Kd.vB (ok := (fun k_ => (w.heap.size ≤ k_) ∧ some k_ ≠ (.slice (some ad690) x3_1.length co14 : Value).ownBlock ∧ some k_ ≠ (.slice Ao52 y713.length co52 : Value).ownBlock ∧ k_ ≠ gb689)) (by (with_reducible repeat (first | apply Kd.R_alloc | apply Kd.qo | apply Kd.qz)); exact Kd.qW HO702.out (fun _ hk => ⟨⟨hk.1, ⟨hk.2.2.2.1, ⟨hk.2.2.1, hk.2.2.2.2⟩⟩⟩, hk.2.1⟩)) hg hat)
                  have n6_ := qa.mk (Kd.vB (ok := (fun k_ => (w.heap.size ≤ k_) ∧ some k_ ≠ (.slice (some ad690) x3_1.length co14 : Value).ownBlock ∧ some k_ ≠ (.slice Ao42 y700.length co42 : Value).ownBlock ∧ k_ ≠ gb689)) (by (with_reducible repeat (first | apply Kd.R_alloc | apply Kd.qo | apply Kd.qz)); exact Kd.qW HO715.out (fun _ hk => ⟨⟨hk.1, ⟨hk.2.2.2.1, ⟨hk.2.1, hk.2.2.2.2⟩⟩⟩, hk.2.2.1⟩)) hg hat)
                  have n7_ := qa.mk (hb)
                  have n8_ := qa.mk (ho)
                  clear HO_3
                  clear HO_684001
                  clear BK683
                  clear BK684
                  clear BK689
                  clear HO702
                  clear HO715
                  clear HB
                  clear HO712
                  have HO_3 := n0_
                  have HO_684001 := n1_
                  have BK683 := n2_
                  have BK684 := n3_
                  have BK689 := n4_
                  have HO702 := n5_
                  have HO715 := n6_
                  have HB := n7_
                  have HO718 := n8_
                  clear n0_ n1_ n2_ n3_ n4_ n5_ n6_ n7_ n8_
                  clear ho hb hg hat
                  refine hK.out _ _ ⟨(qj BK689.out 0).trans rfl, (qj BK689.out 1).trans rfl, (qj BK689.out 2).trans rfl⟩ (fun hHeld => ?_)
                  clear hK K
                  refine zo (a' := ?_) ?_ ?_
                  rotate_left
                  ·show Act.put _ (some 59) _ = _
                   simp only [Act.put, sA, sB, sC, qw, qx]
                   rfl
                  refine one_ (i := 9) (N := some 61) tb4_10 rfl rfl (zU HT_.out (by kernel_rfl)) (by decide) (fun K hK => ?_)
                  refine Kd.vM k55 (w0 := w) w.heap.size (by rfl) (.tmp 59) (.tmp 60) 23 55 (.agg #[(.int .i64 0), (.int .i64 0), (.int .i64 0)]) 24 rfl Try.underlying23 zZ rfl (by decide) (by omega) v717 y716 y700 _ _ _ (fun k_ => (w.heap.size ≤ k_) ∧ some k_ ≠ (.slice (some ad690) x3_1.length co14 : Value).ownBlock ∧ some k_ ≠ (.slice Ao42 y700.length co42 : Value).ownBlock ∧ some k_ ≠ (.slice Ao52 y713.length co52 : Value).ownBlock ∧ k_ ≠ gb689) (fun _ => False) rfl rfl ?aO ?aR (fun _ _ h => h) (fun _ h => h.elim) ?aF ?aB ?aS ?aL ?_
                  (case aR => repeat (first | exact (Kd.qH HO702.out).2.2 | (with_reducible refine Kd.C_alloc ?_ _) | (with_reducible refine Kd.C_drewN ?_ _) | (with_reducible refine Kd.qQ ?_)))
                  (case aB => exact (by repeat (first | (with_reducible first | exact HB.out | apply qg | apply qb | apply qf | refine qd ?_ GE683.out | refine qd ?_ GE684.out | refine qd ?_ GE689.out) | exact HB.out)))
                  (case aF => exact (fun k_ hk => ⟨(Nat.le_trans (qA (by repeat (first | (with_reducible first | exact HB.out | apply qg | apply qb | apply qf | refine qd ?_ GE683.out | refine qd ?_ GE684.out | refine qd ?_ GE689.out) | exact HB.out))) hk), Kd.fresh' (Kd.R_lt (by (with_reducible repeat (first | apply Kd.R_alloc | apply Kd.qo | apply Kd.qz)); exact HO_3.out)) k_ hk, Kd.fresh' (Kd.R_lt (by (with_reducible repeat (first | apply Kd.R_alloc | apply Kd.qo | apply Kd.qz)); exact HO702.out)) k_ hk, Kd.fresh' (Kd.R_lt (by (with_reducible repeat (first | apply Kd.R_alloc | apply Kd.qo | apply Kd.qz)); exact HO715.out)) k_ hk, Kd.wD (g := gb689) (o := .cells #[.int .i64 ((qc l0_2 x4_1).f0), .int .i64 ((qc l0_2 x4_1).f1), .int .i64 ((qc l0_2 x4_1).f2)] 55 (0, 0)) (by (with_reducible repeat (first | refine qi ?_ _ | refine ql ?_ | refine qh ?_ _)); exact BK689.out) k_ hk⟩))
                  (case aO => exact (by (with_reducible repeat (first | apply Kd.R_alloc | apply Kd.qo | apply Kd.qz)); exact HO718.out))
                  (case aS => exact (qA (by repeat (first | (with_reducible first | exact HB.out | apply qg | apply qb | apply qf | refine qd ?_ GE683.out | refine qd ?_ GE684.out | refine qd ?_ GE689.out) | exact HB.out))))
                  (case aL => have := LMc34.out; omega)
                  intro v720 w53 ho hb hg hat
                  rw [← Ny719.out] at ho
                  have n0_ := qa.mk (Kd.vB (ok := (fun k_ => (w.heap.size ≤ k_) ∧ some k_ ≠ (.slice Ao42 y700.length co42 : Value).ownBlock ∧ some k_ ≠ (.slice Ao52 y713.length co52 : Value).ownBlock ∧ k_ ≠ gb689)) (by (with_reducible repeat (first | apply Kd.R_alloc | apply Kd.qo | apply Kd.qz)); exact HO_3.out) hg hat)
                  have n1_ := qa.mk (Kd.zJ (ok := (fun k_ => (P0_1_ k_ ∨ w.heap.size ≤ k_) ∧ some k_ ≠ (.slice (some ad690) x3_1.length co14 : Value).ownBlock ∧ some k_ ≠ (.slice Ao42 y700.length co42 : Value).ownBlock ∧ some k_ ≠ (.slice Ao52 y713.length co52 : Value).ownBlock ∧ k_ ≠ gb683 ∧ k_ ≠ gb684 ∧ k_ ≠ gb689)) (by (with_reducible repeat (first | apply Kd.V_alloc | apply Kd.V_drewN | apply Kd.vg)); exact HO_684001.out) hg hat)
                  have n2_ := qa.mk (q9 (g := gb683) (o := .cells #[.int .i64 a0_0, .slice A0_1 l0_1.length c0_1, .slice (some ad688) l0_2.length c0_2] 25 (0, 0)) (by (with_reducible repeat (first | refine qi ?_ _ | refine ql ?_ | refine qh ?_ _)); exact BK683.out) hg (Kd.R_ne HO718.out BK683.out (by decide)))
                  have n3_ := qa.mk (q9 (g := gb684) (o := .cells #[.int .i64 0, .slice none 0 0, .slice none 0 0] 25 (0, 0)) (by (with_reducible repeat (first | refine qi ?_ _ | refine ql ?_ | refine qh ?_ _)); exact BK684.out) hg (Kd.R_ne HO718.out BK684.out (by decide)))
                  have n4_ := qa.mk (q9 (g := gb689) (o := .cells #[.int .i64 ((qc l0_2 x4_1).f0), .int .i64 ((qc l0_2 x4_1).f1), .int .i64 ((qc l0_2 x4_1).f2)] 55 (0, 0)) (by (with_reducible repeat (first | refine qi ?_ _ | refine ql ?_ | refine qh ?_ _)); exact BK689.out) hg (Kd.wX HO718.out (fun _ hk => hk.2.2.2.2)))
                  have n5_ := qa.mk (Kd.vB (ok := (fun k_ => (w.heap.size ≤ k_) ∧ some k_ ≠ (.slice (some ad690) x3_1.length co14 : Value).ownBlock ∧ some k_ ≠ (.slice Ao52 y713.length co52 : Value).ownBlock ∧ k_ ≠ gb689)) (by (with_reducible repeat (first | apply Kd.R_alloc | apply Kd.qo | apply Kd.qz)); exact HO702.out) hg hat)
                  have n6_ := qa.mk (Kd.vB (ok := (fun k_ => (w.heap.size ≤ k_) ∧ some k_ ≠ (.slice (some ad690) x3_1.length co14 : Value).ownBlock ∧ some k_ ≠ (.slice Ao42 y700.length co42 : Value).ownBlock ∧ k_ ≠ gb689)) (by (with_reducible repeat (first | apply Kd.R_alloc | apply Kd.qo | apply Kd.qz)); exact HO715.out) hg hat)
                  have n7_ := qa.mk (hb)
                  have n8_ := qa.mk (ho)
                  clear HO_3
                  clear HO_684001
                  clear BK683
                  clear BK684
                  clear BK689
                  clear HO702
                  clear HO715
                  clear HB
                  clear HO718
                  have HO_3 := n0_
                  have HO_684001 := n1_
                  have BK683 := n2_
                  have BK684 := n3_
                  have BK689 := n4_
                  have HO702 := n5_
                  have HO715 := n6_
                  have HB := n7_
                  have HO721 := n8_
                  clear n0_ n1_ n2_ n3_ n4_ n5_ n6_ n7_ n8_
                  clear ho hb hg hat
                  refine hK.out _ _ ⟨(qj BK689.out 0).trans rfl, (qj BK689.out 1).trans rfl, (qj BK689.out 2).trans rfl⟩ (fun hHeld => ?_)
                  clear hK K
                  refine zo (a' := ?_) ?_ ?_
                  rotate_left
                  ·show Act.put _ (some 61) _ = _
                   simp only [Act.put, sA, sB, sC, qw, qx]
                   rfl
                  refine qy (i := 10) (N := some 3) tb4_11 rfl rfl (vo HT_.out (by kernel_rfl)) (fun _ _ _ h => h) (.inl ⟨by rfl, by intro w'; go_simp; with_reducible rfl⟩) (by simp only [Act.put, sA, sB, sC, qw, qx]; rfl) ?_
                  refine zP (wO HT_.out (by kernel_rfl)) ?_
                  try go_wp2
                  go_roundg k2
                  case measure => have := HK1.out; have := HK2.out; omega
                  case rel => exact ⟨(y719), (wrap64 (x4_1 + 1)), (by first | rfl | (simp; done) | (simp [*]; done)), H', ⟨by have := HK1.out; have := HK2.out; omega⟩, ⟨by (with_reducible repeat (first | apply Kd.R_alloc | apply Kd.qo | apply Kd.qz)); exact Kd.qW HO721.out (fun _ hk => hk.1)⟩, ⟨by (with_reducible repeat (first | apply Kd.V_alloc | apply Kd.V_drewN | apply Kd.vg)); exact Kd.zg HO_684001.out (fun _ hk => ⟨hk.1.1, ⟨hk.2, ⟨hk.1.2.2.2.2.1, hk.1.2.2.2.2.2.1⟩⟩⟩)⟩, ⟨by (with_reducible repeat (first | refine qi ?_ _ | refine ql ?_ | refine qh ?_ _)); exact BK683.out⟩, ⟨by (with_reducible repeat (first | refine qi ?_ _ | refine ql ?_ | refine qh ?_ _)); exact BK684.out⟩, ⟨by repeat (first | (with_reducible first | exact HB.out | apply qg | apply qb | apply qf | refine qd ?_ GE683.out | refine qd ?_ GE684.out | refine qd ?_ GE689.out) | exact HB.out)⟩⟩
                 ·rw [if_neg c34] at H
                  exact absurd H (by simp)
                ·rw [if_neg c33] at H
                 exact absurd H (by simp)
               ·rw [if_neg c32] at H
                exact absurd H (by simp)
              ·rw [if_neg c29] at H
               exact absurd H (by simp)
             ·rw [if_neg c28] at H
              exact absurd H (by simp)
            ·rw [if_neg c27] at H
             exact absurd H (by simp)
         ·rw [if_neg c18] at H
          exact absurd H (by simp)
        ·rw [if_neg c17] at H
         exact absurd H (by simp)
       ·rw [if_neg c15] at H
        have c15b0 : decide (0 < x6_2) = false := decide_eq_false c15
        clear c15
        obtain ⟨y722, hy722⟩ : ∃ y_ : List (S55), y_ = (([] : List (S55))) := ⟨_, rfl⟩
        replace H : (if 0 ≤ x6_2 then (if x6_2 ≤ (x3_1.length : Int) then ((some (x3_1.drop (x6_2 : Int).toNat : List (S55))).bind fun y725 => (if y722.length + y725.length < 5864062014805 then ((some (y722 ++ y725 : List (S55))).bind fun y729 => ((some (([] : List (S55)) : List (S55))).bind fun y732 => ((some (x3_1.take (x6_2 : Int).toNat : List (S55))).bind fun y735 => (if y732.length + y735.length < 5864062014805 then ((some (y732 ++ y735 : List (S55))).bind fun y739 => ((some (([(⟨((qc l0_2 x4_1).f0), ((qc l0_2 x4_1).f1), ((qc l0_2 x4_1).f2)⟩ : S55)] : List (S55)) : List (S55))).bind fun y742 => (if y739.length + y742.length < 5864062014805 then ((some (y739 ++ y742 : List (S55))).bind fun y745 => (if y745.length + y729.length < 5864062014805 then (qp.l0 k2 (y745 ++ y729) (wrap64 (x4_1 + 1)) a0_0 l0_1 l0_2) else (none))) else (none)))) else (none))))) else (none))) else (none)) else (none)) = some (r1, r2, r3) := by first | (rw [hy722]; with_reducible exact H) | (have H2_ := (Option.bind_some _ _).symm.trans H; rw [hy722]; with_reducible exact H2_) | (have H2_ := (Option.bind_some _ _).symm.trans H; with_reducible exact H2_) | with_reducible exact H | (rw [hy722]; exact H) | exact H
        have Ny722 := qa.mk hy722
        clear hy722
        by_cases c54 : 0 ≤ x6_2
        ·rw [if_pos c54] at H
         have c54b0 := eq_true c54
         have c54b1 : decide (0 ≤ x6_2) = true := decide_eq_true c54
         clear c54
         by_cases c55 : x6_2 ≤ (x3_1.length : Int)
         ·rw [if_pos c55] at H
          have c55b0 := eq_true c55
          have c55b1 : decide (x6_2 ≤ (x3_1.length : Int)) = true := decide_eq_true c55
          clear c55
          obtain ⟨y725, hy725⟩ : ∃ y_ : List (S55), y_ = (x3_1.drop (x6_2 : Int).toNat) := ⟨_, rfl⟩
          replace H : (if y722.length + y725.length < 5864062014805 then ((some (y722 ++ y725 : List (S55))).bind fun y729 => ((some (([] : List (S55)) : List (S55))).bind fun y732 => ((some (x3_1.take (x6_2 : Int).toNat : List (S55))).bind fun y735 => (if y732.length + y735.length < 5864062014805 then ((some (y732 ++ y735 : List (S55))).bind fun y739 => ((some (([(⟨((qc l0_2 x4_1).f0), ((qc l0_2 x4_1).f1), ((qc l0_2 x4_1).f2)⟩ : S55)] : List (S55)) : List (S55))).bind fun y742 => (if y739.length + y742.length < 5864062014805 then ((some (y739 ++ y742 : List (S55))).bind fun y745 => (if y745.length + y729.length < 5864062014805 then (qp.l0 k2 (y745 ++ y729) (wrap64 (x4_1 + 1)) a0_0 l0_1 l0_2) else (none))) else (none)))) else (none))))) else (none)) = some (r1, r2, r3) := by first | (rw [hy725]; with_reducible exact H) | (have H2_ := (Option.bind_some _ _).symm.trans H; rw [hy725]; with_reducible exact H2_) | (have H2_ := (Option.bind_some _ _).symm.trans H; with_reducible exact H2_) | with_reducible exact H | (rw [hy725]; exact H) | exact H
          have Ny725 := qa.mk hy725
          clear hy725
          by_cases c56 : y722.length + y725.length < 5864062014805
          ·rw [if_pos c56] at H
           have LMc56 := qa.mk c56
           clear c56
           obtain ⟨y729, hy729⟩ : ∃ y_ : List (S55), y_ = (y722 ++ y725) := ⟨_, rfl⟩
           replace H : ((some (([] : List (S55)) : List (S55))).bind fun y732 => ((some (x3_1.take (x6_2 : Int).toNat : List (S55))).bind fun y735 => (if y732.length + y735.length < 5864062014805 then ((some (y732 ++ y735 : List (S55))).bind fun y739 => ((some (([(⟨((qc l0_2 x4_1).f0), ((qc l0_2 x4_1).f1), ((qc l0_2 x4_1).f2)⟩ : S55)] : List (S55)) : List (S55))).bind fun y742 => (if y739.length + y742.length < 5864062014805 then ((some (y739 ++ y742 : List (S55))).bind fun y745 => (if y745.length + y729.length < 5864062014805 then (qp.l0 k2 (y745 ++ y729) (wrap64 (x4_1 + 1)) a0_0 l0_1 l0_2) else (none))) else (none)))) else (none)))) = some (r1, r2, r3) := by first | (rw [hy729]; with_reducible exact H) | (have H2_ := (Option.bind_some _ _).symm.trans H; rw [hy729]; with_reducible exact H2_) | (have H2_ := (Option.bind_some _ _).symm.trans H; with_reducible exact H2_) | with_reducible exact H | (rw [hy729]; exact H) | exact H
           have Ny729 := qa.mk hy729
           clear hy729
           obtain ⟨y732, hy732⟩ : ∃ y_ : List (S55), y_ = (([] : List (S55))) := ⟨_, rfl⟩
           replace H : ((some (x3_1.take (x6_2 : Int).toNat : List (S55))).bind fun y735 => (if y732.length + y735.length < 5864062014805 then ((some (y732 ++ y735 : List (S55))).bind fun y739 => ((some (([(⟨((qc l0_2 x4_1).f0), ((qc l0_2 x4_1).f1), ((qc l0_2 x4_1).f2)⟩ : S55)] : List (S55)) : List (S55))).bind fun y742 => (if y739.length + y742.length < 5864062014805 then ((some (y739 ++ y742 : List (S55))).bind fun y745 => (if y745.length + y729.length < 5864062014805 then (qp.l0 k2 (y745 ++ y729) (wrap64 (x4_1 + 1)) a0_0 l0_1 l0_2) else (none))) else (none)))) else (none))) = some (r1, r2, r3) := by first | (rw [hy732]; with_reducible exact H) | (have H2_ := (Option.bind_some _ _).symm.trans H; rw [hy732]; with_reducible exact H2_) | (have H2_ := (Option.bind_some _ _).symm.trans H; with_reducible exact H2_) | with_reducible exact H | (rw [hy732]; exact H) | exact H
           have Ny732 := qa.mk hy732
           clear hy732
           have c57b0 := eq_true (of_decide_eq_true (by first | (with_reducible assumption) | assumption) : 0 ≤ x6_2)
           have c58b0 := eq_true (of_decide_eq_true (by first | (with_reducible assumption) | assumption) : x6_2 ≤ (x3_1.length : Int))
           obtain ⟨y735, hy735⟩ : ∃ y_ : List (S55), y_ = (x3_1.take (x6_2 : Int).toNat) := ⟨_, rfl⟩
           replace H : (if y732.length + y735.length < 5864062014805 then ((some (y732 ++ y735 : List (S55))).bind fun y739 => ((some (([(⟨((qc l0_2 x4_1).f0), ((qc l0_2 x4_1).f1), ((qc l0_2 x4_1).f2)⟩ : S55)] : List (S55)) : List (S55))).bind fun y742 => (if y739.length + y742.length < 5864062014805 then ((some (y739 ++ y742 : List (S55))).bind fun y745 => (if y745.length + y729.length < 5864062014805 then (qp.l0 k2 (y745 ++ y729) (wrap64 (x4_1 + 1)) a0_0 l0_1 l0_2) else (none))) else (none)))) else (none)) = some (r1, r2, r3) := by first | (rw [hy735]; with_reducible exact H) | (have H2_ := (Option.bind_some _ _).symm.trans H; rw [hy735]; with_reducible exact H2_) | (have H2_ := (Option.bind_some _ _).symm.trans H; with_reducible exact H2_) | with_reducible exact H | (rw [hy735]; exact H) | exact H
           have Ny735 := qa.mk hy735
           clear hy735
           by_cases c59 : y732.length + y735.length < 5864062014805
           ·rw [if_pos c59] at H
            have LMc59 := qa.mk c59
            clear c59
            obtain ⟨y739, hy739⟩ : ∃ y_ : List (S55), y_ = (y732 ++ y735) := ⟨_, rfl⟩
            replace H : ((some (([(⟨((qc l0_2 x4_1).f0), ((qc l0_2 x4_1).f1), ((qc l0_2 x4_1).f2)⟩ : S55)] : List (S55)) : List (S55))).bind fun y742 => (if y739.length + y742.length < 5864062014805 then ((some (y739 ++ y742 : List (S55))).bind fun y745 => (if y745.length + y729.length < 5864062014805 then (qp.l0 k2 (y745 ++ y729) (wrap64 (x4_1 + 1)) a0_0 l0_1 l0_2) else (none))) else (none))) = some (r1, r2, r3) := by first | (rw [hy739]; with_reducible exact H) | (have H2_ := (Option.bind_some _ _).symm.trans H; rw [hy739]; with_reducible exact H2_) | (have H2_ := (Option.bind_some _ _).symm.trans H; with_reducible exact H2_) | with_reducible exact H | (rw [hy739]; exact H) | exact H
            have Ny739 := qa.mk hy739
            clear hy739
            obtain ⟨y742, hy742⟩ : ∃ y_ : List (S55), y_ = (([(⟨((qc l0_2 x4_1).f0), ((qc l0_2 x4_1).f1), ((qc l0_2 x4_1).f2)⟩ : S55)] : List (S55))) := ⟨_, rfl⟩
            replace H : (if y739.length + y742.length < 5864062014805 then ((some (y739 ++ y742 : List (S55))).bind fun y745 => (if y745.length + y729.length < 5864062014805 then (qp.l0 k2 (y745 ++ y729) (wrap64 (x4_1 + 1)) a0_0 l0_1 l0_2) else (none))) else (none)) = some (r1, r2, r3) := by first | (rw [hy742]; with_reducible exact H) | (have H2_ := (Option.bind_some _ _).symm.trans H; rw [hy742]; with_reducible exact H2_) | (have H2_ := (Option.bind_some _ _).symm.trans H; with_reducible exact H2_) | with_reducible exact H | (rw [hy742]; exact H) | exact H
            have Ny742 := qa.mk hy742
            clear hy742
            by_cases c60 : y739.length + y742.length < 5864062014805
            ·rw [if_pos c60] at H
             have LMc60 := qa.mk c60
             clear c60
             obtain ⟨y745, hy745⟩ : ∃ y_ : List (S55), y_ = (y739 ++ y742) := ⟨_, rfl⟩
             replace H : (if y745.length + y729.length < 5864062014805 then (qp.l0 k2 (y745 ++ y729) (wrap64 (x4_1 + 1)) a0_0 l0_1 l0_2) else (none)) = some (r1, r2, r3) := by first | (rw [hy745]; with_reducible exact H) | (have H2_ := (Option.bind_some _ _).symm.trans H; rw [hy745]; with_reducible exact H2_) | (have H2_ := (Option.bind_some _ _).symm.trans H; with_reducible exact H2_) | with_reducible exact H | (rw [hy745]; exact H) | exact H
             have Ny745 := qa.mk hy745
             clear hy745
             by_cases c61 : y745.length + y729.length < 5864062014805
             ·rw [if_pos c61] at H
              have LMc61 := qa.mk c61
              clear c61
              obtain ⟨y748, hy748⟩ : ∃ y_ : List (S55), y_ = (y745 ++ y729) := ⟨_, rfl⟩
              replace H : (qp.l0 k2 y748 (wrap64 (x4_1 + 1)) a0_0 l0_1 l0_2) = some (r1, r2, r3) := by first | (rw [hy748]; with_reducible exact H) | (have H2_ := (Option.bind_some _ _).symm.trans H; rw [hy748]; with_reducible exact H2_) | (have H2_ := (Option.bind_some _ _).symm.trans H; with_reducible exact H2_) | with_reducible exact H | (rw [hy748]; exact H) | exact H
              have Ny748 := qa.mk hy748
              clear hy748
              have H' := qa.mk H
              clear H
              try go_wp2
              have n0_ := qa.mk (Kd.qz HO_3.out)
              have n1_ := qa.mk (Kd.vg HO_684001.out)
              have n2_ := qa.mk (ql BK683.out)
              have n3_ := qa.mk (ql BK684.out)
              have n4_ := qa.mk (ql BK689.out)
              have n5_ := qa.mk (qf HB.out)
              clear HO_3
              clear HO_684001
              clear BK683
              clear BK684
              clear BK689
              clear HB
              have HO_3 := n0_
              have HO_684001 := n1_
              have BK683 := n2_
              have BK684 := n3_
              have BK689 := n4_
              have HB := n5_
              clear n0_ n1_ n2_ n3_ n4_ n5_
              refine zI (n := 11) (S := fun w' => True) (ds := []) tb4_0 (by kernel_rfl) rfl rfl trivial (fun hHeld => ?_); refine zS qp.tab7 qp.bits7 (fun HT_ HW_ => ?_)
              generalize wr.drew = w62 at HO_3 HO_684001 BK683 BK684 BK689 HB hHeld ⊢
              refine qy (i := 0) (N := some 23) tb4_1 rfl rfl (vo HT_.out (by kernel_rfl)) (fun _ _ _ h => h) (.inl ⟨by rfl, by intro w'; go_simp; with_reducible rfl⟩) (by simp only [Act.put, sA, sB, sC, qw, qx]; rfl) ?_
              refine qy (i := 1) (N := some 24) tb4_2 rfl rfl (vo HT_.out (by kernel_rfl)) (fun _ _ _ h => h) (.inl ⟨by rfl, by intro w'; go_simp; with_reducible rfl⟩) (by simp only [Act.put, sA, sB, sC, qw, qx]; rfl) ?_
              refine qy (i := 2) (N := some 25) tb4_3 rfl rfl (vo HT_.out (by kernel_rfl)) (fun _ _ _ h => h) (.inl ⟨by rfl, by intro w'; go_simp; with_reducible rfl⟩) (by simp only [Act.put, sA, sB, sC, qw, qx]; rfl) ?_
              refine qy (i := 3) (N := some 26) (v := undef) tb4_12 rfl rfl (vo HT_.out (by kernel_rfl)) (fun _ _ _ h => h) (.inr ⟨by rfl, rfl⟩) (by simp only [Act.put, sA, sB, sC, qw, qx]; rfl) ?_
              refine qy (i := 4) (N := some 27) (v := undef) tb4_13 rfl rfl (vo HT_.out (by kernel_rfl)) (fun _ _ _ h => h) (.inr ⟨by rfl, rfl⟩) (by simp only [Act.put, sA, sB, sC, qw, qx]; rfl) ?_
              refine qy (i := 5) (N := some 28) (v := undef) tb4_14 rfl rfl (vo HT_.out (by kernel_rfl)) (fun _ _ _ h => h) (.inr ⟨by rfl, rfl⟩) (by simp only [Act.put, sA, sB, sC, qw, qx]; rfl) ?_
              refine qy (i := 6) (N := some 29) (v := undef) tb4_15 rfl rfl (vo HT_.out (by kernel_rfl)) (fun _ _ _ h => h) (.inr ⟨by rfl, rfl⟩) (by simp only [Act.put, sA, sB, sC, qw, qx]; rfl) ?_
              refine qy (i := 7) (N := some 30) (v := undef) tb4_8 rfl rfl (vo HT_.out (by kernel_rfl)) (fun _ _ _ h => h) (.inr ⟨by rfl, rfl⟩) (by simp only [Act.put, sA, sB, sC, qw, qx]; rfl) ?_
              refine qy (i := 8) (N := some 31) (v := undef) tb4_9 rfl rfl (vo HT_.out (by kernel_rfl)) (fun _ _ _ h => h) (.inr ⟨by rfl, rfl⟩) (by simp only [Act.put, sA, sB, sC, qw, qx]; rfl) ?_
              refine qy (i := 9) (N := some 32) (v := undef) tb4_10 rfl rfl (vo HT_.out (by kernel_rfl)) (fun _ _ _ h => h) (.inr ⟨by rfl, rfl⟩) (by simp only [Act.put, sA, sB, sC, qw, qx]; rfl) ?_
              refine qy (i := 10) (N := some 33) tb4_11 rfl rfl (vo HT_.out (by kernel_rfl)) (fun _ _ _ h => h) (.inl ⟨by rfl, by intro w'; go_simp; with_reducible rfl⟩) (by simp only [Act.put, sA, sB, sC, qw, qx]; rfl) ?_
              refine zP (wO HT_.out (by kernel_rfl)) ?_
              try go_wp2
              have n0_ := qa.mk (Kd.qz HO_3.out)
              have n1_ := qa.mk (Kd.vg HO_684001.out)
              have n2_ := qa.mk (ql BK683.out)
              have n3_ := qa.mk (ql BK684.out)
              have n4_ := qa.mk (ql BK689.out)
              have n5_ := qa.mk (qf HB.out)
              clear HO_3
              clear HO_684001
              clear BK683
              clear BK684
              clear BK689
              clear HB
              have HO_3 := n0_
              have HO_684001 := n1_
              have BK683 := n2_
              have BK684 := n3_
              have BK689 := n4_
              have HB := n5_
              clear n0_ n1_ n2_ n3_ n4_ n5_
              refine zI (n := 11) (S := fun w' => True) (ds := []) tb4_0 (by kernel_rfl) rfl rfl trivial (fun hHeld => ?_); refine zS qp.tab9 qp.bits9 (fun HT_ HW_ => ?_)
              generalize w62.drew = w63 at HO_3 HO_684001 BK683 BK684 BK689 HB hHeld ⊢
              refine qy (i := 0) (N := some 36) tb4_1 rfl rfl (vo HT_.out (by kernel_rfl)) (fun _ _ _ h => h) (.inl ⟨by rfl, by intro w'; go_simp; with_reducible rfl⟩) (by simp only [Act.put, sA, sB, sC, qw, qx]; rfl) ?_
              refine qy (i := 1) (N := some 37) tb4_2 rfl rfl (vo HT_.out (by kernel_rfl)) (fun _ _ _ h => h) (.inl ⟨by rfl, by intro w'; go_simp; with_reducible rfl⟩) (by simp only [Act.put, sA, sB, sC, qw, qx]; rfl) ?_
              refine qy (i := 2) (N := some 38) tb4_3 rfl rfl (vo HT_.out (by kernel_rfl)) (fun _ _ _ h => h) (.inl ⟨by rfl, by intro w'; go_simp; with_reducible rfl⟩) (by simp only [Act.put, sA, sB, sC, qw, qx]; rfl) ?_
              refine qy (i := 3) (N := some 39) (v := undef) tb4_12 rfl rfl (vo HT_.out (by kernel_rfl)) (fun _ _ _ h => h) (.inr ⟨by rfl, rfl⟩) (by simp only [Act.put, sA, sB, sC, qw, qx]; rfl) ?_
              refine qy (i := 4) (N := some 40) (v := undef) tb4_13 rfl rfl (vo HT_.out (by kernel_rfl)) (fun _ _ _ h => h) (.inr ⟨by rfl, rfl⟩) (by simp only [Act.put, sA, sB, sC, qw, qx]; rfl) ?_
              refine qy (i := 5) (N := some 41) (v := undef) tb4_14 rfl rfl (vo HT_.out (by kernel_rfl)) (fun _ _ _ h => h) (.inr ⟨by rfl, rfl⟩) (by simp only [Act.put, sA, sB, sC, qw, qx]; rfl) ?_
              refine qy (i := 6) (N := some 42) (v := undef) tb4_15 rfl rfl (vo HT_.out (by kernel_rfl)) (fun _ _ _ h => h) (.inr ⟨by rfl, rfl⟩) (by simp only [Act.put, sA, sB, sC, qw, qx]; rfl) ?_
              refine qy (i := 7) (N := some 43) (v := undef) tb4_8 rfl rfl (vo HT_.out (by kernel_rfl)) (fun _ _ _ h => h) (.inr ⟨by rfl, rfl⟩) (by simp only [Act.put, sA, sB, sC, qw, qx]; rfl) ?_
              refine qy (i := 8) (N := some 44) (v := undef) tb4_9 rfl rfl (vo HT_.out (by kernel_rfl)) (fun _ _ _ h => h) (.inr ⟨by rfl, rfl⟩) (by simp only [Act.put, sA, sB, sC, qw, qx]; rfl) ?_
              refine qy (i := 9) (N := some 45) (v := undef) tb4_10 rfl rfl (vo HT_.out (by kernel_rfl)) (fun _ _ _ h => h) (.inr ⟨by rfl, rfl⟩) (by simp only [Act.put, sA, sB, sC, qw, qx]; rfl) ?_
              refine qy (i := 10) (N := some 46) tb4_11 rfl rfl (vo HT_.out (by kernel_rfl)) (fun _ _ _ h => h) (.inl ⟨by rfl, by intro w'; go_simp; with_reducible rfl⟩) (by simp only [Act.put, sA, sB, sC, qw, qx]; rfl) ?_
              refine zP (wO HT_.out (by kernel_rfl)) ?_
              try go_wp2_with (first | ((with_reducible refine qY (N := 47) rfl ?_); refine Kd.jS k55 _ 55 ?hg (N := 47) ?hd (xs := ([] : List (S55))) (inner := []) (ok := fun _ => True) (okp := fun _ => True) ?hr ?hp (fun _ hk => hk) trivial (Below.refl _ _) (Nat.le_refl _) (by simp) ?_; (case hd => rfl); (case hg => rfl); (case hr => first | (go_simp; done) | (go_simp; rfl)); (case hp => exact (Reps.none _ _)); intro v723 w64 ho65 hb hg_ hnew_; clear hg_ hnew_; (first | rw [← Ny722.out] at ho65 | (simp only [Int.reduceToNat] at ho65; rw [← Ny722.out] at ho65)); have n0_ := qa.mk (Kd.vv (by (with_reducible repeat (first | apply Kd.R_alloc | apply Kd.qo | apply Kd.qz)); exact HO_3.out) (Kd.vE ho65) hb); have n1_ := qa.mk (Kd.zL (by (with_reducible repeat (first | apply Kd.V_alloc | apply Kd.V_drewN | apply Kd.vg)); exact HO_684001.out) (Kd.vE ho65) hb); have n2_ := qa.mk (Kd.vO (Kd.wY (Kd.vR (Kd.wS (M := fun k_ => (w.heap.size ≤ k_)) ho65 (qA (by repeat (first | (with_reducible first | exact HB.out | apply qg | apply qb | apply qf | refine qd ?_ GE683.out | refine qd ?_ GE684.out | refine qd ?_ GE689.out) | exact HB.out))) (fun k_ h_ => h_)) (Kd.R_lt (by (with_reducible repeat (first | apply Kd.R_alloc | apply Kd.qo | apply Kd.qz)); exact HO_3.out))) (g := gb689) (o := .cells #[.int .i64 ((qc l0_2 x4_1).f0), .int .i64 ((qc l0_2 x4_1).f1), .int .i64 ((qc l0_2 x4_1).f2)] 55 (0, 0)) (by (with_reducible repeat (first | refine qi ?_ _ | refine ql ?_ | refine qh ?_ _)); exact BK689.out)) (qA (by repeat (first | (with_reducible first | exact HB.out | apply qg | apply qb | apply qf | refine qd ?_ GE683.out | refine qd ?_ GE684.out | refine qd ?_ GE689.out) | exact HB.out)))); have n3_ := qa.mk (qB (g := gb683) (o := .cells #[.int .i64 a0_0, .slice A0_1 l0_1.length c0_1, .slice (some ad688) l0_2.length c0_2] 25 (0, 0)) (by (with_reducible repeat (first | refine qi ?_ _ | refine ql ?_ | refine qh ?_ _)); exact BK683.out) hb); have n4_ := qa.mk (qB (g := gb684) (o := .cells #[.int .i64 0, .slice none 0 0, .slice none 0 0] 25 (0, 0)) (by (with_reducible repeat (first | refine qi ?_ _ | refine ql ?_ | refine qh ?_ _)); exact BK684.out) hb); have n5_ := qa.mk (qB (g := gb689) (o := .cells #[.int .i64 ((qc l0_2 x4_1).f0), .int .i64 ((qc l0_2 x4_1).f1), .int .i64 ((qc l0_2 x4_1).f2)] 55 (0, 0)) (by (with_reducible repeat (first | refine qi ?_ _ | refine ql ?_ | refine qh ?_ _)); exact BK689.out) hb); have n6_ := qa.mk (qD (by repeat (first | (with_reducible first | exact HB.out | apply qg | apply qb | apply qf | refine qd ?_ GE683.out | refine qd ?_ GE684.out | refine qd ?_ GE689.out) | exact HB.out)) hb); clear HO_3; clear HO_684001; clear BK683; clear BK684; clear BK689; clear HB; have HO_3 := n0_; have HO_684001 := n1_; have HO724 := n2_; have BK683 := n3_; have BK684 := n4_; have BK689 := n5_; have HB := n6_; clear n0_ n1_ n2_ n3_ n4_ n5_ n6_; clear hb ho65; have q66 : (x6_2 : Int) ≤ ((x3_1.length : Int) : Int) := of_decide_eq_true (by first | (with_reducible assumption) | assumption); obtain ⟨i066, hi066, _, hsz66, _⟩ := info_parts zZ; have hroom66 : x3_1.length ≤ co14 := (Kd.qH HO_3.out).2.1; have hC66 : Kd.C k55 _ Ao14 x3_1.length x3_1 := (Kd.qH HO_3.out).2.2; have q066 : (0 : Int) ≤ (x6_2 : Int) := of_decide_eq_true (by first | (with_reducible assumption) | assumption); have hcut66 := xZ (P := Try.prog) 23 55 .i64 Try.underlying23 hi066 3 hsz66 Ao14 x3_1.length co14 x6_2 q066 q66; have hr66 := Kd.jb (m := (x6_2 : Int).toNat) (c := co14) hC66 (by omega) hroom66; obtain ⟨A66, hA66⟩ : ∃ A1, A1 = (if co14 = (x6_2 : Int).toNat then Ao14 else (Ao14 : Option Addr).map (·.add ((x6_2 : Int).toNat * 3))) := ⟨_, rfl⟩; obtain ⟨c66, hc66⟩ : ∃ c1, c1 = co14 - (x6_2 : Int).toNat := ⟨_, rfl⟩; have hy66 : y725.length = x3_1.length - (x6_2 : Int).toNat := (by rw [Ny725.out, List.length_drop] <;> omega); rw [show (x3_1).drop (x6_2 : Int).toNat = y725 from Ny725.out.symm] at hr66; replace hr66 : Kd.C k55 _ A66 y725.length y725 := (by rw [hA66]; exact hr66); rw [← hy66, ← hA66, ← hc66] at hcut66; have HR728 := qa.mk hr66; have HC728 := qa.mk (show y725.length ≤ c66 from by rw [hy66, hc66]; exact Nat.sub_le_sub_right hroom66 _); clear hr66 hC66 hroom66 hi066 hsz66 hc66; have KY66 := qa.mk hy66; have KA66 := qa.mk hA66; clear hy66 hA66; have KL66 := qa.mk (show (x6_2 : Int).toNat ≤ x3_1.length from by omega); replace q66 := eq_true q66) | ((with_reducible refine zz (b := .append) (xs := #[.tmp 47, .tmp 50]) rfl ?_); at_builtin; refine Kd.zW k55 (w0 := w) w.heap.size rfl (.tmp 47) (.tmp 50) 23 55 (.agg #[(.int .i64 0), (.int .i64 0), (.int .i64 0)]) 24 rfl Try.underlying23 zZ rfl (by decide) (by omega) v723 y722 y725 _ _ _ (fun k_ => (w.heap.size ≤ k_) ∧ some k_ ≠ (.slice Ao14 x3_1.length co14 : Value).ownBlock ∧ k_ ≠ gb689) (fun _ => False) rfl rfl ?aO ?aR (fun _ _ h => h) (fun _ h => h.elim) ?aF ?aB ?aS ?aL ?_; (case aR => repeat (first | exact (by repeat (first | (with_reducible exact HR728.out) | (with_reducible refine Kd.C_alloc ?_ _) | (with_reducible refine Kd.C_drewN ?_ _) | (with_reducible refine Kd.qQ ?_) | exact HR728.out)) | (with_reducible refine Kd.C_alloc ?_ _) | (with_reducible refine Kd.C_drewN ?_ _) | (with_reducible refine Kd.qQ ?_))); (case aB => exact (by repeat (first | (with_reducible first | exact HB.out | apply qg | apply qb | apply qf | refine qd ?_ GE683.out | refine qd ?_ GE684.out | refine qd ?_ GE689.out) | exact HB.out))); (case aF => exact (fun k_ hk => ⟨(Nat.le_trans (qA (by repeat (first | (with_reducible first | exact HB.out | apply qg | apply qb | apply qf | refine qd ?_ GE683.out | refine qd ?_ GE684.out | refine qd ?_ GE689.out) | exact HB.out))) hk), Kd.fresh' (Kd.R_lt (by (with_reducible repeat (first | apply Kd.R_alloc | apply Kd.qo | apply Kd.qz)); exact HO_3.out)) k_ hk, Kd.wD (g := gb689) (o := .cells #[.int .i64 ((qc l0_2 x4_1).f0), .int .i64 ((qc l0_2 x4_1).f1), .int .i64 ((qc l0_2 x4_1).f2)] 55 (0, 0)) (by (with_reducible repeat (first | refine qi ?_ _ | refine ql ?_ | refine qh ?_ _)); exact BK689.out) k_ hk⟩)); (case aO => exact (by (with_reducible repeat (first | apply Kd.R_alloc | apply Kd.qo | apply Kd.qz)); exact Kd.qW HO724.out (fun _ hk => ⟨hk.1.1.1, ⟨hk.1.2, hk.2⟩⟩))); (case aS => exact (qA (by repeat (first | (with_reducible first | exact HB.out | apply qg | apply qb | apply qf | refine qd ?_ GE683.out | refine qd ?_ GE684.out | refine qd ?_ GE689.out) | exact HB.out)))); (case aL => have := LMc56.out; omega); intro v730 w67 ho hb hg hat; rw [← Ny729.out] at ho; have n0_ := qa.mk (Kd.vB (ok := (fun k_ => (w.heap.size ≤ k_) ∧ k_ ≠ gb689)) (by (with_reducible repeat (first | apply Kd.R_alloc | apply Kd.qo | apply Kd.qz)); exact HO_3.out) hg hat); have n1_ := qa.mk (Kd.zJ (ok := (fun k_ => (P0_1_ k_ ∨ w.heap.size ≤ k_) ∧ some k_ ≠ (.slice Ao14 x3_1.length co14 : Value).ownBlock ∧ k_ ≠ gb683 ∧ k_ ≠ gb684 ∧ k_ ≠ gb689)) (by (with_reducible repeat (first | apply Kd.V_alloc | apply Kd.V_drewN | apply Kd.vg)); exact HO_684001.out) hg hat); have n2_ := qa.mk (q9 (g := gb683) (o := .cells #[.int .i64 a0_0, .slice A0_1 l0_1.length c0_1, .slice (some ad688) l0_2.length c0_2] 25 (0, 0)) (by (with_reducible repeat (first | refine qi ?_ _ | refine ql ?_ | refine qh ?_ _)); exact BK683.out) hg (Kd.R_ne HO724.out BK683.out (by decide))); have n3_ := qa.mk (q9 (g := gb684) (o := .cells #[.int .i64 0, .slice none 0 0, .slice none 0 0] 25 (0, 0)) (by (with_reducible repeat (first | refine qi ?_ _ | refine ql ?_ | refine qh ?_ _)); exact BK684.out) hg (Kd.R_ne HO724.out BK684.out (by decide))); have n4_ := qa.mk (q9 (g := gb689) (o := .cells #[.int .i64 ((qc l0_2 x4_1).f0), .int .i64 ((qc l0_2 x4_1).f1), .int .i64 ((qc l0_2 x4_1).f2)] 55 (0, 0)) (by (with_reducible repeat (first | refine qi ?_ _ | refine ql ?_ | refine qh ?_ _)); exact BK689.out) hg (Kd.wX HO724.out (fun _ hk => hk.2))); have n5_ := qa.mk (hb); have n6_ := qa.mk ((show Kd.C k55 w67 A66 y725.length y725 from by rw [Ny725.out, KA66.out]; exact Kd.jb (m := (x6_2 : Int).toNat) (c := co14) ((Kd.qH (Kd.vB (ok := (fun k_ => (w.heap.size ≤ k_) ∧ k_ ≠ gb689)) (by (with_reducible repeat (first | apply Kd.R_alloc | apply Kd.qo | apply Kd.qz)); exact HO_3.out) hg hat)).2.2) KL66.out ((Kd.qH (Kd.vB (ok := (fun k_ => (w.heap.size ≤ k_) ∧ k_ ≠ gb689)) (by (with_reducible repeat (first | apply Kd.R_alloc | apply Kd.qo | apply Kd.qz)); exact HO_3.out) hg hat)).2.1))); have n7_ := qa.mk (ho); clear HO_3; clear HO_684001; clear BK683; clear BK684; clear BK689; clear HB; clear HR728; clear HO724; have HO_3 := n0_; have HO_684001 := n1_; have BK683 := n2_; have BK684 := n3_; have BK689 := n4_; have HB := n5_; have HR728 := n6_; have HO731 := n7_; clear n0_ n1_ n2_ n3_ n4_ n5_ n6_ n7_; clear ho hb hg hat; obtain ⟨Ao68, co68, eo68⟩ := Kd.zn HO731.out; subst eo68))
              have n0_ := qa.mk (Kd.qz HO_3.out)
              have n1_ := qa.mk (Kd.vg HO_684001.out)
              have n2_ := qa.mk (Kd.qz HO731.out)
              have n3_ := qa.mk (ql BK683.out)
              have n4_ := qa.mk (ql BK684.out)
              have n5_ := qa.mk (ql BK689.out)
              have n6_ := qa.mk (Kd.qQ HR728.out)
              have n7_ := qa.mk (qf HB.out)
              clear HO_3
              clear HO_684001
              clear HO731
              clear BK683
              clear BK684
              clear BK689
              clear HR728
              clear HB
              have HO_3 := n0_
              have HO_684001 := n1_
              have HO731 := n2_
              have BK683 := n3_
              have BK684 := n4_
              have BK689 := n5_
              have HR728 := n6_
              have HB := n7_
              clear n0_ n1_ n2_ n3_ n4_ n5_ n6_ n7_
              have q70 : (x6_2 : Int) ≤ ((x3_1.length : Int) : Int) := of_decide_eq_true (by first | (with_reducible assumption) | assumption)
              obtain ⟨i070, hi070, _, hsz70, _⟩ := info_parts zZ
              have hroom70 : x3_1.length ≤ co14 := (Kd.qH HO_3.out).2.1
              have hC70 : Kd.C k55 _ Ao14 x3_1.length x3_1 := (Kd.qH HO_3.out).2.2
              have hcut70 := cut_to (P := Try.prog) 23 55 .i64 Try.underlying23 hi070 Ao14 x3_1.length co14 x6_2 (of_decide_eq_true (by first | (with_reducible assumption) | assumption)) q70 hroom70
              have hr70 := Kd.jF (m := (x6_2 : Int).toNat) hC70 (by omega)
              have hy70 : y735.length = (x6_2 : Int).toNat := (by rw [Ny735.out, List.length_take]; omega)
              rw [← Ny735.out] at hr70
              rw [← hy70] at hcut70
              have HR738 := qa.mk hr70
              have HC738 := qa.mk (show y735.length ≤ co14 from by omega)
              clear hr70 hC70 hroom70 hi070 hsz70
              have KY70 := qa.mk hy70
              clear hy70
              have KL70 := qa.mk (show (x6_2 : Int).toNat ≤ x3_1.length from by omega)
              replace q70 := eq_true q70
              refine zI (n := 11) (S := fun w' => w'.cell? ⟨gb689, 0, none⟩ = some (.int .i64 ((qc l0_2 x4_1).f0)) ∧ w'.cell? ⟨gb689, 1, none⟩ = some (.int .i64 ((qc l0_2 x4_1).f1)) ∧ w'.cell? ⟨gb689, 2, none⟩ = some (.int .i64 ((qc l0_2 x4_1).f2))) (ds := []) tb4_0 (by kernel_rfl) rfl rfl ⟨(qj BK689.out 0).trans rfl, (qj BK689.out 1).trans rfl, (qj BK689.out 2).trans rfl⟩ (fun hHeld => ?_); refine zS qp.tab11 qp.bits11 (fun HT_ HW_ => ?_)
              generalize w67.drew = w69 at HO_3 HO_684001 HO731 BK683 BK684 BK689 HR728 HB HR738 hHeld ⊢
              refine qy (i := 1) (N := some 53) tb4_16 rfl rfl (vo HT_.out (by kernel_rfl)) (fun _ _ _ h => h) (.inl ⟨by rfl, by intro w'; go_simp; with_reducible rfl⟩) (by simp only [Act.put, sA, sB, sC, qw, qx]; rfl) ?_
              refine qy (i := 2) (N := some 54) tb4_17 rfl rfl (vo HT_.out (by kernel_rfl)) (fun _ _ _ h => h) (.inl ⟨by rfl, by intro w'; go_simp; with_reducible rfl⟩) (by simp only [Act.put, sA, sB, sC, qw, qx]; rfl) ?_
              refine qy (i := 3) (N := some 55) tb4_18 rfl rfl (vo HT_.out (by kernel_rfl)) (fun _ _ _ h => h) (.inl ⟨by rfl, by intro w'; go_simp; with_reducible rfl⟩) (by simp only [Act.put, sA, sB, sC, qw, qx]; rfl) ?_
              refine qy (i := 8) (N := some 60) tb4_19 rfl rfl (vo HT_.out (by kernel_rfl)) (fun _ _ _ h => h) (.inl ⟨by rfl, by intro w'; go_simp; with_reducible rfl⟩) (by simp only [Act.put, sA, sB, sC, qw, qx]; rfl) ?_
              refine vJ (i := 5) (N := some 57) tb4_20 rfl rfl (zu HT_.out HW_.out (by kernel_rfl)) (fun _ _ _ h => h) (.inl ⟨by rfl, by rintro w' ⟨s0, s1, s2⟩; go_simp; with_reducible rfl⟩) hHeld (by simp only [Act.put, sA, sB, sC, qw, qx]; rfl) ?_
              refine join_ (σ := Value × Value × Value) 3 tb4_21 (fun s_ => [(52, s_.1), (56, s_.2.1), (58, s_.2.2)]) (fun s_ w' => (w'.cell? ⟨gb689, 0, none⟩ = some (.int .i64 ((qc l0_2 x4_1).f0)) ∧ w'.cell? ⟨gb689, 1, none⟩ = some (.int .i64 ((qc l0_2 x4_1).f1)) ∧ w'.cell? ⟨gb689, 2, none⟩ = some (.int .i64 ((qc l0_2 x4_1).f2))) ∧ (Kd.R k55 55 w' w.heap.size (fun k_ => (w.heap.size ≤ k_) ∧ some k_ ≠ (s_.2.1 : Value).ownBlock ∧ some k_ ≠ (s_.2.2 : Value).ownBlock ∧ some k_ ≠ (.slice Ao14 x3_1.length co14 : Value).ownBlock ∧ k_ ≠ gb689) (.slice Ao68 y729.length co68) y729) ∧ (Kd.R k55 55 w' w.heap.size (fun k_ => (w.heap.size ≤ k_) ∧ some k_ ≠ (.slice Ao68 y729.length co68 : Value).ownBlock ∧ some k_ ≠ (s_.2.2 : Value).ownBlock ∧ some k_ ≠ (.slice Ao14 x3_1.length co14 : Value).ownBlock ∧ k_ ≠ gb689) s_.2.1 y739) ∧ (Kd.R k55 55 w' w.heap.size (fun k_ => (w.heap.size ≤ k_) ∧ some k_ ≠ (.slice Ao68 y729.length co68 : Value).ownBlock ∧ some k_ ≠ (s_.2.1 : Value).ownBlock ∧ some k_ ≠ (.slice Ao14 x3_1.length co14 : Value).ownBlock ∧ k_ ≠ gb689) s_.2.2 y742) ∧ (Kd.R k55 55 w' w.heap.size (fun k_ => (w.heap.size ≤ k_) ∧ some k_ ≠ (.slice Ao68 y729.length co68 : Value).ownBlock ∧ some k_ ≠ (s_.2.1 : Value).ownBlock ∧ some k_ ≠ (s_.2.2 : Value).ownBlock ∧ k_ ≠ gb689) (.slice Ao14 x3_1.length co14) x3_1) ∧ (Kd.V Kd.string 9 w' w.heap.size (fun k_ => (P0_1_ k_ ∨ w.heap.size ≤ k_) ∧ some k_ ≠ (.slice Ao68 y729.length co68 : Value).ownBlock ∧ some k_ ≠ (s_.2.1 : Value).ownBlock ∧ some k_ ≠ (s_.2.2 : Value).ownBlock ∧ some k_ ≠ (.slice Ao14 x3_1.length co14 : Value).ownBlock ∧ k_ ≠ gb683 ∧ k_ ≠ gb684 ∧ k_ ≠ gb689) (.slice A0_1 l0_1.length c0_1) l0_1) ∧ (w'.heap[gb683]? = some (.cells #[.int .i64 a0_0, .slice A0_1 l0_1.length c0_1, .slice (some ad688) l0_2.length c0_2] 25 (0, 0))) ∧ (w'.heap[gb684]? = some (.cells #[.int .i64 0, .slice none 0 0, .slice none 0 0] 25 (0, 0))) ∧ (w'.heap[gb689]? = some (.cells #[.int .i64 ((qc l0_2 x4_1).f0), .int .i64 ((qc l0_2 x4_1).f1), .int .i64 ((qc l0_2 x4_1).f2)] 55 (0, 0))) ∧ (Below w.heap.size w w')) ?_ ?_
              rotate_left
              ·intro hCont
               refine two_ (i := 0) (j := 6) (Ni := some 52) (Nj := some 58) tb4_22 tb4_23 rfl rfl rfl rfl (yO HT_.out (by kernel_rfl)) (by decide) (by decide) (fun K hK => ?_) (fun K hK => ?_)
               ·skip
                refine Kd.zC k55 _ 55 ?hg (N := 52) ?hd (xs := ([] : List (S55))) (inner := []) (ok := fun _ => True) (okp := fun _ => True) ?hr ?hp (fun _ hk => hk) trivial (Below.refl _ _) (Nat.le_refl _) (by simp) ?_; (case hd => rfl); (case hg => rfl); (case hr => first | (go_simp; done) | (go_simp; rfl)); (case hp => exact (Reps.none _ _))
                intro v733 w71 ho72 hb hg_ hnew_
                clear hg_ hnew_
                (first | rw [← Ny732.out] at ho72 | (simp only [Int.reduceToNat] at ho72; rw [← Ny732.out] at ho72))
                have n0_ := qa.mk (Kd.vv (by (with_reducible repeat (first | apply Kd.R_alloc | apply Kd.qo | apply Kd.qz)); exact HO_3.out) (Kd.vE ho72) hb)
                have n1_ := qa.mk (Kd.zL (by (with_reducible repeat (first | apply Kd.V_alloc | apply Kd.V_drewN | apply Kd.vg)); exact HO_684001.out) (Kd.vE ho72) hb)
                have n2_ := qa.mk (Kd.vv (by (with_reducible repeat (first | apply Kd.R_alloc | apply Kd.qo | apply Kd.qz)); exact HO731.out) (Kd.vE ho72) hb)
                have n3_ := qa.mk (Kd.vO (Kd.wY (Kd.vR (Kd.vR (Kd.wS (M := fun k_ => (w.heap.size ≤ k_)) ho72 (qA (by repeat (first | (with_reducible first | exact HB.out | apply qg | apply qb | apply qf | refine qd ?_ GE683.out | refine qd ?_ GE684.out | refine qd ?_ GE689.out) | exact HB.out))) (fun k_ h_ => h_)) (Kd.R_lt (by (with_reducible repeat (first | apply Kd.R_alloc | apply Kd.qo | apply Kd.qz)); exact HO_3.out))) (Kd.R_lt (by (with_reducible repeat (first | apply Kd.R_alloc | apply Kd.qo | apply Kd.qz)); exact HO731.out))) (g := gb689) (o := .cells #[.int .i64 ((qc l0_2 x4_1).f0), .int .i64 ((qc l0_2 x4_1).f1), .int .i64 ((qc l0_2 x4_1).f2)] 55 (0, 0)) (by (with_reducible repeat (first | refine qi ?_ _ | refine ql ?_ | refine qh ?_ _)); exact BK689.out)) (qA (by repeat (first | (with_reducible first | exact HB.out | apply qg | apply qb | apply qf | refine qd ?_ GE683.out | refine qd ?_ GE684.out | refine qd ?_ GE689.out) | exact HB.out))))
                have n4_ := qa.mk (qB (g := gb683) (o := .cells #[.int .i64 a0_0, .slice A0_1 l0_1.length c0_1, .slice (some ad688) l0_2.length c0_2] 25 (0, 0)) (by (with_reducible repeat (first | refine qi ?_ _ | refine ql ?_ | refine qh ?_ _)); exact BK683.out) hb)
                have n5_ := qa.mk (qB (g := gb684) (o := .cells #[.int .i64 0, .slice none 0 0, .slice none 0 0] 25 (0, 0)) (by (with_reducible repeat (first | refine qi ?_ _ | refine ql ?_ | refine qh ?_ _)); exact BK684.out) hb)
                have n6_ := qa.mk (qB (g := gb689) (o := .cells #[.int .i64 ((qc l0_2 x4_1).f0), .int .i64 ((qc l0_2 x4_1).f1), .int .i64 ((qc l0_2 x4_1).f2)] 55 (0, 0)) (by (with_reducible repeat (first | refine qi ?_ _ | refine ql ?_ | refine qh ?_ _)); exact BK689.out) hb)
                have n7_ := qa.mk (Kd.qU (by repeat (first | (with_reducible exact HR728.out) | (with_reducible refine Kd.C_alloc ?_ _) | (with_reducible refine Kd.C_drewN ?_ _) | (with_reducible refine Kd.qQ ?_) | exact HR728.out)) hb)
                have n8_ := qa.mk (Kd.qU (by repeat (first | (with_reducible exact HR738.out) | (with_reducible refine Kd.C_alloc ?_ _) | (with_reducible refine Kd.C_drewN ?_ _) | (with_reducible refine Kd.qQ ?_) | exact HR738.out)) hb)
                have n9_ := qa.mk (qD (by repeat (first | (with_reducible first | exact HB.out | apply qg | apply qb | apply qf | refine qd ?_ GE683.out | refine qd ?_ GE684.out | refine qd ?_ GE689.out) | exact HB.out)) hb)
                clear HO_3
                clear HO_684001
                clear HO731
                clear BK683
                clear BK684
                clear BK689
                clear HR728
                clear HR738
                clear HB
                have HO_3 := n0_
                have HO_684001 := n1_
                have HO731 := n2_
                have HO734 := n3_
                have BK683 := n4_
                have BK684 := n5_
                have BK689 := n6_
                have HR728 := n7_
                have HR738 := n8_
                have HB := n9_
                clear n0_ n1_ n2_ n3_ n4_ n5_ n6_ n7_ n8_ n9_
                clear hb ho72
                refine hK.out _ _ ⟨(qj BK689.out 0).trans rfl, (qj BK689.out 1).trans rfl, (qj BK689.out 2).trans rfl⟩ (fun hHeld => ?_)
                clear hK K
                refine zo (a' := ?_) ?_ ?_
                rotate_left
                ·show Act.put _ (some 52) _ = _
                 simp only [Act.put, sA, sB, sC, qw, qx]
                 rfl
                refine two_ (i := 4) (j := 6) (Ni := some 56) (Nj := some 58) tb4_24 tb4_25 rfl rfl rfl rfl (yO HT_.out (by kernel_rfl)) (by decide) (by decide) (fun K hK => ?_) (fun K hK => ?_)
                ·skip
                 refine Kd.vM k55 (w0 := w) w.heap.size (by rfl) (.tmp 52) (.tmp 55) 23 55 (.agg #[(.int .i64 0), (.int .i64 0), (.int .i64 0)]) 24 rfl Try.underlying23 zZ rfl (by decide) (by omega) v733 y732 y735 _ _ _ (fun k_ => (w.heap.size ≤ k_) ∧ some k_ ≠ (.slice Ao14 x3_1.length co14 : Value).ownBlock ∧ some k_ ≠ (.slice Ao68 y729.length co68 : Value).ownBlock ∧ k_ ≠ gb689) (fun _ => False) rfl rfl ?aO ?aR (fun _ _ h => h) (fun _ h => h.elim) ?aF ?aB ?aS ?aL ?_
                 (case aR => repeat (first | exact (by repeat (first | (with_reducible exact HR738.out) | (with_reducible refine Kd.C_alloc ?_ _) | (with_reducible refine Kd.C_drewN ?_ _) | (with_reducible refine Kd.qQ ?_) | exact HR738.out)) | (with_reducible refine Kd.C_alloc ?_ _) | (with_reducible refine Kd.C_drewN ?_ _) | (with_reducible refine Kd.qQ ?_)))
                 (case aB => exact (by repeat (first | (with_reducible first | exact HB.out | apply qg | apply qb | apply qf | refine qd ?_ GE683.out | refine qd ?_ GE684.out | refine qd ?_ GE689.out) | exact HB.out)))
                 (case aF => exact (fun k_ hk => ⟨(Nat.le_trans (qA (by repeat (first | (with_reducible first | exact HB.out | apply qg | apply qb | apply qf | refine qd ?_ GE683.out | refine qd ?_ GE684.out | refine qd ?_ GE689.out) | exact HB.out))) hk), Kd.fresh' (Kd.R_lt (by (with_reducible repeat (first | apply Kd.R_alloc | apply Kd.qo | apply Kd.qz)); exact HO_3.out)) k_ hk, Kd.fresh' (Kd.R_lt (by (with_reducible repeat (first | apply Kd.R_alloc | apply Kd.qo | apply Kd.qz)); exact HO731.out)) k_ hk, Kd.wD (g := gb689) (o := .cells #[.int .i64 ((qc l0_2 x4_1).f0), .int .i64 ((qc l0_2 x4_1).f1), .int .i64 ((qc l0_2 x4_1).f2)] 55 (0, 0)) (by (with_reducible repeat (first | refine qi ?_ _ | refine ql ?_ | refine qh ?_ _)); exact BK689.out) k_ hk⟩))
                 (case aO => exact (by (with_reducible repeat (first | apply Kd.R_alloc | apply Kd.qo | apply Kd.qz)); exact Kd.qW HO734.out (fun _ hk => ⟨hk.1.1.1.1, ⟨hk.1.1.2, ⟨hk.1.2, hk.2⟩⟩⟩)))
                 (case aS => exact (qA (by repeat (first | (with_reducible first | exact HB.out | apply qg | apply qb | apply qf | refine qd ?_ GE683.out | refine qd ?_ GE684.out | refine qd ?_ GE689.out) | exact HB.out))))
                 (case aL => have := LMc59.out; omega)
                 intro v740 w73 ho hb hg hat
                 rw [← Ny739.out] at ho
                 have n0_ := qa.mk (Kd.vB (ok := (fun k_ => (w.heap.size ≤ k_) ∧ some k_ ≠ (.slice Ao68 y729.length co68 : Value).ownBlock ∧ k_ ≠ gb689)) (by (with_reducible repeat (first | apply Kd.R_alloc | apply Kd.qo | apply Kd.qz)); exact Kd.qW HO_3.out (fun _ hk => ⟨⟨hk.1.1.1, ⟨hk.1.2, hk.1.1.2⟩⟩, hk.2⟩)) hg hat)
                 have n1_ := qa.mk (Kd.zJ (ok := (fun k_ => (P0_1_ k_ ∨ w.heap.size ≤ k_) ∧ some k_ ≠ (.slice Ao14 x3_1.length co14 : Value).ownBlock ∧ some k_ ≠ (.slice Ao68 y729.length co68 : Value).ownBlock ∧ k_ ≠ gb683 ∧ k_ ≠ gb684 ∧ k_ ≠ gb689)) (by (with_reducible repeat (first | apply Kd.V_alloc | apply Kd.V_drewN | apply Kd.vg)); exact Kd.zg HO_684001.out (fun _ hk => ⟨⟨hk.1.1.1, ⟨hk.1.1.2.1, ⟨hk.1.2, ⟨hk.1.1.2.2.1, ⟨hk.1.1.2.2.2.1, hk.1.1.2.2.2.2⟩⟩⟩⟩⟩, hk.2⟩)) hg hat)
                 have n2_ := qa.mk (q9 (g := gb683) (o := .cells #[.int .i64 a0_0, .slice A0_1 l0_1.length c0_1, .slice (some ad688) l0_2.length c0_2] 25 (0, 0)) (by (with_reducible repeat (first | refine qi ?_ _ | refine ql ?_ | refine qh ?_ _)); exact BK683.out) hg (Kd.R_ne HO734.out BK683.out (by decide)))
                 have n3_ := qa.mk (q9 (g := gb684) (o := .cells #[.int .i64 0, .slice none 0 0, .slice none 0 0] 25 (0, 0)) (by (with_reducible repeat (first | refine qi ?_ _ | refine ql ?_ | refine qh ?_ _)); exact BK684.out) hg (Kd.R_ne HO734.out BK684.out (by decide)))
                 have n4_ := qa.mk (q9 (g := gb689) (o := .cells #[.int .i64 ((qc l0_2 x4_1).f0), .int .i64 ((qc l0_2 x4_1).f1), .int .i64 ((qc l0_2 x4_1).f2)] 55 (0, 0)) (by (with_reducible repeat (first | refine qi ?_ _ | refine ql ?_ | refine qh ?_ _)); exact BK689.out) hg (Kd.wX HO734.out (fun _ hk => hk.2)))
                 have n5_ := qa.mk (Kd.vB (ok := (fun k_ => (w.heap.size ≤ k_) ∧ some k_ ≠ (.slice Ao14 x3_1.length co14 : Value).ownBlock ∧ k_ ≠ gb689)) (by (with_reducible repeat (first | apply Kd.R_alloc | apply Kd.qo | apply Kd.qz)); exact HO731.out) hg hat)
                 have n6_ := qa.mk (hb)
                 have n7_ := qa.mk ((show Kd.C k55 w73 A66 y725.length y725 from by rw [Ny725.out, KA66.out]; exact Kd.jb (m := (x6_2 : Int).toNat) (c := co14) ((Kd.qH (Kd.vB (ok := (fun k_ => (w.heap.size ≤ k_) ∧ some k_ ≠ (.slice Ao68 y729.length co68 : Value).ownBlock ∧ k_ ≠ gb689)) (by (with_reducible repeat (first | apply Kd.R_alloc | apply Kd.qo | apply Kd.qz)); exact Kd.qW HO_3.out (fun _ hk => ⟨⟨hk.1.1.1, ⟨hk.1.2, hk.1.1.2⟩⟩, hk.2⟩)) hg hat)).2.2) KL66.out ((Kd.qH (Kd.vB (ok := (fun k_ => (w.heap.size ≤ k_) ∧ some k_ ≠ (.slice Ao68 y729.length co68 : Value).ownBlock ∧ k_ ≠ gb689)) (by (with_reducible repeat (first | apply Kd.R_alloc | apply Kd.qo | apply Kd.qz)); exact Kd.qW HO_3.out (fun _ hk => ⟨⟨hk.1.1.1, ⟨hk.1.2, hk.1.1.2⟩⟩, hk.2⟩)) hg hat)).2.1)))
                 have n8_ := qa.mk ((show Kd.C k55 w73 Ao14 y735.length y735 from by rw [Ny735.out]; exact Kd.jF (m := (x6_2 : Int).toNat) ((Kd.qH (Kd.vB (ok := (fun k_ => (w.heap.size ≤ k_) ∧ some k_ ≠ (.slice Ao68 y729.length co68 : Value).ownBlock ∧ k_ ≠ gb689)) (by (with_reducible repeat (first | apply Kd.R_alloc | apply Kd.qo | apply Kd.qz)); exact Kd.qW HO_3.out (fun _ hk => ⟨⟨hk.1.1.1, ⟨hk.1.2, hk.1.1.2⟩⟩, hk.2⟩)) hg hat)).2.2) KL70.out))
                 have n9_ := qa.mk (ho)
                 clear HO_3
                 clear HO_684001
                 clear BK683
                 clear BK684
                 clear BK689
                 clear HO731
                 clear HB
                 clear HR728
                 clear HR738
                 clear HO734
                 have HO_3 := n0_
                 have HO_684001 := n1_
                 have BK683 := n2_
                 have BK684 := n3_
                 have BK689 := n4_
                 have HO731 := n5_
                 have HB := n6_
                 have HR728 := n7_
                 have HR738 := n8_
                 have HO741 := n9_
                 clear n0_ n1_ n2_ n3_ n4_ n5_ n6_ n7_ n8_ n9_
                 clear ho hb hg hat
                 refine hK.out _ _ ⟨(qj BK689.out 0).trans rfl, (qj BK689.out 1).trans rfl, (qj BK689.out 2).trans rfl⟩ (fun hHeld => ?_)
                 clear hK K
                 refine zo (a' := ?_) ?_ ?_
                 rotate_left
                 ·show Act.put _ (some 56) _ = _
                  simp only [Act.put, sA, sB, sC, qw, qx]
                  rfl
                 refine one_ (i := 6) (N := some 58) tb4_21 rfl rfl (zU HT_.out (by kernel_rfl)) (by decide) (fun K hK => ?_)
                 refine Kd.zC k55 _ 55 ?hg (N := 58) ?hd (xs := ([(⟨((qc l0_2 x4_1).f0), ((qc l0_2 x4_1).f1), ((qc l0_2 x4_1).f2)⟩ : S55)] : List (S55))) (inner := [.int .i64 ((qc l0_2 x4_1).f0), .int .i64 ((qc l0_2 x4_1).f1), .int .i64 ((qc l0_2 x4_1).f2)]) (ok := fun _ => True) (okp := fun _ => True) ?hr ?hp (fun _ hk => hk) trivial (Below.refl _ _) (Nat.le_refl _) (by simp) ?_; (case hd => rfl); (case hg => rfl); (case hr => first | (go_simp; done) | (go_simp; rfl)); (case hp => exact (Reps.c3 (show Kd.M k55 _ _ _ (⟨((qc l0_2 x4_1).f0), ((qc l0_2 x4_1).f1), ((qc l0_2 x4_1).f2)⟩ : S55) [.int .i64 ((qc l0_2 x4_1).f0), .int .i64 ((qc l0_2 x4_1).f1), .int .i64 ((qc l0_2 x4_1).f2)] from (wm _ _ _ (⟨((qc l0_2 x4_1).f0), ((qc l0_2 x4_1).f1), ((qc l0_2 x4_1).f2)⟩ : S55) )) (Reps.none _ _)))
                 intro v743 w74 ho75 hb hg_ hnew_
                 clear hg_ hnew_
                 (first | rw [← Ny742.out] at ho75 | (simp only [Int.reduceToNat] at ho75; rw [← Ny742.out] at ho75))
                 have n0_ := qa.mk (Kd.vv (by (with_reducible repeat (first | apply Kd.R_alloc | apply Kd.qo | apply Kd.qz)); exact HO_3.out) (Kd.vE ho75) hb)
                 have n1_ := qa.mk (Kd.zL (by (with_reducible repeat (first | apply Kd.V_alloc | apply Kd.V_drewN | apply Kd.vg)); exact HO_684001.out) (Kd.vE ho75) hb)
                 have n2_ := qa.mk (Kd.vv (by (with_reducible repeat (first | apply Kd.R_alloc | apply Kd.qo | apply Kd.qz)); exact HO731.out) (Kd.vE ho75) hb)
                 have n3_ := qa.mk (Kd.vv (by (with_reducible repeat (first | apply Kd.R_alloc | apply Kd.qo | apply Kd.qz)); exact HO741.out) (Kd.vE ho75) hb)
                 have n4_ := qa.mk (Kd.vO (Kd.wY (Kd.vR (Kd.vR (Kd.vR (Kd.wS (M := fun k_ => (w.heap.size ≤ k_)) ho75 (qA (by repeat (first | (with_reducible first | exact HB.out | apply qg | apply qb | apply qf | refine qd ?_ GE683.out | refine qd ?_ GE684.out | refine qd ?_ GE689.out) | exact HB.out))) (fun k_ h_ => h_)) (Kd.R_lt (by (with_reducible repeat (first | apply Kd.R_alloc | apply Kd.qo | apply Kd.qz)); exact HO_3.out))) (Kd.R_lt (by (with_reducible repeat (first | apply Kd.R_alloc | apply Kd.qo | apply Kd.qz)); exact HO731.out))) (Kd.R_lt (by (with_reducible repeat (first | apply Kd.R_alloc | apply Kd.qo | apply Kd.qz)); exact HO741.out))) (g := gb689) (o := .cells #[.int .i64 ((qc l0_2 x4_1).f0), .int .i64 ((qc l0_2 x4_1).f1), .int .i64 ((qc l0_2 x4_1).f2)] 55 (0, 0)) (by (with_reducible repeat (first | refine qi ?_ _ | refine ql ?_ | refine qh ?_ _)); exact BK689.out)) (qA (by repeat (first | (with_reducible first | exact HB.out | apply qg | apply qb | apply qf | refine qd ?_ GE683.out | refine qd ?_ GE684.out | refine qd ?_ GE689.out) | exact HB.out))))
                 have n5_ := qa.mk (qB (g := gb683) (o := .cells #[.int .i64 a0_0, .slice A0_1 l0_1.length c0_1, .slice (some ad688) l0_2.length c0_2] 25 (0, 0)) (by (with_reducible repeat (first | refine qi ?_ _ | refine ql ?_ | refine qh ?_ _)); exact BK683.out) hb)
                 have n6_ := qa.mk (qB (g := gb684) (o := .cells #[.int .i64 0, .slice none 0 0, .slice none 0 0] 25 (0, 0)) (by (with_reducible repeat (first | refine qi ?_ _ | refine ql ?_ | refine qh ?_ _)); exact BK684.out) hb)
                 have n7_ := qa.mk (qB (g := gb689) (o := .cells #[.int .i64 ((qc l0_2 x4_1).f0), .int .i64 ((qc l0_2 x4_1).f1), .int .i64 ((qc l0_2 x4_1).f2)] 55 (0, 0)) (by (with_reducible repeat (first | refine qi ?_ _ | refine ql ?_ | refine qh ?_ _)); exact BK689.out) hb)
                 have n8_ := qa.mk (Kd.qU (by repeat (first | (with_reducible exact HR728.out) | (with_reducible refine Kd.C_alloc ?_ _) | (with_reducible refine Kd.C_drewN ?_ _) | (with_reducible refine Kd.qQ ?_) | exact HR728.out)) hb)
                 have n9_ := qa.mk (Kd.qU (by repeat (first | (with_reducible exact HR738.out) | (with_reducible refine Kd.C_alloc ?_ _) | (with_reducible refine Kd.C_drewN ?_ _) | (with_reducible refine Kd.qQ ?_) | exact HR738.out)) hb)
                 have n10_ := qa.mk (qD (by repeat (first | (with_reducible first | exact HB.out | apply qg | apply qb | apply qf | refine qd ?_ GE683.out | refine qd ?_ GE684.out | refine qd ?_ GE689.out) | exact HB.out)) hb)
                 clear HO_3
                 clear HO_684001
                 clear HO731
                 clear HO741
                 clear BK683
                 clear BK684
                 clear BK689
                 clear HR728
                 clear HR738
                 clear HB
                 have HO_3 := n0_
                 have HO_684001 := n1_
                 have HO731 := n2_
                 have HO741 := n3_
                 have HO744 := n4_
                 have BK683 := n5_
                 have BK684 := n6_
                 have BK689 := n7_
                 have HR728 := n8_
                 have HR738 := n9_
                 have HB := n10_
                 clear n0_ n1_ n2_ n3_ n4_ n5_ n6_ n7_ n8_ n9_ n10_
                 clear hb ho75
                 refine hK.out _ _ ⟨(qj BK689.out 0).trans rfl, (qj BK689.out 1).trans rfl, (qj BK689.out 2).trans rfl⟩ (fun hHeld => ?_)
                 clear hK K
                 refine zo (a' := ?_) ?_ ?_
                 rotate_left
                 ·show Act.put _ (some 58) _ = _
                  simp only [Act.put, sA, sB, sC, qw, qx]
                  rfl
                 exact zo (by simp only [wZ, Act.put, List.setIfInBounds_toArray, List.set_cons_zero, List.set_cons_succ]) (hCont (v733, v740, v743) _ ⟨hHeld, (by (with_reducible repeat (first | apply Kd.R_alloc | apply Kd.qo | apply Kd.qz)); exact Kd.qW HO731.out (fun _ hk => ⟨hk.1.1.1, ⟨hk.1.2, ⟨hk.2, ⟨hk.1.1.2.1, hk.1.1.2.2⟩⟩⟩⟩)), (by (with_reducible repeat (first | apply Kd.R_alloc | apply Kd.qo | apply Kd.qz)); exact Kd.qW HO741.out (fun _ hk => ⟨hk.1.1, ⟨hk.1.2.2.1, ⟨hk.2, ⟨hk.1.2.1, hk.1.2.2.2⟩⟩⟩⟩)), (by (with_reducible repeat (first | apply Kd.R_alloc | apply Kd.qo | apply Kd.qz)); exact Kd.qW HO744.out (fun _ hk => ⟨hk.1.1.1.1.1, ⟨hk.1.1.2, ⟨hk.1.2, ⟨hk.1.1.1.2, hk.2⟩⟩⟩⟩)), (by (with_reducible repeat (first | apply Kd.R_alloc | apply Kd.qo | apply Kd.qz)); exact Kd.qW HO_3.out (fun _ hk => ⟨hk.1.1.1, ⟨hk.1.1.2.1, ⟨hk.1.2, ⟨hk.2, hk.1.1.2.2⟩⟩⟩⟩)), (by (with_reducible repeat (first | apply Kd.V_alloc | apply Kd.V_drewN | apply Kd.vg)); exact Kd.zg HO_684001.out (fun _ hk => ⟨hk.1.1.1, ⟨hk.1.1.2.2.1, ⟨hk.1.2, ⟨hk.2, ⟨hk.1.1.2.1, ⟨hk.1.1.2.2.2.1, ⟨hk.1.1.2.2.2.2.1, hk.1.1.2.2.2.2.2⟩⟩⟩⟩⟩⟩⟩)), (by (with_reducible repeat (first | refine qi ?_ _ | refine ql ?_ | refine qh ?_ _)); exact BK683.out), (by (with_reducible repeat (first | refine qi ?_ _ | refine ql ?_ | refine qh ?_ _)); exact BK684.out), (by (with_reducible repeat (first | refine qi ?_ _ | refine ql ?_ | refine qh ?_ _)); exact BK689.out), (by repeat (first | (with_reducible first | exact HB.out | apply qg | apply qb | apply qf | refine qd ?_ GE683.out | refine qd ?_ GE684.out | refine qd ?_ GE689.out) | exact HB.out))⟩)
                ·skip
                 refine Kd.zC k55 _ 55 ?hg (N := 58) ?hd (xs := ([(⟨((qc l0_2 x4_1).f0), ((qc l0_2 x4_1).f1), ((qc l0_2 x4_1).f2)⟩ : S55)] : List (S55))) (inner := [.int .i64 ((qc l0_2 x4_1).f0), .int .i64 ((qc l0_2 x4_1).f1), .int .i64 ((qc l0_2 x4_1).f2)]) (ok := fun _ => True) (okp := fun _ => True) ?hr ?hp (fun _ hk => hk) trivial (Below.refl _ _) (Nat.le_refl _) (by simp) ?_; (case hd => rfl); (case hg => rfl); (case hr => first | (go_simp; done) | (go_simp; rfl)); (case hp => exact (Reps.c3 (show Kd.M k55 _ _ _ (⟨((qc l0_2 x4_1).f0), ((qc l0_2 x4_1).f1), ((qc l0_2 x4_1).f2)⟩ : S55) [.int .i64 ((qc l0_2 x4_1).f0), .int .i64 ((qc l0_2 x4_1).f1), .int .i64 ((qc l0_2 x4_1).f2)] from (wm _ _ _ (⟨((qc l0_2 x4_1).f0), ((qc l0_2 x4_1).f1), ((qc l0_2 x4_1).f2)⟩ : S55) )) (Reps.none _ _)))
                 intro v743 w73 ho74 hb hg_ hnew_
                 clear hg_ hnew_
                 (first | rw [← Ny742.out] at ho74 | (simp only [Int.reduceToNat] at ho74; rw [← Ny742.out] at ho74))
                 have n0_ := qa.mk (Kd.vv (by (with_reducible repeat (first | apply Kd.R_alloc | apply Kd.qo | apply Kd.qz)); exact HO_3.out) (Kd.vE ho74) hb)
                 have n1_ := qa.mk (Kd.zL (by (with_reducible repeat (first | apply Kd.V_alloc | apply Kd.V_drewN | apply Kd.vg)); exact HO_684001.out) (Kd.vE ho74) hb)
                 have n2_ := qa.mk (Kd.vv (by (with_reducible repeat (first | apply Kd.R_alloc | apply Kd.qo | apply Kd.qz)); exact HO731.out) (Kd.vE ho74) hb)
                 have n3_ := qa.mk (Kd.vv (by (with_reducible repeat (first | apply Kd.R_alloc | apply Kd.qo | apply Kd.qz)); exact HO734.out) (Kd.vE ho74) hb)
                 have n4_ := qa.mk (Kd.vO (Kd.wY (Kd.vR (Kd.vR (Kd.vR (Kd.wS (M := fun k_ => (w.heap.size ≤ k_)) ho74 (qA (by repeat (first | (with_reducible first | exact HB.out | apply qg | apply qb | apply qf | refine qd ?_ GE683.out | refine qd ?_ GE684.out | refine qd ?_ GE689.out) | exact HB.out))) (fun k_ h_ => h_)) (Kd.R_lt (by (with_reducible repeat (first | apply Kd.R_alloc | apply Kd.qo | apply Kd.qz)); exact HO_3.out))) (Kd.R_lt (by (with_reducible repeat (first | apply Kd.R_alloc | apply Kd.qo | apply Kd.qz)); exact HO731.out))) (Kd.R_lt (by (with_reducible repeat (first | apply Kd.R_alloc | apply Kd.qo | apply Kd.qz)); exact HO734.out))) (g := gb689) (o := .cells #[.int .i64 ((qc l0_2 x4_1).f0), .int .i64 ((qc l0_2 x4_1).f1), .int .i64 ((qc l0_2 x4_1).f2)] 55 (0, 0)) (by (with_reducible repeat (first | refine qi ?_ _ | refine ql ?_ | refine qh ?_ _)); exact BK689.out)) (qA (by repeat (first | (with_reducible first | exact HB.out | apply qg | apply qb | apply qf | refine qd ?_ GE683.out | refine qd ?_ GE684.out | refine qd ?_ GE689.out) | exact HB.out))))
                 have n5_ := qa.mk (qB (g := gb683) (o := .cells #[.int .i64 a0_0, .slice A0_1 l0_1.length c0_1, .slice (some ad688) l0_2.length c0_2] 25 (0, 0)) (by (with_reducible repeat (first | refine qi ?_ _ | refine ql ?_ | refine qh ?_ _)); exact BK683.out) hb)
                 have n6_ := qa.mk (qB (g := gb684) (o := .cells #[.int .i64 0, .slice none 0 0, .slice none 0 0] 25 (0, 0)) (by (with_reducible repeat (first | refine qi ?_ _ | refine ql ?_ | refine qh ?_ _)); exact BK684.out) hb)
                 have n7_ := qa.mk (qB (g := gb689) (o := .cells #[.int .i64 ((qc l0_2 x4_1).f0), .int .i64 ((qc l0_2 x4_1).f1), .int .i64 ((qc l0_2 x4_1).f2)] 55 (0, 0)) (by (with_reducible repeat (first | refine qi ?_ _ | refine ql ?_ | refine qh ?_ _)); exact BK689.out) hb)
                 have n8_ := qa.mk (Kd.qU (by repeat (first | (with_reducible exact HR728.out) | (with_reducible refine Kd.C_alloc ?_ _) | (with_reducible refine Kd.C_drewN ?_ _) | (with_reducible refine Kd.qQ ?_) | exact HR728.out)) hb)
                 have n9_ := qa.mk (Kd.qU (by repeat (first | (with_reducible exact HR738.out) | (with_reducible refine Kd.C_alloc ?_ _) | (with_reducible refine Kd.C_drewN ?_ _) | (with_reducible refine Kd.qQ ?_) | exact HR738.out)) hb)
                 have n10_ := qa.mk (qD (by repeat (first | (with_reducible first | exact HB.out | apply qg | apply qb | apply qf | refine qd ?_ GE683.out | refine qd ?_ GE684.out | refine qd ?_ GE689.out) | exact HB.out)) hb)
                 clear HO_3
                 clear HO_684001
                 clear HO731
                 clear HO734
                 clear BK683
                 clear BK684
                 clear BK689
                 clear HR728
                 clear HR738
                 clear HB
                 have HO_3 := n0_
                 have HO_684001 := n1_
                 have HO731 := n2_
                 have HO734 := n3_
                 have HO744 := n4_
                 have BK683 := n5_
                 have BK684 := n6_
                 have BK689 := n7_
                 have HR728 := n8_
                 have HR738 := n9_
                 have HB := n10_
                 clear n0_ n1_ n2_ n3_ n4_ n5_ n6_ n7_ n8_ n9_ n10_
                 clear hb ho74
                 refine hK.out _ _ ⟨(qj BK689.out 0).trans rfl, (qj BK689.out 1).trans rfl, (qj BK689.out 2).trans rfl⟩ (fun hHeld => ?_)
                 clear hK K
                 refine zo (a' := ?_) ?_ ?_
                 rotate_left
                 ·show Act.put _ (some 58) _ = _
                  simp only [Act.put, sA, sB, sC, qw, qx]
                  rfl
                 refine one_ (i := 4) (N := some 56) tb4_21 rfl rfl (zU HT_.out (by kernel_rfl)) (by decide) (fun K hK => ?_)
                 refine Kd.vM k55 (w0 := w) w.heap.size (by rfl) (.tmp 52) (.tmp 55) 23 55 (.agg #[(.int .i64 0), (.int .i64 0), (.int .i64 0)]) 24 rfl Try.underlying23 zZ rfl (by decide) (by omega) v733 y732 y735 _ _ _ (fun k_ => (w.heap.size ≤ k_) ∧ some k_ ≠ (.slice Ao14 x3_1.length co14 : Value).ownBlock ∧ some k_ ≠ (.slice Ao68 y729.length co68 : Value).ownBlock ∧ some k_ ≠ (v743 : Value).ownBlock ∧ k_ ≠ gb689) (fun _ => False) rfl rfl ?aO ?aR (fun _ _ h => h) (fun _ h => h.elim) ?aF ?aB ?aS ?aL ?_
                 (case aR => repeat (first | exact (by repeat (first | (with_reducible exact HR738.out) | (with_reducible refine Kd.C_alloc ?_ _) | (with_reducible refine Kd.C_drewN ?_ _) | (with_reducible refine Kd.qQ ?_) | exact HR738.out)) | (with_reducible refine Kd.C_alloc ?_ _) | (with_reducible refine Kd.C_drewN ?_ _) | (with_reducible refine Kd.qQ ?_)))
                 (case aB => exact (by repeat (first | (with_reducible first | exact HB.out | apply qg | apply qb | apply qf | refine qd ?_ GE683.out | refine qd ?_ GE684.out | refine qd ?_ GE689.out) | exact HB.out)))
                 (case aF => exact (fun k_ hk => ⟨(Nat.le_trans (qA (by repeat (first | (with_reducible first | exact HB.out | apply qg | apply qb | apply qf | refine qd ?_ GE683.out | refine qd ?_ GE684.out | refine qd ?_ GE689.out) | exact HB.out))) hk), Kd.fresh' (Kd.R_lt (by (with_reducible repeat (first | apply Kd.R_alloc | apply Kd.qo | apply Kd.qz)); exact HO_3.out)) k_ hk, Kd.fresh' (Kd.R_lt (by (with_reducible repeat (first | apply Kd.R_alloc | apply Kd.qo | apply Kd.qz)); exact HO731.out)) k_ hk, Kd.fresh' (Kd.R_lt (by (with_reducible repeat (first | apply Kd.R_alloc | apply Kd.qo | apply Kd.qz)); exact HO744.out)) k_ hk, Kd.wD (g := gb689) (o := .cells #[.int .i64 ((qc l0_2 x4_1).f0), .int .i64 ((qc l0_2 x4_1).f1), .int .i64 ((qc l0_2 x4_1).f2)] 55 (0, 0)) (by (with_reducible repeat (first | refine qi ?_ _ | refine ql ?_ | refine qh ?_ _)); exact BK689.out) k_ hk⟩))
                 (case aO => exact (by (with_reducible repeat (first | apply Kd.R_alloc | apply Kd.qo | apply Kd.qz)); exact Kd.qW HO734.out (fun _ hk => ⟨hk.1.1.1.1.1, ⟨hk.1.1.1.2, ⟨hk.1.1.2, ⟨hk.2, hk.1.2⟩⟩⟩⟩)))
                 (case aS => exact (qA (by repeat (first | (with_reducible first | exact HB.out | apply qg | apply qb | apply qf | refine qd ?_ GE683.out | refine qd ?_ GE684.out | refine qd ?_ GE689.out) | exact HB.out))))
                 (case aL => have := LMc59.out; omega)
                 intro v740 w75 ho hb hg hat
                 rw [← Ny739.out] at ho
                 have n0_ := qa.mk (Kd.vB (ok := (fun k_ => (w.heap.size ≤ k_) ∧ some k_ ≠ (.slice Ao68 y729.length co68 : Value).ownBlock ∧ some k_ ≠ (v743 : Value).ownBlock ∧ k_ ≠ gb689)) (by (with_reducible repeat (first | apply Kd.R_alloc | apply Kd.qo | apply Kd.qz)); exact Kd.qW HO_3.out (fun _ hk => ⟨⟨hk.1.1.1.1, ⟨hk.1.1.2, ⟨hk.2, hk.1.1.1.2⟩⟩⟩, hk.1.2⟩)) hg hat)
                 have n1_ := qa.mk (Kd.zJ (ok := (fun k_ => (P0_1_ k_ ∨ w.heap.size ≤ k_) ∧ some k_ ≠ (.slice Ao14 x3_1.length co14 : Value).ownBlock ∧ some k_ ≠ (.slice Ao68 y729.length co68 : Value).ownBlock ∧ some k_ ≠ (v743 : Value).ownBlock ∧ k_ ≠ gb683 ∧ k_ ≠ gb684 ∧ k_ ≠ gb689)) (by (with_reducible repeat (first | apply Kd.V_alloc | apply Kd.V_drewN | apply Kd.vg)); exact Kd.zg HO_684001.out (fun _ hk => ⟨⟨hk.1.1.1.1, ⟨hk.1.1.1.2.1, ⟨hk.1.1.2, ⟨hk.2, ⟨hk.1.1.1.2.2.1, ⟨hk.1.1.1.2.2.2.1, hk.1.1.1.2.2.2.2⟩⟩⟩⟩⟩⟩, hk.1.2⟩)) hg hat)
                 have n2_ := qa.mk (q9 (g := gb683) (o := .cells #[.int .i64 a0_0, .slice A0_1 l0_1.length c0_1, .slice (some ad688) l0_2.length c0_2] 25 (0, 0)) (by (with_reducible repeat (first | refine qi ?_ _ | refine ql ?_ | refine qh ?_ _)); exact BK683.out) hg (Kd.R_ne HO734.out BK683.out (by decide)))
                 have n3_ := qa.mk (q9 (g := gb684) (o := .cells #[.int .i64 0, .slice none 0 0, .slice none 0 0] 25 (0, 0)) (by (with_reducible repeat (first | refine qi ?_ _ | refine ql ?_ | refine qh ?_ _)); exact BK684.out) hg (Kd.R_ne HO734.out BK684.out (by decide)))
                 have n4_ := qa.mk (q9 (g := gb689) (o := .cells #[.int .i64 ((qc l0_2 x4_1).f0), .int .i64 ((qc l0_2 x4_1).f1), .int .i64 ((qc l0_2 x4_1).f2)] 55 (0, 0)) (by (with_reducible repeat (first | refine qi ?_ _ | refine ql ?_ | refine qh ?_ _)); exact BK689.out) hg (Kd.wX HO734.out (fun _ hk => hk.1.2)))
                 have n5_ := qa.mk (Kd.vB (ok := (fun k_ => (w.heap.size ≤ k_) ∧ some k_ ≠ (.slice Ao14 x3_1.length co14 : Value).ownBlock ∧ some k_ ≠ (v743 : Value).ownBlock ∧ k_ ≠ gb689)) (by (with_reducible repeat (first | apply Kd.R_alloc | apply Kd.qo | apply Kd.qz)); exact Kd.qW HO731.out (fun _ hk => ⟨⟨hk.1.1.1, ⟨hk.1.1.2.1, ⟨hk.2, hk.1.1.2.2⟩⟩⟩, hk.1.2⟩)) hg hat)
                 have n6_ := qa.mk (Kd.vB (ok := (fun k_ => (w.heap.size ≤ k_) ∧ some k_ ≠ (.slice Ao14 x3_1.length co14 : Value).ownBlock ∧ some k_ ≠ (.slice Ao68 y729.length co68 : Value).ownBlock ∧ k_ ≠ gb689)) (by (with_reducible repeat (first | apply Kd.R_alloc | apply Kd.qo | apply Kd.qz)); exact Kd.qW HO744.out (fun _ hk => ⟨⟨hk.1.1.1.1.1, ⟨hk.1.1.1.2, ⟨hk.1.1.2, hk.2⟩⟩⟩, hk.1.2⟩)) hg hat)
                 have n7_ := qa.mk (hb)
                 have n8_ := qa.mk ((show Kd.C k55 w75 A66 y725.length y725 from by rw [Ny725.out, KA66.out]; exact Kd.jb (m := (x6_2 : Int).toNat) (c := co14) ((Kd.qH (Kd.vB (ok := (fun k_ => (w.heap.size ≤ k_) ∧ some k_ ≠ (.slice Ao68 y729.length co68 : Value).ownBlock ∧ some k_ ≠ (v743 : Value).ownBlock ∧ k_ ≠ gb689)) (by (with_reducible repeat (first | apply Kd.R_alloc | apply Kd.qo | apply Kd.qz)); exact Kd.qW HO_3.out (fun _ hk => ⟨⟨hk.1.1.1.1, ⟨hk.1.1.2, ⟨hk.2, hk.1.1.1.2⟩⟩⟩, hk.1.2⟩)) hg hat)).2.2) KL66.out ((Kd.qH (Kd.vB (ok := (fun k_ => (w.heap.size ≤ k_) ∧ some k_ ≠ (.slice Ao68 y729.length co68 : Value).ownBlock ∧ some k_ ≠ (v743 : Value).ownBlock ∧ k_ ≠ gb689)) (by (with_reducible repeat (first | apply Kd.R_alloc | apply Kd.qo | apply Kd.qz)); exact Kd.qW HO_3.out (fun _ hk => ⟨⟨hk.1.1.1.1, ⟨hk.1.1.2, ⟨hk.2, hk.1.1.1.2⟩⟩⟩, hk.1.2⟩)) hg hat)).2.1)))
                 have n9_ := qa.mk ((show Kd.C k55 w75 Ao14 y735.length y735 from by rw [Ny735.out]; exact Kd.jF (m := (x6_2 : Int).toNat) ((Kd.qH (Kd.vB (ok := (fun k_ => (w.heap.size ≤ k_) ∧ some k_ ≠ (.slice Ao68 y729.length co68 : Value).ownBlock ∧ some k_ ≠ (v743 : Value).ownBlock ∧ k_ ≠ gb689)) (by (with_reducible repeat (first | apply Kd.R_alloc | apply Kd.qo | apply Kd.qz)); exact Kd.qW HO_3.out (fun _ hk => ⟨⟨hk.1.1.1.1, ⟨hk.1.1.2, ⟨hk.2, hk.1.1.1.2⟩⟩⟩, hk.1.2⟩)) hg hat)).2.2) KL70.out))
                 have n10_ := qa.mk (ho)
                 clear HO_3
                 clear HO_684001
                 clear BK683
                 clear BK684
                 clear BK689
                 clear HO731
                 clear HO744
                 clear HB
                 clear HR728
                 clear HR738
                 clear HO734
                 have HO_3 := n0_
                 have HO_684001 := n1_
                 have BK683 := n2_
                 have BK684 := n3_
                 have BK689 := n4_
                 have HO731 := n5_
                 have HO744 := n6_
                 have HB := n7_
                 have HR728 := n8_
                 have HR738 := n9_
                 have HO741 := n10_
                 clear n0_ n1_ n2_ n3_ n4_ n5_ n6_ n7_ n8_ n9_ n10_
                 clear ho hb hg hat
                 refine hK.out _ _ ⟨(qj BK689.out 0).trans rfl, (qj BK689.out 1).trans rfl, (qj BK689.out 2).trans rfl⟩ (fun hHeld => ?_)
                 clear hK K
                 refine zo (a' := ?_) ?_ ?_
                 rotate_left
                 ·show Act.put _ (some 56) _ = _
                  simp only [Act.put, sA, sB, sC, qw, qx]
                  rfl
                 exact zo (by simp only [wZ, Act.put, List.setIfInBounds_toArray, List.set_cons_zero, List.set_cons_succ]) (hCont (v733, v740, v743) _ ⟨hHeld, (by (with_reducible repeat (first | apply Kd.R_alloc | apply Kd.qo | apply Kd.qz)); exact Kd.qW HO731.out (fun _ hk => ⟨hk.1.1, ⟨hk.2, ⟨hk.1.2.2.1, ⟨hk.1.2.1, hk.1.2.2.2⟩⟩⟩⟩)), (by (with_reducible repeat (first | apply Kd.R_alloc | apply Kd.qo | apply Kd.qz)); exact Kd.qW HO741.out (fun _ hk => ⟨hk.1, ⟨hk.2.2.1, ⟨hk.2.2.2.1, ⟨hk.2.1, hk.2.2.2.2⟩⟩⟩⟩)), (by (with_reducible repeat (first | apply Kd.R_alloc | apply Kd.qo | apply Kd.qz)); exact Kd.qW HO744.out (fun _ hk => ⟨hk.1.1, ⟨hk.1.2.2.1, ⟨hk.2, ⟨hk.1.2.1, hk.1.2.2.2⟩⟩⟩⟩)), (by (with_reducible repeat (first | apply Kd.R_alloc | apply Kd.qo | apply Kd.qz)); exact Kd.qW HO_3.out (fun _ hk => ⟨hk.1.1, ⟨hk.1.2.1, ⟨hk.2, ⟨hk.1.2.2.1, hk.1.2.2.2⟩⟩⟩⟩)), (by (with_reducible repeat (first | apply Kd.V_alloc | apply Kd.V_drewN | apply Kd.vg)); exact Kd.zg HO_684001.out (fun _ hk => ⟨hk.1.1, ⟨hk.1.2.2.1, ⟨hk.2, ⟨hk.1.2.2.2.1, ⟨hk.1.2.1, ⟨hk.1.2.2.2.2.1, ⟨hk.1.2.2.2.2.2.1, hk.1.2.2.2.2.2.2⟩⟩⟩⟩⟩⟩⟩)), (by (with_reducible repeat (first | refine qi ?_ _ | refine ql ?_ | refine qh ?_ _)); exact BK683.out), (by (with_reducible repeat (first | refine qi ?_ _ | refine ql ?_ | refine qh ?_ _)); exact BK684.out), (by (with_reducible repeat (first | refine qi ?_ _ | refine ql ?_ | refine qh ?_ _)); exact BK689.out), (by repeat (first | (with_reducible first | exact HB.out | apply qg | apply qb | apply qf | refine qd ?_ GE683.out | refine qd ?_ GE684.out | refine qd ?_ GE689.out) | exact HB.out))⟩)
               ·skip
                refine Kd.zC k55 _ 55 ?hg (N := 58) ?hd (xs := ([(⟨((qc l0_2 x4_1).f0), ((qc l0_2 x4_1).f1), ((qc l0_2 x4_1).f2)⟩ : S55)] : List (S55))) (inner := [.int .i64 ((qc l0_2 x4_1).f0), .int .i64 ((qc l0_2 x4_1).f1), .int .i64 ((qc l0_2 x4_1).f2)]) (ok := fun _ => True) (okp := fun _ => True) ?hr ?hp (fun _ hk => hk) trivial (Below.refl _ _) (Nat.le_refl _) (by simp) ?_; (case hd => rfl); (case hg => rfl); (case hr => first | (go_simp; done) | (go_simp; rfl)); (case hp => exact (Reps.c3 (show Kd.M k55 _ _ _ (⟨((qc l0_2 x4_1).f0), ((qc l0_2 x4_1).f1), ((qc l0_2 x4_1).f2)⟩ : S55) [.int .i64 ((qc l0_2 x4_1).f0), .int .i64 ((qc l0_2 x4_1).f1), .int .i64 ((qc l0_2 x4_1).f2)] from (wm _ _ _ (⟨((qc l0_2 x4_1).f0), ((qc l0_2 x4_1).f1), ((qc l0_2 x4_1).f2)⟩ : S55) )) (Reps.none _ _)))
                intro v743 w71 ho72 hb hg_ hnew_
                clear hg_ hnew_
                (first | rw [← Ny742.out] at ho72 | (simp only [Int.reduceToNat] at ho72; rw [← Ny742.out] at ho72))
                have n0_ := qa.mk (Kd.vv (by (with_reducible repeat (first | apply Kd.R_alloc | apply Kd.qo | apply Kd.qz)); exact HO_3.out) (Kd.vE ho72) hb)
                have n1_ := qa.mk (Kd.zL (by (with_reducible repeat (first | apply Kd.V_alloc | apply Kd.V_drewN | apply Kd.vg)); exact HO_684001.out) (Kd.vE ho72) hb)
                have n2_ := qa.mk (Kd.vv (by (with_reducible repeat (first | apply Kd.R_alloc | apply Kd.qo | apply Kd.qz)); exact HO731.out) (Kd.vE ho72) hb)
                have n3_ := qa.mk (Kd.vO (Kd.wY (Kd.vR (Kd.vR (Kd.wS (M := fun k_ => (w.heap.size ≤ k_)) ho72 (qA (by repeat (first | (with_reducible first | exact HB.out | apply qg | apply qb | apply qf | refine qd ?_ GE683.out | refine qd ?_ GE684.out | refine qd ?_ GE689.out) | exact HB.out))) (fun k_ h_ => h_)) (Kd.R_lt (by (with_reducible repeat (first | apply Kd.R_alloc | apply Kd.qo | apply Kd.qz)); exact HO_3.out))) (Kd.R_lt (by (with_reducible repeat (first | apply Kd.R_alloc | apply Kd.qo | apply Kd.qz)); exact HO731.out))) (g := gb689) (o := .cells #[.int .i64 ((qc l0_2 x4_1).f0), .int .i64 ((qc l0_2 x4_1).f1), .int .i64 ((qc l0_2 x4_1).f2)] 55 (0, 0)) (by (with_reducible repeat (first | refine qi ?_ _ | refine ql ?_ | refine qh ?_ _)); exact BK689.out)) (qA (by repeat (first | (with_reducible first | exact HB.out | apply qg | apply qb | apply qf | refine qd ?_ GE683.out | refine qd ?_ GE684.out | refine qd ?_ GE689.out) | exact HB.out))))
                have n4_ := qa.mk (qB (g := gb683) (o := .cells #[.int .i64 a0_0, .slice A0_1 l0_1.length c0_1, .slice (some ad688) l0_2.length c0_2] 25 (0, 0)) (by (with_reducible repeat (first | refine qi ?_ _ | refine ql ?_ | refine qh ?_ _)); exact BK683.out) hb)
                have n5_ := qa.mk (qB (g := gb684) (o := .cells #[.int .i64 0, .slice none 0 0, .slice none 0 0] 25 (0, 0)) (by (with_reducible repeat (first | refine qi ?_ _ | refine ql ?_ | refine qh ?_ _)); exact BK684.out) hb)
                have n6_ := qa.mk (qB (g := gb689) (o := .cells #[.int .i64 ((qc l0_2 x4_1).f0), .int .i64 ((qc l0_2 x4_1).f1), .int .i64 ((qc l0_2 x4_1).f2)] 55 (0, 0)) (by (with_reducible repeat (first | refine qi ?_ _ | refine ql ?_ | refine qh ?_ _)); exact BK689.out) hb)
                have n7_ := qa.mk (Kd.qU (by repeat (first | (with_reducible exact HR728.out) | (with_reducible refine Kd.C_alloc ?_ _) | (with_reducible refine Kd.C_drewN ?_ _) | (with_reducible refine Kd.qQ ?_) | exact HR728.out)) hb)
                have n8_ := qa.mk (Kd.qU (by repeat (first | (with_reducible exact HR738.out) | (with_reducible refine Kd.C_alloc ?_ _) | (with_reducible refine Kd.C_drewN ?_ _) | (with_reducible refine Kd.qQ ?_) | exact HR738.out)) hb)
                have n9_ := qa.mk (qD (by repeat (first | (with_reducible first | exact HB.out | apply qg | apply qb | apply qf | refine qd ?_ GE683.out | refine qd ?_ GE684.out | refine qd ?_ GE689.out) | exact HB.out)) hb)
                clear HO_3
                clear HO_684001
                clear HO731
                clear BK683
                clear BK684
                clear BK689
                clear HR728
                clear HR738
                clear HB
                have HO_3 := n0_
                have HO_684001 := n1_
                have HO731 := n2_
                have HO744 := n3_
                have BK683 := n4_
                have BK684 := n5_
                have BK689 := n6_
                have HR728 := n7_
                have HR738 := n8_
                have HB := n9_
                clear n0_ n1_ n2_ n3_ n4_ n5_ n6_ n7_ n8_ n9_
                clear hb ho72
                refine hK.out _ _ ⟨(qj BK689.out 0).trans rfl, (qj BK689.out 1).trans rfl, (qj BK689.out 2).trans rfl⟩ (fun hHeld => ?_)
                clear hK K
                refine zo (a' := ?_) ?_ ?_
                rotate_left
                ·show Act.put _ (some 58) _ = _
                 simp only [Act.put, sA, sB, sC, qw, qx]
                 rfl
                refine one_ (i := 0) (N := some 52) tb4_25 rfl rfl (zU HT_.out (by kernel_rfl)) (by decide) (fun K hK => ?_)
                refine Kd.zC k55 _ 55 ?hg (N := 52) ?hd (xs := ([] : List (S55))) (inner := []) (ok := fun _ => True) (okp := fun _ => True) ?hr ?hp (fun _ hk => hk) trivial (Below.refl _ _) (Nat.le_refl _) (by simp) ?_; (case hd => rfl); (case hg => rfl); (case hr => first | (go_simp; done) | (go_simp; rfl)); (case hp => exact (Reps.none _ _))
                intro v733 w73 ho74 hb hg_ hnew_
                clear hg_ hnew_
                (first | rw [← Ny732.out] at ho74 | (simp only [Int.reduceToNat] at ho74; rw [← Ny732.out] at ho74))
                have n0_ := qa.mk (Kd.vv (by (with_reducible repeat (first | apply Kd.R_alloc | apply Kd.qo | apply Kd.qz)); exact HO_3.out) (Kd.vE ho74) hb)
                have n1_ := qa.mk (Kd.zL (by (with_reducible repeat (first | apply Kd.V_alloc | apply Kd.V_drewN | apply Kd.vg)); exact HO_684001.out) (Kd.vE ho74) hb)
                have n2_ := qa.mk (Kd.vv (by (with_reducible repeat (first | apply Kd.R_alloc | apply Kd.qo | apply Kd.qz)); exact HO731.out) (Kd.vE ho74) hb)
                have n3_ := qa.mk (Kd.vv (by (with_reducible repeat (first | apply Kd.R_alloc | apply Kd.qo | apply Kd.qz)); exact HO744.out) (Kd.vE ho74) hb)
                have n4_ := qa.mk (Kd.vO (Kd.wY (Kd.vR (Kd.vR (Kd.vR (Kd.wS (M := fun k_ => (w.heap.size ≤ k_)) ho74 (qA (by repeat (first | (with_reducible first | exact HB.out | apply qg | apply qb | apply qf | refine qd ?_ GE683.out | refine qd ?_ GE684.out | refine qd ?_ GE689.out) | exact HB.out))) (fun k_ h_ => h_)) (Kd.R_lt (by (with_reducible repeat (first | apply Kd.R_alloc | apply Kd.qo | apply Kd.qz)); exact HO_3.out))) (Kd.R_lt (by (with_reducible repeat (first | apply Kd.R_alloc | apply Kd.qo | apply Kd.qz)); exact HO731.out))) (Kd.R_lt (by (with_reducible repeat (first | apply Kd.R_alloc | apply Kd.qo | apply Kd.qz)); exact HO744.out))) (g := gb689) (o := .cells #[.int .i64 ((qc l0_2 x4_1).f0), .int .i64 ((qc l0_2 x4_1).f1), .int .i64 ((qc l0_2 x4_1).f2)] 55 (0, 0)) (by (with_reducible repeat (first | refine qi ?_ _ | refine ql ?_ | refine qh ?_ _)); exact BK689.out)) (qA (by repeat (first | (with_reducible first | exact HB.out | apply qg | apply qb | apply qf | refine qd ?_ GE683.out | refine qd ?_ GE684.out | refine qd ?_ GE689.out) | exact HB.out))))
                have n5_ := qa.mk (qB (g := gb683) (o := .cells #[.int .i64 a0_0, .slice A0_1 l0_1.length c0_1, .slice (some ad688) l0_2.length c0_2] 25 (0, 0)) (by (with_reducible repeat (first | refine qi ?_ _ | refine ql ?_ | refine qh ?_ _)); exact BK683.out) hb)
                have n6_ := qa.mk (qB (g := gb684) (o := .cells #[.int .i64 0, .slice none 0 0, .slice none 0 0] 25 (0, 0)) (by (with_reducible repeat (first | refine qi ?_ _ | refine ql ?_ | refine qh ?_ _)); exact BK684.out) hb)
                have n7_ := qa.mk (qB (g := gb689) (o := .cells #[.int .i64 ((qc l0_2 x4_1).f0), .int .i64 ((qc l0_2 x4_1).f1), .int .i64 ((qc l0_2 x4_1).f2)] 55 (0, 0)) (by (with_reducible repeat (first | refine qi ?_ _ | refine ql ?_ | refine qh ?_ _)); exact BK689.out) hb)
                have n8_ := qa.mk (Kd.qU (by repeat (first | (with_reducible exact HR728.out) | (with_reducible refine Kd.C_alloc ?_ _) | (with_reducible refine Kd.C_drewN ?_ _) | (with_reducible refine Kd.qQ ?_) | exact HR728.out)) hb)
                have n9_ := qa.mk (Kd.qU (by repeat (first | (with_reducible exact HR738.out) | (with_reducible refine Kd.C_alloc ?_ _) | (with_reducible refine Kd.C_drewN ?_ _) | (with_reducible refine Kd.qQ ?_) | exact HR738.out)) hb)
                have n10_ := qa.mk (qD (by repeat (first | (with_reducible first | exact HB.out | apply qg | apply qb | apply qf | refine qd ?_ GE683.out | refine qd ?_ GE684.out | refine qd ?_ GE689.out) | exact HB.out)) hb)
                clear HO_3
                clear HO_684001
                clear HO731
                clear HO744
                clear BK683
                clear BK684
                clear BK689
                clear HR728
                clear HR738
                clear HB
                have HO_3 := n0_
                have HO_684001 := n1_
                have HO731 := n2_
                have HO744 := n3_
                have HO734 := n4_
                have BK683 := n5_
                have BK684 := n6_
                have BK689 := n7_
                have HR728 := n8_
                have HR738 := n9_
                have HB := n10_
                clear n0_ n1_ n2_ n3_ n4_ n5_ n6_ n7_ n8_ n9_ n10_
                clear hb ho74
                refine hK.out _ _ ⟨(qj BK689.out 0).trans rfl, (qj BK689.out 1).trans rfl, (qj BK689.out 2).trans rfl⟩ (fun hHeld => ?_)
                clear hK K
                refine zo (a' := ?_) ?_ ?_
                rotate_left
                ·show Act.put _ (some 52) _ = _
                 simp only [Act.put, sA, sB, sC, qw, qx]
                 rfl
                refine one_ (i := 4) (N := some 56) tb4_21 rfl rfl (zU HT_.out (by kernel_rfl)) (by decide) (fun K hK => ?_)
                refine Kd.vM k55 (w0 := w) w.heap.size (by rfl) (.tmp 52) (.tmp 55) 23 55 (.agg #[(.int .i64 0), (.int .i64 0), (.int .i64 0)]) 24 rfl Try.underlying23 zZ rfl (by decide) (by omega) v733 y732 y735 _ _ _ (fun k_ => (w.heap.size ≤ k_) ∧ some k_ ≠ (.slice Ao14 x3_1.length co14 : Value).ownBlock ∧ some k_ ≠ (.slice Ao68 y729.length co68 : Value).ownBlock ∧ some k_ ≠ (v743 : Value).ownBlock ∧ k_ ≠ gb689) (fun _ => False) rfl rfl ?aO ?aR (fun _ _ h => h) (fun _ h => h.elim) ?aF ?aB ?aS ?aL ?_
                (case aR => repeat (first | exact (by repeat (first | (with_reducible exact HR738.out) | (with_reducible refine Kd.C_alloc ?_ _) | (with_reducible refine Kd.C_drewN ?_ _) | (with_reducible refine Kd.qQ ?_) | exact HR738.out)) | (with_reducible refine Kd.C_alloc ?_ _) | (with_reducible refine Kd.C_drewN ?_ _) | (with_reducible refine Kd.qQ ?_)))
                (case aB => exact (by repeat (first | (with_reducible first | exact HB.out | apply qg | apply qb | apply qf | refine qd ?_ GE683.out | refine qd ?_ GE684.out | refine qd ?_ GE689.out) | exact HB.out)))
                (case aF => exact (fun k_ hk => ⟨(Nat.le_trans (qA (by repeat (first | (with_reducible first | exact HB.out | apply qg | apply qb | apply qf | refine qd ?_ GE683.out | refine qd ?_ GE684.out | refine qd ?_ GE689.out) | exact HB.out))) hk), Kd.fresh' (Kd.R_lt (by (with_reducible repeat (first | apply Kd.R_alloc | apply Kd.qo | apply Kd.qz)); exact HO_3.out)) k_ hk, Kd.fresh' (Kd.R_lt (by (with_reducible repeat (first | apply Kd.R_alloc | apply Kd.qo | apply Kd.qz)); exact HO731.out)) k_ hk, Kd.fresh' (Kd.R_lt (by (with_reducible repeat (first | apply Kd.R_alloc | apply Kd.qo | apply Kd.qz)); exact HO744.out)) k_ hk, Kd.wD (g := gb689) (o := .cells #[.int .i64 ((qc l0_2 x4_1).f0), .int .i64 ((qc l0_2 x4_1).f1), .int .i64 ((qc l0_2 x4_1).f2)] 55 (0, 0)) (by (with_reducible repeat (first | refine qi ?_ _ | refine ql ?_ | refine qh ?_ _)); exact BK689.out) k_ hk⟩))
                (case aO => exact (by (with_reducible repeat (first | apply Kd.R_alloc | apply Kd.qo | apply Kd.qz)); exact Kd.qW HO734.out (fun _ hk => ⟨hk.1.1.1.1.1, ⟨hk.1.1.1.2, ⟨hk.1.1.2, ⟨hk.1.2, hk.2⟩⟩⟩⟩)))
                (case aS => exact (qA (by repeat (first | (with_reducible first | exact HB.out | apply qg | apply qb | apply qf | refine qd ?_ GE683.out | refine qd ?_ GE684.out | refine qd ?_ GE689.out) | exact HB.out))))
                (case aL => have := LMc59.out; omega)
                intro v740 w75 ho hb hg hat
                rw [← Ny739.out] at ho
                have n0_ := qa.mk (Kd.vB (ok := (fun k_ => (w.heap.size ≤ k_) ∧ some k_ ≠ (.slice Ao68 y729.length co68 : Value).ownBlock ∧ some k_ ≠ (v743 : Value).ownBlock ∧ k_ ≠ gb689)) (by (with_reducible repeat (first | apply Kd.R_alloc | apply Kd.qo | apply Kd.qz)); exact Kd.qW HO_3.out (fun _ hk => ⟨⟨hk.1.1.1.1, ⟨hk.1.1.2, ⟨hk.1.2, hk.1.1.1.2⟩⟩⟩, hk.2⟩)) hg hat)
                have n1_ := qa.mk (Kd.zJ (ok := (fun k_ => (P0_1_ k_ ∨ w.heap.size ≤ k_) ∧ some k_ ≠ (.slice Ao14 x3_1.length co14 : Value).ownBlock ∧ some k_ ≠ (.slice Ao68 y729.length co68 : Value).ownBlock ∧ some k_ ≠ (v743 : Value).ownBlock ∧ k_ ≠ gb683 ∧ k_ ≠ gb684 ∧ k_ ≠ gb689)) (by (with_reducible repeat (first | apply Kd.V_alloc | apply Kd.V_drewN | apply Kd.vg)); exact Kd.zg HO_684001.out (fun _ hk => ⟨⟨hk.1.1.1.1, ⟨hk.1.1.1.2.1, ⟨hk.1.1.2, ⟨hk.1.2, ⟨hk.1.1.1.2.2.1, ⟨hk.1.1.1.2.2.2.1, hk.1.1.1.2.2.2.2⟩⟩⟩⟩⟩⟩, hk.2⟩)) hg hat)
                have n2_ := qa.mk (q9 (g := gb683) (o := .cells #[.int .i64 a0_0, .slice A0_1 l0_1.length c0_1, .slice (some ad688) l0_2.length c0_2] 25 (0, 0)) (by (with_reducible repeat (first | refine qi ?_ _ | refine ql ?_ | refine qh ?_ _)); exact BK683.out) hg (Kd.R_ne HO734.out BK683.out (by decide)))
                have n3_ := qa.mk (q9 (g := gb684) (o := .cells #[.int .i64 0, .slice none 0 0, .slice none 0 0] 25 (0, 0)) (by (with_reducible repeat (first | refine qi ?_ _ | refine ql ?_ | refine qh ?_ _)); exact BK684.out) hg (Kd.R_ne HO734.out BK684.out (by decide)))
                have n4_ := qa.mk (q9 (g := gb689) (o := .cells #[.int .i64 ((qc l0_2 x4_1).f0), .int .i64 ((qc l0_2 x4_1).f1), .int .i64 ((qc l0_2 x4_1).f2)] 55 (0, 0)) (by (with_reducible repeat (first | refine qi ?_ _ | refine ql ?_ | refine qh ?_ _)); exact BK689.out) hg (Kd.wX HO734.out (fun _ hk => hk.2)))
                have n5_ := qa.mk (Kd.vB (ok := (fun k_ => (w.heap.size ≤ k_) ∧ some k_ ≠ (.slice Ao14 x3_1.length co14 : Value).ownBlock ∧ some k_ ≠ (v743 : Value).ownBlock ∧ k_ ≠ gb689)) (by (with_reducible repeat (first | apply Kd.R_alloc | apply Kd.qo | apply Kd.qz)); exact Kd.qW HO731.out (fun _ hk => ⟨⟨hk.1.1.1, ⟨hk.1.1.2.1, ⟨hk.1.2, hk.1.1.2.2⟩⟩⟩, hk.2⟩)) hg hat)
                have n6_ := qa.mk (Kd.vB (ok := (fun k_ => (w.heap.size ≤ k_) ∧ some k_ ≠ (.slice Ao14 x3_1.length co14 : Value).ownBlock ∧ some k_ ≠ (.slice Ao68 y729.length co68 : Value).ownBlock ∧ k_ ≠ gb689)) (by (with_reducible repeat (first | apply Kd.R_alloc | apply Kd.qo | apply Kd.qz)); exact Kd.qW HO744.out (fun _ hk => ⟨⟨hk.1.1.1.1.1, ⟨hk.1.1.1.2, ⟨hk.1.1.2, hk.1.2⟩⟩⟩, hk.2⟩)) hg hat)
                have n7_ := qa.mk (hb)
                have n8_ := qa.mk ((show Kd.C k55 w75 A66 y725.length y725 from by rw [Ny725.out, KA66.out]; exact Kd.jb (m := (x6_2 : Int).toNat) (c := co14) ((Kd.qH (Kd.vB (ok := (fun k_ => (w.heap.size ≤ k_) ∧ some k_ ≠ (.slice Ao68 y729.length co68 : Value).ownBlock ∧ some k_ ≠ (v743 : Value).ownBlock ∧ k_ ≠ gb689)) (by (with_reducible repeat (first | apply Kd.R_alloc | apply Kd.qo | apply Kd.qz)); exact Kd.qW HO_3.out (fun _ hk => ⟨⟨hk.1.1.1.1, ⟨hk.1.1.2, ⟨hk.1.2, hk.1.1.1.2⟩⟩⟩, hk.2⟩)) hg hat)).2.2) KL66.out ((Kd.qH (Kd.vB (ok := (fun k_ => (w.heap.size ≤ k_) ∧ some k_ ≠ (.slice Ao68 y729.length co68 : Value).ownBlock ∧ some k_ ≠ (v743 : Value).ownBlock ∧ k_ ≠ gb689)) (by (with_reducible repeat (first | apply Kd.R_alloc | apply Kd.qo | apply Kd.qz)); exact Kd.qW HO_3.out (fun _ hk => ⟨⟨hk.1.1.1.1, ⟨hk.1.1.2, ⟨hk.1.2, hk.1.1.1.2⟩⟩⟩, hk.2⟩)) hg hat)).2.1)))
                have n9_ := qa.mk ((show Kd.C k55 w75 Ao14 y735.length y735 from by rw [Ny735.out]; exact Kd.jF (m := (x6_2 : Int).toNat) ((Kd.qH (Kd.vB (ok := (fun k_ => (w.heap.size ≤ k_) ∧ some k_ ≠ (.slice Ao68 y729.length co68 : Value).ownBlock ∧ some k_ ≠ (v743 : Value).ownBlock ∧ k_ ≠ gb689)) (by (with_reducible repeat (first | apply Kd.R_alloc | apply Kd.qo | apply Kd.qz)); exact Kd.qW HO_3.out (fun _ hk => ⟨⟨hk.1.1.1.1, ⟨hk.1.1.2, ⟨hk.1.2, hk.1.1.1.2⟩⟩⟩, hk.2⟩)) hg hat)).2.2) KL70.out))
                have n10_ := qa.mk (ho)
                clear HO_3
                clear HO_684001
                clear BK683
                clear BK684
                clear BK689
                clear HO731
                clear HO744
                clear HB
                clear HR728
                clear HR738
                clear HO734
                have HO_3 := n0_
                have HO_684001 := n1_
                have BK683 := n2_
                have BK684 := n3_
                have BK689 := n4_
                have HO731 := n5_
                have HO744 := n6_
                have HB := n7_
                have HR728 := n8_
                have HR738 := n9_
                have HO741 := n10_
                clear n0_ n1_ n2_ n3_ n4_ n5_ n6_ n7_ n8_ n9_ n10_
                clear ho hb hg hat
                refine hK.out _ _ ⟨(qj BK689.out 0).trans rfl, (qj BK689.out 1).trans rfl, (qj BK689.out 2).trans rfl⟩ (fun hHeld => ?_)
                clear hK K
                refine zo (a' := ?_) ?_ ?_
                rotate_left
                ·show Act.put _ (some 56) _ = _
                 simp only [Act.put, sA, sB, sC, qw, qx]
                 rfl
                exact zo (by simp only [wZ, Act.put, List.setIfInBounds_toArray, List.set_cons_zero, List.set_cons_succ]) (hCont (v733, v740, v743) _ ⟨hHeld, (by (with_reducible repeat (first | apply Kd.R_alloc | apply Kd.qo | apply Kd.qz)); exact Kd.qW HO731.out (fun _ hk => ⟨hk.1.1, ⟨hk.2, ⟨hk.1.2.2.1, ⟨hk.1.2.1, hk.1.2.2.2⟩⟩⟩⟩)), (by (with_reducible repeat (first | apply Kd.R_alloc | apply Kd.qo | apply Kd.qz)); exact Kd.qW HO741.out (fun _ hk => ⟨hk.1, ⟨hk.2.2.1, ⟨hk.2.2.2.1, ⟨hk.2.1, hk.2.2.2.2⟩⟩⟩⟩)), (by (with_reducible repeat (first | apply Kd.R_alloc | apply Kd.qo | apply Kd.qz)); exact Kd.qW HO744.out (fun _ hk => ⟨hk.1.1, ⟨hk.1.2.2.1, ⟨hk.2, ⟨hk.1.2.1, hk.1.2.2.2⟩⟩⟩⟩)), (by (with_reducible repeat (first | apply Kd.R_alloc | apply Kd.qo | apply Kd.qz)); exact Kd.qW HO_3.out (fun _ hk => ⟨hk.1.1, ⟨hk.1.2.1, ⟨hk.2, ⟨hk.1.2.2.1, hk.1.2.2.2⟩⟩⟩⟩)), (by (with_reducible repeat (first | apply Kd.V_alloc | apply Kd.V_drewN | apply Kd.vg)); exact Kd.zg HO_684001.out (fun _ hk => ⟨hk.1.1, ⟨hk.1.2.2.1, ⟨hk.2, ⟨hk.1.2.2.2.1, ⟨hk.1.2.1, ⟨hk.1.2.2.2.2.1, ⟨hk.1.2.2.2.2.2.1, hk.1.2.2.2.2.2.2⟩⟩⟩⟩⟩⟩⟩)), (by (with_reducible repeat (first | refine qi ?_ _ | refine ql ?_ | refine qh ?_ _)); exact BK683.out), (by (with_reducible repeat (first | refine qi ?_ _ | refine ql ?_ | refine qh ?_ _)); exact BK684.out), (by (with_reducible repeat (first | refine qi ?_ _ | refine ql ?_ | refine qh ?_ _)); exact BK689.out), (by repeat (first | (with_reducible first | exact HB.out | apply qg | apply qb | apply qf | refine qd ?_ GE683.out | refine qd ?_ GE684.out | refine qd ?_ GE689.out) | exact HB.out))⟩)
              rintro ⟨v733, v740, v743⟩ w76 ⟨hS_, h0_, h1_, h2_, h3_, h4_, h5_, h6_, h7_, h8_⟩
              have n0_ : qa (Kd.R k55 55 w76 w.heap.size (fun k_ => (w.heap.size ≤ k_) ∧ some k_ ≠ (v740 : Value).ownBlock ∧ some k_ ≠ (v743 : Value).ownBlock ∧ some k_ ≠ (.slice Ao14 x3_1.length co14 : Value).ownBlock ∧ k_ ≠ gb689) (.slice Ao68 y729.length co68) y729) := ⟨h0_⟩
              have n1_ : qa (Kd.R k55 55 w76 w.heap.size (fun k_ => (w.heap.size ≤ k_) ∧ some k_ ≠ (.slice Ao68 y729.length co68 : Value).ownBlock ∧ some k_ ≠ (v743 : Value).ownBlock ∧ some k_ ≠ (.slice Ao14 x3_1.length co14 : Value).ownBlock ∧ k_ ≠ gb689) v740 y739) := ⟨h1_⟩
              have n2_ : qa (Kd.R k55 55 w76 w.heap.size (fun k_ => (w.heap.size ≤ k_) ∧ some k_ ≠ (.slice Ao68 y729.length co68 : Value).ownBlock ∧ some k_ ≠ (v740 : Value).ownBlock ∧ some k_ ≠ (.slice Ao14 x3_1.length co14 : Value).ownBlock ∧ k_ ≠ gb689) v743 y742) := ⟨h2_⟩
              have n3_ : qa (Kd.R k55 55 w76 w.heap.size (fun k_ => (w.heap.size ≤ k_) ∧ some k_ ≠ (.slice Ao68 y729.length co68 : Value).ownBlock ∧ some k_ ≠ (v740 : Value).ownBlock ∧ some k_ ≠ (v743 : Value).ownBlock ∧ k_ ≠ gb689) (.slice Ao14 x3_1.length co14) x3_1) := ⟨h3_⟩
              have n4_ : qa (Kd.V Kd.string 9 w76 w.heap.size (fun k_ => (P0_1_ k_ ∨ w.heap.size ≤ k_) ∧ some k_ ≠ (.slice Ao68 y729.length co68 : Value).ownBlock ∧ some k_ ≠ (v740 : Value).ownBlock ∧ some k_ ≠ (v743 : Value).ownBlock ∧ some k_ ≠ (.slice Ao14 x3_1.length co14 : Value).ownBlock ∧ k_ ≠ gb683 ∧ k_ ≠ gb684 ∧ k_ ≠ gb689) (.slice A0_1 l0_1.length c0_1) l0_1) := ⟨h4_⟩
              have n5_ : qa (w76.heap[gb683]? = some (.cells #[.int .i64 a0_0, .slice A0_1 l0_1.length c0_1, .slice (some ad688) l0_2.length c0_2] 25 (0, 0))) := ⟨h5_⟩
              have n6_ : qa (w76.heap[gb684]? = some (.cells #[.int .i64 0, .slice none 0 0, .slice none 0 0] 25 (0, 0))) := ⟨h6_⟩
              have n7_ : qa (w76.heap[gb689]? = some (.cells #[.int .i64 ((qc l0_2 x4_1).f0), .int .i64 ((qc l0_2 x4_1).f1), .int .i64 ((qc l0_2 x4_1).f2)] 55 (0, 0))) := ⟨h7_⟩
              have n8_ : qa (Below w.heap.size w w76) := ⟨h8_⟩
              clear HO_3
              clear HO_684001
              clear HO731
              clear BK683
              clear BK684
              clear BK689
              clear HR728
              clear HB
              clear h0_ h1_ h2_ h3_ h4_ h5_ h6_ h7_ h8_
              have HO731 := n0_
              have HO741 := n1_
              have HO744 := n2_
              have HO_3 := n3_
              have HO_684001 := n4_
              have BK683 := n5_
              have BK684 := n6_
              have BK689 := n7_
              have HB := n8_
              clear n0_ n1_ n2_ n3_ n4_ n5_ n6_ n7_ n8_
              have hHeld : w76.cell? ⟨gb689, 0, none⟩ = some (.int .i64 ((qc l0_2 x4_1).f0)) ∧ w76.cell? ⟨gb689, 1, none⟩ = some (.int .i64 ((qc l0_2 x4_1).f1)) ∧ w76.cell? ⟨gb689, 2, none⟩ = some (.int .i64 ((qc l0_2 x4_1).f2)) := hS_
              obtain ⟨Ao78, co78, eo78⟩ := Kd.zn HO744.out
              (first | subst eo78 | (injection eo78 with f1_ f2_ f3_; have f4_ := f1_.symm; have f5_ := f3_.symm; clear f1_ f2_ f3_; subst f4_; subst f5_))
              refine zo (a' := ?_) ?_ ?_
              rotate_left
              ·simp only [wZ, Act.put, List.setIfInBounds_toArray, List.set_cons_zero, List.set_cons_succ]
               rfl
              refine one_ (i := 7) (N := some 59) tb4_9 rfl rfl (zU HT_.out (by kernel_rfl)) (by decide) (fun K hK => ?_)
              refine Kd.vM k55 (w0 := w) w.heap.size (by rfl) (.tmp 56) (.tmp 58) 23 55 (.agg #[(.int .i64 0), (.int .i64 0), (.int .i64 0)]) 24 rfl Try.underlying23 zZ rfl (by decide) (by omega) v740 y739 y742 _ _ _ (fun k_ => (w.heap.size ≤ k_) ∧ some k_ ≠ (.slice Ao14 x3_1.length co14 : Value).ownBlock ∧ some k_ ≠ (.slice Ao68 y729.length co68 : Value).ownBlock ∧ some k_ ≠ (.slice Ao78 y742.length co78 : Value).ownBlock ∧ k_ ≠ gb689) (fun _ => False) rfl rfl ?aO ?aR (fun _ _ h => h) (fun _ h => h.elim) ?aF ?aB ?aS ?aL ?_
              (case aR => repeat (first | exact (Kd.qH HO744.out).2.2 | (with_reducible refine Kd.C_alloc ?_ _) | (with_reducible refine Kd.C_drewN ?_ _) | (with_reducible refine Kd.qQ ?_)))
              (case aB => exact (by repeat (first | (with_reducible first | exact HB.out | apply qg | apply qb | apply qf | refine qd ?_ GE683.out | refine qd ?_ GE684.out | refine qd ?_ GE689.out) | exact HB.out)))
              (case aF => exact (fun k_ hk => ⟨(Nat.le_trans (qA (by repeat (first | (with_reducible first | exact HB.out | apply qg | apply qb | apply qf | refine qd ?_ GE683.out | refine qd ?_ GE684.out | refine qd ?_ GE689.out) | exact HB.out))) hk), Kd.fresh' (Kd.R_lt (by (with_reducible repeat (first | apply Kd.R_alloc | apply Kd.qo | apply Kd.qz)); exact HO_3.out)) k_ hk, Kd.fresh' (Kd.R_lt (by (with_reducible repeat (first | apply Kd.R_alloc | apply Kd.qo | apply Kd.qz)); exact HO731.out)) k_ hk, Kd.fresh' (Kd.R_lt (by (with_reducible repeat (first | apply Kd.R_alloc | apply Kd.qo | apply Kd.qz)); exact HO744.out)) k_ hk, Kd.wD (g := gb689) (o := .cells #[.int .i64 ((qc l0_2 x4_1).f0), .int .i64 ((qc l0_2 x4_1).f1), .int .i64 ((qc l0_2 x4_1).f2)] 55 (0, 0)) (by (with_reducible repeat (first | refine qi ?_ _ | refine ql ?_ | refine qh ?_ _)); exact BK689.out) k_ hk⟩))
              (case aO => exact (by (with_reducible repeat (first | apply Kd.R_alloc | apply Kd.qo | apply Kd.qz)); exact Kd.qW HO741.out (fun _ hk => ⟨hk.1, ⟨hk.2.2.2.1, ⟨hk.2.1, ⟨hk.2.2.1, hk.2.2.2.2⟩⟩⟩⟩)))
              (case aS => exact (qA (by repeat (first | (with_reducible first | exact HB.out | apply qg | apply qb | apply qf | refine qd ?_ GE683.out | refine qd ?_ GE684.out | refine qd ?_ GE689.out) | exact HB.out))))
              (case aL => have := LMc60.out; omega)
              intro v746 w77 ho hb hg hat
              rw [← Ny745.out] at ho
              have n0_ := qa.mk (Kd.vB (ok := (fun k_ => (w.heap.size ≤ k_) ∧ some k_ ≠ (.slice Ao68 y729.length co68 : Value).ownBlock ∧ some k_ ≠ (.slice Ao78 y742.length co78 : Value).ownBlock ∧ k_ ≠ gb689)) (by (with_reducible repeat (first | apply Kd.R_alloc | apply Kd.qo | apply Kd.qz)); exact Kd.qW HO_3.out (fun _ hk => ⟨⟨hk.1, ⟨hk.2.1, ⟨hk.2.2.2.1, hk.2.2.2.2⟩⟩⟩, hk.2.2.1⟩)) hg hat)
              have n1_ := qa.mk (Kd.zJ (ok := (fun k_ => (P0_1_ k_ ∨ w.heap.size ≤ k_) ∧ some k_ ≠ (.slice Ao14 x3_1.length co14 : Value).ownBlock ∧ some k_ ≠ (.slice Ao68 y729.length co68 : Value).ownBlock ∧ some k_ ≠ (.slice Ao78 y742.length co78 : Value).ownBlock ∧ k_ ≠ gb683 ∧ k_ ≠ gb684 ∧ k_ ≠ gb689)) (by (with_reducible repeat (first | apply Kd.V_alloc | apply Kd.V_drewN | apply Kd.vg)); exact Kd.zg HO_684001.out (fun _ hk => ⟨⟨hk.1, ⟨hk.2.2.2.2.1, ⟨hk.2.1, ⟨hk.2.2.2.1, ⟨hk.2.2.2.2.2.1, ⟨hk.2.2.2.2.2.2.1, hk.2.2.2.2.2.2.2⟩⟩⟩⟩⟩⟩, hk.2.2.1⟩)) hg hat)
              have n2_ := qa.mk (q9 (g := gb683) (o := .cells #[.int .i64 a0_0, .slice A0_1 l0_1.length c0_1, .slice (some ad688) l0_2.length c0_2] 25 (0, 0)) (by (with_reducible repeat (first | refine qi ?_ _ | refine ql ?_ | refine qh ?_ _)); exact BK683.out) hg (Kd.R_ne HO741.out BK683.out (by decide)))
              have n3_ := qa.mk (q9 (g := gb684) (o := .cells #[.int .i64 0, .slice none 0 0, .slice none 0 0] 25 (0, 0)) (by (with_reducible repeat (first | refine qi ?_ _ | refine ql ?_ | refine qh ?_ _)); exact BK684.out) hg (Kd.R_ne HO741.out BK684.out (by decide)))
              have n4_ := qa.mk (q9 (g := gb689) (o := .cells #[.int .i64 ((qc l0_2 x4_1).f0), .int .i64 ((qc l0_2 x4_1).f1), .int .i64 ((qc l0_2 x4_1).f2)] 55 (0, 0)) (by (with_reducible repeat (first | refine qi ?_ _ | refine ql ?_ | refine qh ?_ _)); exact BK689.out) hg (Kd.wX HO741.out (fun _ hk => hk.2.2.2.2)))
              have n5_ := qa.mk (Kd.vB (ok := (fun k_ => (w.heap.size ≤ k_) ∧ some k_ ≠ (.slice Ao14 x3_1.length co14 : Value).ownBlock ∧ some k_ ≠ (.slice Ao78 y742.length co78 : Value).ownBlock ∧ k_ ≠ gb689)) (by (with_reducible repeat (first | apply Kd.R_alloc | apply Kd.qo | apply Kd.qz)); exact Kd.qW HO731.out (fun _ hk => ⟨⟨hk.1, ⟨hk.2.2.2.1, ⟨hk.2.2.1, hk.2.2.2.2⟩⟩⟩, hk.2.1⟩)) hg hat)
              have n6_ := qa.mk (Kd.vB (ok := (fun k_ => (w.heap.size ≤ k_) ∧ some k_ ≠ (.slice Ao14 x3_1.length co14 : Value).ownBlock ∧ some k_ ≠ (.slice Ao68 y729.length co68 : Value).ownBlock ∧ k_ ≠ gb689)) (by (with_reducible repeat (first | apply Kd.R_alloc | apply Kd.qo | apply Kd.qz)); exact Kd.qW HO744.out (fun _ hk => ⟨⟨hk.1, ⟨hk.2.2.2.1, ⟨hk.2.1, hk.2.2.2.2⟩⟩⟩, hk.2.2.1⟩)) hg hat)
              have n7_ := qa.mk (hb)
              have n8_ := qa.mk (ho)
              clear HO_3
              clear HO_684001
              clear BK683
              clear BK684
              clear BK689
              clear HO731
              clear HO744
              clear HB
              clear HO741
              have HO_3 := n0_
              have HO_684001 := n1_
              have BK683 := n2_
              have BK684 := n3_
              have BK689 := n4_
              have HO731 := n5_
              have HO744 := n6_
              have HB := n7_
              have HO747 := n8_
              clear n0_ n1_ n2_ n3_ n4_ n5_ n6_ n7_ n8_
              clear ho hb hg hat
              refine hK.out _ _ ⟨(qj BK689.out 0).trans rfl, (qj BK689.out 1).trans rfl, (qj BK689.out 2).trans rfl⟩ (fun hHeld => ?_)
              clear hK K
              refine zo (a' := ?_) ?_ ?_
              rotate_left
              ·show Act.put _ (some 59) _ = _
               simp only [Act.put, sA, sB, sC, qw, qx]
               rfl
              refine one_ (i := 9) (N := some 61) tb4_10 rfl rfl (zU HT_.out (by kernel_rfl)) (by decide) (fun K hK => ?_)
              refine Kd.vM k55 (w0 := w) w.heap.size (by rfl) (.tmp 59) (.tmp 60) 23 55 (.agg #[(.int .i64 0), (.int .i64 0), (.int .i64 0)]) 24 rfl Try.underlying23 zZ rfl (by decide) (by omega) v746 y745 y729 _ _ _ (fun k_ => (w.heap.size ≤ k_) ∧ some k_ ≠ (.slice Ao14 x3_1.length co14 : Value).ownBlock ∧ some k_ ≠ (.slice Ao68 y729.length co68 : Value).ownBlock ∧ some k_ ≠ (.slice Ao78 y742.length co78 : Value).ownBlock ∧ k_ ≠ gb689) (fun _ => False) rfl rfl ?aO ?aR (fun _ _ h => h) (fun _ h => h.elim) ?aF ?aB ?aS ?aL ?_
              (case aR => repeat (first | exact (Kd.qH HO731.out).2.2 | (with_reducible refine Kd.C_alloc ?_ _) | (with_reducible refine Kd.C_drewN ?_ _) | (with_reducible refine Kd.qQ ?_)))
              (case aB => exact (by repeat (first | (with_reducible first | exact HB.out | apply qg | apply qb | apply qf | refine qd ?_ GE683.out | refine qd ?_ GE684.out | refine qd ?_ GE689.out) | exact HB.out)))
              (case aF => exact (fun k_ hk => ⟨(Nat.le_trans (qA (by repeat (first | (with_reducible first | exact HB.out | apply qg | apply qb | apply qf | refine qd ?_ GE683.out | refine qd ?_ GE684.out | refine qd ?_ GE689.out) | exact HB.out))) hk), Kd.fresh' (Kd.R_lt (by (with_reducible repeat (first | apply Kd.R_alloc | apply Kd.qo | apply Kd.qz)); exact HO_3.out)) k_ hk, Kd.fresh' (Kd.R_lt (by (with_reducible repeat (first | apply Kd.R_alloc | apply Kd.qo | apply Kd.qz)); exact HO731.out)) k_ hk, Kd.fresh' (Kd.R_lt (by (with_reducible repeat (first | apply Kd.R_alloc | apply Kd.qo | apply Kd.qz)); exact HO744.out)) k_ hk, Kd.wD (g := gb689) (o := .cells #[.int .i64 ((qc l0_2 x4_1).f0), .int .i64 ((qc l0_2 x4_1).f1), .int .i64 ((qc l0_2 x4_1).f2)] 55 (0, 0)) (by (with_reducible repeat (first | refine qi ?_ _ | refine ql ?_ | refine qh ?_ _)); exact BK689.out) k_ hk⟩))
              (case aO => exact (by (with_reducible repeat (first | apply Kd.R_alloc | apply Kd.qo | apply Kd.qz)); exact HO747.out))
              (case aS => exact (qA (by repeat (first | (with_reducible first | exact HB.out | apply qg | apply qb | apply qf | refine qd ?_ GE683.out | refine qd ?_ GE684.out | refine qd ?_ GE689.out) | exact HB.out))))
              (case aL => have := LMc61.out; omega)
              intro v749 w79 ho hb hg hat
              rw [← Ny748.out] at ho
              have n0_ := qa.mk (Kd.vB (ok := (fun k_ => (w.heap.size ≤ k_) ∧ some k_ ≠ (.slice Ao68 y729.length co68 : Value).ownBlock ∧ some k_ ≠ (.slice Ao78 y742.length co78 : Value).ownBlock ∧ k_ ≠ gb689)) (by (with_reducible repeat (first | apply Kd.R_alloc | apply Kd.qo | apply Kd.qz)); exact HO_3.out) hg hat)
              have n1_ := qa.mk (Kd.zJ (ok := (fun k_ => (P0_1_ k_ ∨ w.heap.size ≤ k_) ∧ some k_ ≠ (.slice Ao14 x3_1.length co14 : Value).ownBlock ∧ some k_ ≠ (.slice Ao68 y729.length co68 : Value).ownBlock ∧ some k_ ≠ (.slice Ao78 y742.length co78 : Value).ownBlock ∧ k_ ≠ gb683 ∧ k_ ≠ gb684 ∧ k_ ≠ gb689)) (by (with_reducible repeat (first | apply Kd.V_alloc | apply Kd.V_drewN | apply Kd.vg)); exact HO_684001.out) hg hat)
              have n2_ := qa.mk (q9 (g := gb683) (o := .cells #[.int .i64 a0_0, .slice A0_1 l0_1.length c0_1, .slice (some ad688) l0_2.length c0_2] 25 (0, 0)) (by (with_reducible repeat (first | refine qi ?_ _ | refine ql ?_ | refine qh ?_ _)); exact BK683.out) hg (Kd.R_ne HO747.out BK683.out (by decide)))
              have n3_ := qa.mk (q9 (g := gb684) (o := .cells #[.int .i64 0, .slice none 0 0, .slice none 0 0] 25 (0, 0)) (by (with_reducible repeat (first | refine qi ?_ _ | refine ql ?_ | refine qh ?_ _)); exact BK684.out) hg (Kd.R_ne HO747.out BK684.out (by decide)))
              have n4_ := qa.mk (q9 (g := gb689) (o := .cells #[.int .i64 ((qc l0_2 x4_1).f0), .int .i64 ((qc l0_2 x4_1).f1), .int .i64 ((qc l0_2 x4_1).f2)] 55 (0, 0)) (by (with_reducible repeat (first | refine qi ?_ _ | refine ql ?_ | refine qh ?_ _)); exact BK689.out) hg (Kd.wX HO747.out (fun _ hk => hk.2.2.2.2)))
              have n5_ := qa.mk (Kd.vB (ok := (fun k_ => (w.heap.size ≤ k_) ∧ some k_ ≠ (.slice Ao14 x3_1.length co14 : Value).ownBlock ∧ some k_ ≠ (.slice Ao78 y742.length co78 : Value).ownBlock ∧ k_ ≠ gb689)) (by (with_reducible repeat (first | apply Kd.R_alloc | apply Kd.qo | apply Kd.qz)); exact HO731.out) hg hat)
              have n6_ := qa.mk (Kd.vB (ok := (fun k_ => (w.heap.size ≤ k_) ∧ some k_ ≠ (.slice Ao14 x3_1.length co14 : Value).ownBlock ∧ some k_ ≠ (.slice Ao68 y729.length co68 : Value).ownBlock ∧ k_ ≠ gb689)) (by (with_reducible repeat (first | apply Kd.R_alloc | apply Kd.qo | apply Kd.qz)); exact HO744.out) hg hat)
              have n7_ := qa.mk (hb)
              have n8_ := qa.mk (ho)
              clear HO_3
              clear HO_684001
              clear BK683
              clear BK684
              clear BK689
              clear HO731
              clear HO744
              clear HB
              clear HO747
              have HO_3 := n0_
              have HO_684001 := n1_
              have BK683 := n2_
              have BK684 := n3_
              have BK689 := n4_
              have HO731 := n5_
              have HO744 := n6_
              have HB := n7_
              have HO750 := n8_
              clear n0_ n1_ n2_ n3_ n4_ n5_ n6_ n7_ n8_
              clear ho hb hg hat
              refine hK.out _ _ ⟨(qj BK689.out 0).trans rfl, (qj BK689.out 1).trans rfl, (qj BK689.out 2).trans rfl⟩ (fun hHeld => ?_)
              clear hK K
              refine zo (a' := ?_) ?_ ?_
              rotate_left
              ·show Act.put _ (some 61) _ = _
               simp only [Act.put, sA, sB, sC, qw, qx]
               rfl
              refine qy (i := 10) (N := some 3) tb4_11 rfl rfl (vo HT_.out (by kernel_rfl)) (fun _ _ _ h => h) (.inl ⟨by rfl, by intro w'; go_simp; with_reducible rfl⟩) (by simp only [Act.put, sA, sB, sC, qw, qx]; rfl) ?_
              refine zP (wO HT_.out (by kernel_rfl)) ?_
              try go_wp2
              go_roundg k2
              case measure => have := HK1.out; have := HK2.out; omega
              case rel => exact ⟨(y748), (wrap64 (x4_1 + 1)), (by first | rfl | (simp; done) | (simp [*]; done)), H', ⟨by have := HK1.out; have := HK2.out; omega⟩, ⟨by (with_reducible repeat (first | apply Kd.R_alloc | apply Kd.qo | apply Kd.qz)); exact Kd.qW HO750.out (fun _ hk => hk.1)⟩, ⟨by (with_reducible repeat (first | apply Kd.V_alloc | apply Kd.V_drewN | apply Kd.vg)); exact Kd.zg HO_684001.out (fun _ hk => ⟨hk.1.1, ⟨hk.2, ⟨hk.1.2.2.2.2.1, hk.1.2.2.2.2.2.1⟩⟩⟩)⟩, ⟨by (with_reducible repeat (first | refine qi ?_ _ | refine ql ?_ | refine qh ?_ _)); exact BK683.out⟩, ⟨by (with_reducible repeat (first | refine qi ?_ _ | refine ql ?_ | refine qh ?_ _)); exact BK684.out⟩, ⟨by repeat (first | (with_reducible first | exact HB.out | apply qg | apply qb | apply qf | refine qd ?_ GE683.out | refine qd ?_ GE684.out | refine qd ?_ GE689.out) | exact HB.out)⟩⟩
             ·rw [if_neg c61] at H
              exact absurd H (by simp)
            ·rw [if_neg c60] at H
             exact absurd H (by simp)
           ·rw [if_neg c59] at H
            exact absurd H (by simp)
          ·rw [if_neg c56] at H
           exact absurd H (by simp)
         ·rw [if_neg c55] at H
          exact absurd H (by simp)
        ·rw [if_neg c54] at H
         exact absurd H (by simp)
    ·rw [if_neg c7] at H
     exact absurd H (by simp)
   ·rw [if_neg c6] at H
    have c6b0 : decide (x4_1 < (l0_2.length : Int)) = false := decide_eq_false c6
    clear c6
    simp only [Option.some.injEq, Prod.mk.injEq] at H
    obtain ⟨rfl, rfl, rfl⟩ := H
    have hnb80 := NB683_684.out
    have hnc80 := NB684_683.out
    have hcz81_0 : wr.cell? ⟨gb683, 0, none⟩ = some (.int .i64 a0_0) := (qj BK683.out 0).trans rfl
    have hcz81_1 : wr.cell? ⟨gb683, 1, none⟩ = some (.slice A0_1 l0_1.length c0_1) := (qj BK683.out 1).trans rfl
    have hcz81_2 : wr.cell? ⟨gb683, 2, none⟩ = some (.slice A0_2 l0_2.length c0_2) := (qj BK683.out 2).trans rfl
    have hfz81_0 := qm BK683.out 0
    have hfz81_1 := qm BK683.out 1
    have hfz81_2 := qm BK683.out 2
    obtain ⟨Ao82, co82, eo82⟩ := Kd.zn HO_3.out
    subst eo82
    have hcz83_0 : wr.cell? ⟨gb684, 0, none⟩ = some (.int .i64 0) := (qj BK684.out 0).trans rfl
    have hcz83_1 : wr.cell? ⟨gb684, 1, none⟩ = some (.slice none 0 0) := (qj BK684.out 1).trans rfl
    have hcz83_2 : wr.cell? ⟨gb684, 2, none⟩ = some (.slice none 0 0) := (qj BK684.out 2).trans rfl
    have hfz83_0 := qm BK684.out 0
    have hfz83_1 := qm BK684.out 1
    have hfz83_2 := qm BK684.out 2
    go_wp2
    refine bodyPost_ret (results_cell_row rfl _ _ gb684 25 #[.int .i64 a0_0, .slice A0_1 l0_1.length c0_1, .slice Ao82 x3_1.length co82] (0, 0) _ rfl (by (with_reducible repeat (first | refine qi ?_ _ | refine ql ?_ | refine qh ?_ _)); refine zq (cs := #[.int .i64 a0_0, .slice A0_1 l0_1.length c0_1, .slice none 0 0]) ?_ 2 _ rfl; (with_reducible repeat (first | refine qi ?_ _ | refine ql ?_ | refine qh ?_ _)); refine zq (cs := #[.int .i64 a0_0, .slice none 0 0, .slice none 0 0]) ?_ 1 _ rfl; (with_reducible repeat (first | refine qi ?_ _ | refine ql ?_ | refine qh ?_ _)); refine zq (cs := #[.int .i64 0, .slice none 0 0, .slice none 0 0]) ?_ 0 _ rfl; (with_reducible repeat (first | refine qi ?_ _ | refine ql ?_ | refine qh ?_ _)); exact BK684.out) Try.underlying25 rfl (by kernel_rfl)) rfl ?_
    exact ⟨_, _, by first | rfl | (simp [errW_none, errW_some] <;> rfl) | (simp [*, errW_none, errW_some] <;> rfl), by (with_reducible repeat (first | apply Kd.V_alloc | apply Kd.V_drewN | apply Kd.vg)); exact Kd.zg (Kd.jA (p := ⟨gb684, 2, none⟩) (Kd.jA (p := ⟨gb684, 1, none⟩) (Kd.jA (p := ⟨gb684, 0, none⟩) (Kd.zg HO_684001.out (fun k_ hk => (⟨hk, hk.2.2.2⟩ : _ ∧ k_ ≠ gb684))) (fun _ hk => hk.2) (.int .i64 a0_0)) (fun _ hk => hk.2) (.slice A0_1 l0_1.length c0_1)) (fun _ hk => hk.2) (.slice Ao82 x3_1.length co82)) (fun _ hk => ⟨hk.1.1, hk.1.2.1⟩), by (with_reducible repeat (first | apply Kd.R_alloc | apply Kd.qo | apply Kd.qz)); exact Kd.qW (Kd.vT (p := ⟨gb684, 2, none⟩) (Kd.vT (p := ⟨gb684, 1, none⟩) (Kd.vT (p := ⟨gb684, 0, none⟩) (Kd.zD HO_3.out BK684.out (by decide)) (fun _ hk => hk.2) (.int .i64 a0_0)) (fun _ hk => hk.2) (.slice A0_1 l0_1.length c0_1)) (fun _ hk => hk.2) (.slice Ao82 x3_1.length co82)) (fun _ hk => hk.1), by repeat (first | (with_reducible first | exact HB.out | apply qg | apply qb | apply qf | refine qd ?_ GE683.out | refine qd ?_ GE684.out) | exact HB.out)⟩
end Go.Proofs.Ytcjbghmhdefdiaa.S
